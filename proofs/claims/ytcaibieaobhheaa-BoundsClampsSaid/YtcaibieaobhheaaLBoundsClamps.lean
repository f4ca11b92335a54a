/- For every box that is not turned inside out and every two places BoundsClamps returns true: the nearest place is no further away than another one of the box. -/
import Derived.Test.YtcaibieaobhheaaRows
import Derived.WalkKit
import Derived.ProofKit
import Derived.OpenShut
import Derived.Test.YtcaibieaobhheaaFacts
import Derived.Test.YtcaibieaobhheaaArgs
import Derived.Test.YtcaibieaobhheaaBoundsAlive
import Derived.Test.YtcaibieaobhheaaVar3
import Derived.Deep.Cut
import Derived.Deep.RegionHeld2
import Derived.Deep.DrawnRows
namespace Go.Proofs.Ytcaibieaobhheaa.boundsClamps
open Go.ChangeShapes Go.WideShapes Go.ChangeAt Go.RowKit M
set_option maxRecDepth 100000
set_option maxHeartbeats 8000000
set_option linter.unusedVariables false
set_option linter.unusedSimpArgs false
attribute [local go_sem ↓] Go.wp_at_zero Go.wp_at_succ
theorem own : ownKnob Try.prog.godebug = none := by kernel_rfl
theorem far_c (a b : Int) (ha : I64 a) (hb : I64 b) (w : World) :
    Calls Try.prog 50 #[.int .i64 a, .int .i64 b] w fun e w' => e = .returned (.int .u64 (absF (a - b))) ∧ Dr w w' := by
  have k1 : b < a → IntKind.u64.wrap (IntKind.u64.wrap a - IntKind.u64.wrap b) = absF (a - b) := by
    intro h; unfold I64 at *; unfold absF; simp only [IntKind.wrap_u64]; split <;> omega
  have k2 : ¬ b < a → IntKind.u64.wrap (IntKind.u64.wrap b - IntKind.u64.wrap a) = absF (a - b) := by
    intro h; unfold I64 at *; unfold absF; simp only [IntKind.wrap_u64]; split <;> omega
  have K1 := Lib.hid k1; have K2 := Lib.hid k2
  clear k1 k2
  by_cases h : b < a
  · go_enter Try.func50, Try.ntmps50
    go_wp2
    go_ret
    exact ⟨r1 (K1.out h), Dr.refl _⟩
  · go_enter Try.func50, Try.ntmps50
    go_wp2
    go_ret
    exact ⟨r1 (K2.out (by omega)), Dr.refl _⟩
theorem clamp_near {a b l h : Int} (hl : l ≤ h) : absF (a - clampI a l h) ≤ absF (a - clampI b l h) := by
  have p := clampI_spec (a := a) hl
  have q := clampI_spec (a := b) hl
  unfold absF; split <;> split <;> omega
theorem clamp_i64 {a l h : Int} (h1 : I64 a) (h2 : I64 l) (h3 : I64 h) : I64 (clampI a l h) := by
  unfold clampI; split
  · exact h2
  · split
    · exact h3
    · exact h1
/-- The walk: the Go text returns true; of what was there nothing turns. -/
theorem walk (w : World) (x : Bx) (hx : x.ok) (k1 k2 : Int) (hk1 : I64 k1) (hk2 : I64 k2) (u1 u2 : Int) (hu1 : I64 u1) (hu2 : I64 u2) :
    Calls Try.prog 13 #[.agg #[.int .i64 x.lx, .int .i64 x.ly, .int .i64 x.hx, .int .i64 x.hy], .agg #[.int .i64 k1, .int .i64 k2], .agg #[.int .i64 u1, .int .i64 u2]] w fun e w' => e = .returned (.bool true) ∧ Bw w w' := by
  have c0 := Lib.hid alive8_c
  by_cases h1 : x.hx < x.lx
  · go_enter Try.func13, Try.ntmps13
    go_wp2_with fail
    (with_reducible refine (c0.out _).mono ?_); rintro en w1 ⟨rfl, hb⟩
    have G1 : Below w.heap.size w w1 := Below.trans (by (repeat (with_reducible refine M.Below.drewN ?_ _)); go_grown) (hb.mono (by go_size))
    have V1_x : M.Var w1 (w.heap.size) #[.int .i64 x.lx, .int .i64 x.ly, .int .i64 x.hx, .int .i64 x.hy] := M.Var.mono (by (repeat (first | (with_reducible assumption) | (with_reducible apply M.var_set45) | (with_reducible refine M.var_alloc' _ _ _ ?_; first | rfl | (simp [go_sem]; done)) | (with_reducible refine M.Var.alloc ?_ _) | (with_reducible refine M.Var.drewN ?_ _) | (with_reducible refine M.Var.drew ?_) | (with_reducible refine M.Var.far ?_ _ _ ?hFar; case hFar => (first | omega | ((try simp [go_sem]) <;> omega))) | fail))) hb
    have V1_k : M.Var w1 (w.heap.size + 1) #[.int .i64 k1, .int .i64 k2] := M.Var.mono (by (repeat (first | (with_reducible assumption) | (with_reducible apply M.var_set45) | (with_reducible refine M.var_alloc' _ _ _ ?_; first | rfl | (simp [go_sem]; done)) | (with_reducible refine M.Var.alloc ?_ _) | (with_reducible refine M.Var.drewN ?_ _) | (with_reducible refine M.Var.drew ?_) | (with_reducible refine M.Var.far ?_ _ _ ?hFar; case hFar => (first | omega | ((try simp [go_sem]) <;> omega))) | fail))) hb
    have V1_u : M.Var w1 (w.heap.size + 1 + 1) #[.int .i64 u1, .int .i64 u2] := M.Var.mono (by (repeat (first | (with_reducible assumption) | (with_reducible apply M.var_set45) | (with_reducible refine M.var_alloc' _ _ _ ?_; first | rfl | (simp [go_sem]; done)) | (with_reducible refine M.Var.alloc ?_ _) | (with_reducible refine M.Var.drewN ?_ _) | (with_reducible refine M.Var.drew ?_) | (with_reducible refine M.Var.far ?_ _ _ ?hFar; case hFar => (first | omega | ((try simp [go_sem]) <;> omega))) | fail))) hb
    have q1_x_0 : w1.cell? ⟨w.heap.size, 0, none⟩ = some (.int .i64 x.lx) := V1_x.c 0 _ rfl
    have q1_x_1 : w1.cell? ⟨w.heap.size, 1, none⟩ = some (.int .i64 x.ly) := V1_x.c 1 _ rfl
    have q1_x_2 : w1.cell? ⟨w.heap.size, 2, none⟩ = some (.int .i64 x.hx) := V1_x.c 2 _ rfl
    have q1_x_3 : w1.cell? ⟨w.heap.size, 3, none⟩ = some (.int .i64 x.hy) := V1_x.c 3 _ rfl
    have f1_x := V1_x.2.2; have L1_x := V1_x.lt; have N1_x := Nat.ne_of_gt L1_x; have M1_x := Nat.ne_of_lt L1_x
    have HV1_x := Lib.hid V1_x
    have q1_k_0 : w1.cell? ⟨w.heap.size + 1, 0, none⟩ = some (.int .i64 k1) := V1_k.c 0 _ rfl
    have q1_k_1 : w1.cell? ⟨w.heap.size + 1, 1, none⟩ = some (.int .i64 k2) := V1_k.c 1 _ rfl
    have f1_k := V1_k.2.2; have L1_k := V1_k.lt; have N1_k := Nat.ne_of_gt L1_k; have M1_k := Nat.ne_of_lt L1_k
    have HV1_k := Lib.hid V1_k
    have q1_u_0 : w1.cell? ⟨w.heap.size + 1 + 1, 0, none⟩ = some (.int .i64 u1) := V1_u.c 0 _ rfl
    have q1_u_1 : w1.cell? ⟨w.heap.size + 1 + 1, 1, none⟩ = some (.int .i64 u2) := V1_u.c 1 _ rfl
    have f1_u := V1_u.2.2; have L1_u := V1_u.lt; have N1_u := Nat.ne_of_gt L1_u; have M1_u := Nat.ne_of_lt L1_u
    have HV1_u := Lib.hid V1_u
    have S1 := G1.size; clear hb
    go_wp2_with fail
    go_ret
    exact ⟨rfl, by (repeat (with_reducible refine M.Below.drewN ?_ _)); go_grown⟩
  by_cases h2 : x.hy < x.ly
  · go_enter Try.func13, Try.ntmps13
    go_wp2_with fail
    (with_reducible refine (c0.out _).mono ?_); rintro en w1 ⟨rfl, hb⟩
    have G1 : Below w.heap.size w w1 := Below.trans (by (repeat (with_reducible refine M.Below.drewN ?_ _)); go_grown) (hb.mono (by go_size))
    have V1_x : M.Var w1 (w.heap.size) #[.int .i64 x.lx, .int .i64 x.ly, .int .i64 x.hx, .int .i64 x.hy] := M.Var.mono (by (repeat (first | (with_reducible assumption) | (with_reducible apply M.var_set45) | (with_reducible refine M.var_alloc' _ _ _ ?_; first | rfl | (simp [go_sem]; done)) | (with_reducible refine M.Var.alloc ?_ _) | (with_reducible refine M.Var.drewN ?_ _) | (with_reducible refine M.Var.drew ?_) | (with_reducible refine M.Var.far ?_ _ _ ?hFar; case hFar => (first | omega | ((try simp [go_sem]) <;> omega))) | fail))) hb
    have V1_k : M.Var w1 (w.heap.size + 1) #[.int .i64 k1, .int .i64 k2] := M.Var.mono (by (repeat (first | (with_reducible assumption) | (with_reducible apply M.var_set45) | (with_reducible refine M.var_alloc' _ _ _ ?_; first | rfl | (simp [go_sem]; done)) | (with_reducible refine M.Var.alloc ?_ _) | (with_reducible refine M.Var.drewN ?_ _) | (with_reducible refine M.Var.drew ?_) | (with_reducible refine M.Var.far ?_ _ _ ?hFar; case hFar => (first | omega | ((try simp [go_sem]) <;> omega))) | fail))) hb
    have V1_u : M.Var w1 (w.heap.size + 1 + 1) #[.int .i64 u1, .int .i64 u2] := M.Var.mono (by (repeat (first | (with_reducible assumption) | (with_reducible apply M.var_set45) | (with_reducible refine M.var_alloc' _ _ _ ?_; first | rfl | (simp [go_sem]; done)) | (with_reducible refine M.Var.alloc ?_ _) | (with_reducible refine M.Var.drewN ?_ _) | (with_reducible refine M.Var.drew ?_) | (with_reducible refine M.Var.far ?_ _ _ ?hFar; case hFar => (first | omega | ((try simp [go_sem]) <;> omega))) | fail))) hb
    have q1_x_0 : w1.cell? ⟨w.heap.size, 0, none⟩ = some (.int .i64 x.lx) := V1_x.c 0 _ rfl
    have q1_x_1 : w1.cell? ⟨w.heap.size, 1, none⟩ = some (.int .i64 x.ly) := V1_x.c 1 _ rfl
    have q1_x_2 : w1.cell? ⟨w.heap.size, 2, none⟩ = some (.int .i64 x.hx) := V1_x.c 2 _ rfl
    have q1_x_3 : w1.cell? ⟨w.heap.size, 3, none⟩ = some (.int .i64 x.hy) := V1_x.c 3 _ rfl
    have f1_x := V1_x.2.2; have L1_x := V1_x.lt; have N1_x := Nat.ne_of_gt L1_x; have M1_x := Nat.ne_of_lt L1_x
    have HV1_x := Lib.hid V1_x
    have q1_k_0 : w1.cell? ⟨w.heap.size + 1, 0, none⟩ = some (.int .i64 k1) := V1_k.c 0 _ rfl
    have q1_k_1 : w1.cell? ⟨w.heap.size + 1, 1, none⟩ = some (.int .i64 k2) := V1_k.c 1 _ rfl
    have f1_k := V1_k.2.2; have L1_k := V1_k.lt; have N1_k := Nat.ne_of_gt L1_k; have M1_k := Nat.ne_of_lt L1_k
    have HV1_k := Lib.hid V1_k
    have q1_u_0 : w1.cell? ⟨w.heap.size + 1 + 1, 0, none⟩ = some (.int .i64 u1) := V1_u.c 0 _ rfl
    have q1_u_1 : w1.cell? ⟨w.heap.size + 1 + 1, 1, none⟩ = some (.int .i64 u2) := V1_u.c 1 _ rfl
    have f1_u := V1_u.2.2; have L1_u := V1_u.lt; have N1_u := Nat.ne_of_gt L1_u; have M1_u := Nat.ne_of_lt L1_u
    have HV1_u := Lib.hid V1_u
    have S1 := G1.size; clear hb
    go_wp2_with fail
    go_ret
    exact ⟨rfl, by (repeat (with_reducible refine M.Below.drewN ?_ _)); go_grown⟩
  have CA := Lib.hid (clampV_x k1 k2 x)
  have CB := Lib.hid (clampV_x u1 u2 x)
  have n1 := clamp_near (a := k1) (b := u1) (l := x.lx) (h := x.hx) (by omega)
  have n2 := clamp_near (a := k2) (b := u2) (l := x.ly) (h := x.hy) (by omega)
  have i1 := clamp_i64 hk1 hx.lx hx.hx
  have i2 := clamp_i64 hk2 hx.ly hx.hy
  have i3 := clamp_i64 hu1 hx.lx hx.hx
  have i4 := clamp_i64 hu2 hx.ly hx.hy
  have F1 := Lib.hid (far_c k1 _ hk1 i1); have F2 := Lib.hid (far_c k1 _ hk1 i3); have F3 := Lib.hid (far_c k2 _ hk2 i2); have F4 := Lib.hid (far_c k2 _ hk2 i4)
  clear i1 i2 i3 i4
  go_enter Try.func13, Try.ntmps13
  go_wp2_with fail
  (with_reducible refine (c0.out _).mono ?_); rintro en w1 ⟨rfl, hb⟩
  have G1 : Below w.heap.size w w1 := Below.trans (by (repeat (with_reducible refine M.Below.drewN ?_ _)); go_grown) (hb.mono (by go_size))
  have V1_x : M.Var w1 (w.heap.size) #[.int .i64 x.lx, .int .i64 x.ly, .int .i64 x.hx, .int .i64 x.hy] := M.Var.mono (by (repeat (first | (with_reducible assumption) | (with_reducible apply M.var_set45) | (with_reducible refine M.var_alloc' _ _ _ ?_; first | rfl | (simp [go_sem]; done)) | (with_reducible refine M.Var.alloc ?_ _) | (with_reducible refine M.Var.drewN ?_ _) | (with_reducible refine M.Var.drew ?_) | (with_reducible refine M.Var.far ?_ _ _ ?hFar; case hFar => (first | omega | ((try simp [go_sem]) <;> omega))) | fail))) hb
  have V1_k : M.Var w1 (w.heap.size + 1) #[.int .i64 k1, .int .i64 k2] := M.Var.mono (by (repeat (first | (with_reducible assumption) | (with_reducible apply M.var_set45) | (with_reducible refine M.var_alloc' _ _ _ ?_; first | rfl | (simp [go_sem]; done)) | (with_reducible refine M.Var.alloc ?_ _) | (with_reducible refine M.Var.drewN ?_ _) | (with_reducible refine M.Var.drew ?_) | (with_reducible refine M.Var.far ?_ _ _ ?hFar; case hFar => (first | omega | ((try simp [go_sem]) <;> omega))) | fail))) hb
  have V1_u : M.Var w1 (w.heap.size + 1 + 1) #[.int .i64 u1, .int .i64 u2] := M.Var.mono (by (repeat (first | (with_reducible assumption) | (with_reducible apply M.var_set45) | (with_reducible refine M.var_alloc' _ _ _ ?_; first | rfl | (simp [go_sem]; done)) | (with_reducible refine M.Var.alloc ?_ _) | (with_reducible refine M.Var.drewN ?_ _) | (with_reducible refine M.Var.drew ?_) | (with_reducible refine M.Var.far ?_ _ _ ?hFar; case hFar => (first | omega | ((try simp [go_sem]) <;> omega))) | fail))) hb
  have q1_x_0 : w1.cell? ⟨w.heap.size, 0, none⟩ = some (.int .i64 x.lx) := V1_x.c 0 _ rfl
  have q1_x_1 : w1.cell? ⟨w.heap.size, 1, none⟩ = some (.int .i64 x.ly) := V1_x.c 1 _ rfl
  have q1_x_2 : w1.cell? ⟨w.heap.size, 2, none⟩ = some (.int .i64 x.hx) := V1_x.c 2 _ rfl
  have q1_x_3 : w1.cell? ⟨w.heap.size, 3, none⟩ = some (.int .i64 x.hy) := V1_x.c 3 _ rfl
  have f1_x := V1_x.2.2; have L1_x := V1_x.lt; have N1_x := Nat.ne_of_gt L1_x; have M1_x := Nat.ne_of_lt L1_x
  have HV1_x := Lib.hid V1_x
  have q1_k_0 : w1.cell? ⟨w.heap.size + 1, 0, none⟩ = some (.int .i64 k1) := V1_k.c 0 _ rfl
  have q1_k_1 : w1.cell? ⟨w.heap.size + 1, 1, none⟩ = some (.int .i64 k2) := V1_k.c 1 _ rfl
  have f1_k := V1_k.2.2; have L1_k := V1_k.lt; have N1_k := Nat.ne_of_gt L1_k; have M1_k := Nat.ne_of_lt L1_k
  have HV1_k := Lib.hid V1_k
  have q1_u_0 : w1.cell? ⟨w.heap.size + 1 + 1, 0, none⟩ = some (.int .i64 u1) := V1_u.c 0 _ rfl
  have q1_u_1 : w1.cell? ⟨w.heap.size + 1 + 1, 1, none⟩ = some (.int .i64 u2) := V1_u.c 1 _ rfl
  have f1_u := V1_u.2.2; have L1_u := V1_u.lt; have N1_u := Nat.ne_of_gt L1_u; have M1_u := Nat.ne_of_lt L1_u
  have HV1_u := Lib.hid V1_u
  have S1 := G1.size; clear hb
  go_wp2_with fail
  go_cut [7, 8] from 31 (fun s7 s8 wc => ∃ (g1 : Nat) (g2 : Nat), s7 = .pointer (some ⟨g1, 0, none⟩) ∧ s8 = .pointer (some ⟨g2, 0, none⟩) ∧ w.heap.size + 1 + 1 < g1 ∧ w.heap.size + 1 + 1 < g2 ∧ g1 ≠ g2 ∧ Hid (Below w.heap.size w wc) ∧ M.Var wc (w.heap.size) #[.int .i64 x.lx, .int .i64 x.ly, .int .i64 x.hx, .int .i64 x.hy] ∧ M.Var wc (w.heap.size + 1) #[.int .i64 k1, .int .i64 k2] ∧ M.Var wc (w.heap.size + 1 + 1) #[.int .i64 u1, .int .i64 u2] ∧ M.Var wc (g1) #[.int .i64 (clampI k1 x.lx x.hx), .int .i64 (clampI k2 x.ly x.hy)] ∧ M.Var wc (g2) #[.int .i64 (clampI u1 x.lx x.hx), .int .i64 (clampI u2 x.ly x.hy)])
  case first =>
    go_region_held2 (fun w' => w'.cell? ⟨w.heap.size, 0, none⟩ = some (.int .i64 x.lx) ∧ w'.cell? ⟨w.heap.size, 1, none⟩ = some (.int .i64 x.ly) ∧ w'.cell? ⟨w.heap.size, 2, none⟩ = some (.int .i64 x.hx) ∧ w'.cell? ⟨w.heap.size, 3, none⟩ = some (.int .i64 x.hy) ∧ w'.cell? ⟨w.heap.size + 1, 0, none⟩ = some (.int .i64 k1) ∧ w'.cell? ⟨w.heap.size + 1, 1, none⟩ = some (.int .i64 k2) ∧ w'.cell? ⟨w.heap.size + 1 + 1, 0, none⟩ = some (.int .i64 u1) ∧ w'.cell? ⟨w.heap.size + 1 + 1, 1, none⟩ = some (.int .i64 u2)) (first | (go_keep; done) | (simp [*, go_sem, World.cell?_alloc_some, World.cell?_setCell_far]; done))
      (first
      | (go_at_call 49; (with_reducible refine (CA.out _).mono ?_); rintro en w2 ⟨rfl, hb⟩
         have G2 : Below w.heap.size w w2 := Below.trans (by (repeat (with_reducible refine M.Below.drewN ?_ _)); go_grown) (hb.mono (by go_size))
         have V2_x : M.Var w2 (w.heap.size) #[.int .i64 x.lx, .int .i64 x.ly, .int .i64 x.hx, .int .i64 x.hy] := M.Var.mono (b := w.heap.size) (cs := #[.int .i64 x.lx, .int .i64 x.ly, .int .i64 x.hx, .int .i64 x.hy]) (by (repeat (first | (with_reducible assumption) | (with_reducible apply M.var_setV) | (with_reducible apply M.var_setI) | (with_reducible apply M.var_setB) | (with_reducible apply M.var_setHt) | (with_reducible apply M.var_setBd) | (with_reducible apply M.var_set2) | (with_reducible apply M.var_set3) | (with_reducible apply M.var_set4) | (with_reducible apply M.var_set45) | (with_reducible apply M.var_set67) | (with_reducible apply M.var_setF) | (with_reducible refine M.var_alloc' _ _ _ ?_; first | rfl | (focus (simp [go_sem]; done))) | (with_reducible refine M.Var.alloc ?_ _) | (with_reducible refine M.Var.drewN ?_ _) | (with_reducible refine M.Var.drew ?_) | (with_reducible refine M.Var.far ?_ _ _ ?hFar; case hFar => (first | omega | ((try simp [go_sem]) <;> omega))) | fail))) hb
         have q2_x_0 : w2.cell? ⟨w.heap.size, 0, none⟩ = some (.int .i64 x.lx) := V2_x.c 0 _ rfl
         have q2_x_1 : w2.cell? ⟨w.heap.size, 1, none⟩ = some (.int .i64 x.ly) := V2_x.c 1 _ rfl
         have q2_x_2 : w2.cell? ⟨w.heap.size, 2, none⟩ = some (.int .i64 x.hx) := V2_x.c 2 _ rfl
         have q2_x_3 : w2.cell? ⟨w.heap.size, 3, none⟩ = some (.int .i64 x.hy) := V2_x.c 3 _ rfl
         have f2_x := V2_x.2.2
         have L2_x := V2_x.lt
         have N2_x := Nat.ne_of_gt L2_x
         have M2_x := Nat.ne_of_lt L2_x
         have V2_k : M.Var w2 (w.heap.size + 1) #[.int .i64 k1, .int .i64 k2] := M.Var.mono (b := w.heap.size + 1) (cs := #[.int .i64 k1, .int .i64 k2]) (by (repeat (first | (with_reducible assumption) | (with_reducible apply M.var_setV) | (with_reducible apply M.var_setI) | (with_reducible apply M.var_setB) | (with_reducible apply M.var_setHt) | (with_reducible apply M.var_setBd) | (with_reducible apply M.var_set2) | (with_reducible apply M.var_set3) | (with_reducible apply M.var_set4) | (with_reducible apply M.var_set45) | (with_reducible apply M.var_set67) | (with_reducible apply M.var_setF) | (with_reducible refine M.var_alloc' _ _ _ ?_; first | rfl | (focus (simp [go_sem]; done))) | (with_reducible refine M.Var.alloc ?_ _) | (with_reducible refine M.Var.drewN ?_ _) | (with_reducible refine M.Var.drew ?_) | (with_reducible refine M.Var.far ?_ _ _ ?hFar; case hFar => (first | omega | ((try simp [go_sem]) <;> omega))) | fail))) hb
         have q2_k_0 : w2.cell? ⟨w.heap.size + 1, 0, none⟩ = some (.int .i64 k1) := V2_k.c 0 _ rfl
         have q2_k_1 : w2.cell? ⟨w.heap.size + 1, 1, none⟩ = some (.int .i64 k2) := V2_k.c 1 _ rfl
         have f2_k := V2_k.2.2
         have L2_k := V2_k.lt
         have N2_k := Nat.ne_of_gt L2_k
         have M2_k := Nat.ne_of_lt L2_k
         have V2_u : M.Var w2 (w.heap.size + 1 + 1) #[.int .i64 u1, .int .i64 u2] := M.Var.mono (b := w.heap.size + 1 + 1) (cs := #[.int .i64 u1, .int .i64 u2]) (by (repeat (first | (with_reducible assumption) | (with_reducible apply M.var_setV) | (with_reducible apply M.var_setI) | (with_reducible apply M.var_setB) | (with_reducible apply M.var_setHt) | (with_reducible apply M.var_setBd) | (with_reducible apply M.var_set2) | (with_reducible apply M.var_set3) | (with_reducible apply M.var_set4) | (with_reducible apply M.var_set45) | (with_reducible apply M.var_set67) | (with_reducible apply M.var_setF) | (with_reducible refine M.var_alloc' _ _ _ ?_; first | rfl | (focus (simp [go_sem]; done))) | (with_reducible refine M.Var.alloc ?_ _) | (with_reducible refine M.Var.drewN ?_ _) | (with_reducible refine M.Var.drew ?_) | (with_reducible refine M.Var.far ?_ _ _ ?hFar; case hFar => (first | omega | ((try simp [go_sem]) <;> omega))) | fail))) hb
         have q2_u_0 : w2.cell? ⟨w.heap.size + 1 + 1, 0, none⟩ = some (.int .i64 u1) := V2_u.c 0 _ rfl
         have q2_u_1 : w2.cell? ⟨w.heap.size + 1 + 1, 1, none⟩ = some (.int .i64 u2) := V2_u.c 1 _ rfl
         have f2_u := V2_u.2.2
         have L2_u := V2_u.lt
         have N2_u := Nat.ne_of_gt L2_u
         have M2_u := Nat.ne_of_lt L2_u
         try (refine M.opt (T := M.Var w2 (w1.heap.size) #[.int .i64 0, .int .i64 0]) ?_ ?_; refine M.Var.mono (b := w1.heap.size) (cs := #[.int .i64 0, .int .i64 0]) ?_ hb; (repeat (first | (with_reducible assumption) | (with_reducible apply M.var_setV) | (with_reducible apply M.var_setI) | (with_reducible apply M.var_setB) | (with_reducible apply M.var_setHt) | (with_reducible apply M.var_setBd) | (with_reducible apply M.var_set2) | (with_reducible apply M.var_set3) | (with_reducible apply M.var_set4) | (with_reducible apply M.var_set45) | (with_reducible apply M.var_set67) | (with_reducible apply M.var_setF) | (with_reducible refine M.var_alloc' _ _ _ ?_; first | rfl | (focus (simp [go_sem]; done))) | (with_reducible refine M.Var.alloc ?_ _) | (with_reducible refine M.Var.drewN ?_ _) | (with_reducible refine M.Var.drew ?_) | (with_reducible refine M.Var.far ?_ _ _ ?hFar; case hFar => (first | omega | ((try simp [go_sem]) <;> omega))) | fail)); intro V2_o0; have q2_o0_0 : w2.cell? ⟨w1.heap.size, 0, none⟩ = some (.int .i64 0) := V2_o0.c 0 _ rfl; have q2_o0_1 : w2.cell? ⟨w1.heap.size, 1, none⟩ = some (.int .i64 0) := V2_o0.c 1 _ rfl; have f2_o0 := V2_o0.2.2; have L2_o0 := V2_o0.lt; have N2_o0 := Nat.ne_of_gt L2_o0; have M2_o0 := Nat.ne_of_lt L2_o0)
         try (refine M.opt (T := M.Var w2 (w1.heap.size + 1) #[.int .i64 0, .int .i64 0]) ?_ ?_; refine M.Var.mono (b := w1.heap.size + 1) (cs := #[.int .i64 0, .int .i64 0]) ?_ hb; (repeat (first | (with_reducible assumption) | (with_reducible apply M.var_setV) | (with_reducible apply M.var_setI) | (with_reducible apply M.var_setB) | (with_reducible apply M.var_setHt) | (with_reducible apply M.var_setBd) | (with_reducible apply M.var_set2) | (with_reducible apply M.var_set3) | (with_reducible apply M.var_set4) | (with_reducible apply M.var_set45) | (with_reducible apply M.var_set67) | (with_reducible apply M.var_setF) | (with_reducible refine M.var_alloc' _ _ _ ?_; first | rfl | (focus (simp [go_sem]; done))) | (with_reducible refine M.Var.alloc ?_ _) | (with_reducible refine M.Var.drewN ?_ _) | (with_reducible refine M.Var.drew ?_) | (with_reducible refine M.Var.far ?_ _ _ ?hFar; case hFar => (first | omega | ((try simp [go_sem]) <;> omega))) | fail)); intro V2_o1; have q2_o1_0 : w2.cell? ⟨w1.heap.size + 1, 0, none⟩ = some (.int .i64 0) := V2_o1.c 0 _ rfl; have q2_o1_1 : w2.cell? ⟨w1.heap.size + 1, 1, none⟩ = some (.int .i64 0) := V2_o1.c 1 _ rfl; have f2_o1 := V2_o1.2.2; have L2_o1 := V2_o1.lt; have N2_o1 := Nat.ne_of_gt L2_o1; have M2_o1 := Nat.ne_of_lt L2_o1)
         try (refine M.opt (T := M.Var w2 (w2.heap.size) #[.int .i64 0, .int .i64 0]) ?_ ?_; refine M.Var.mono (b := w2.heap.size) (cs := #[.int .i64 0, .int .i64 0]) ?_ hb; (repeat (first | (with_reducible assumption) | (with_reducible apply M.var_setV) | (with_reducible apply M.var_setI) | (with_reducible apply M.var_setB) | (with_reducible apply M.var_setHt) | (with_reducible apply M.var_setBd) | (with_reducible apply M.var_set2) | (with_reducible apply M.var_set3) | (with_reducible apply M.var_set4) | (with_reducible apply M.var_set45) | (with_reducible apply M.var_set67) | (with_reducible apply M.var_setF) | (with_reducible refine M.var_alloc' _ _ _ ?_; first | rfl | (focus (simp [go_sem]; done))) | (with_reducible refine M.Var.alloc ?_ _) | (with_reducible refine M.Var.drewN ?_ _) | (with_reducible refine M.Var.drew ?_) | (with_reducible refine M.Var.far ?_ _ _ ?hFar; case hFar => (first | omega | ((try simp [go_sem]) <;> omega))) | fail)); intro V2_o2; have q2_o2_0 : w2.cell? ⟨w2.heap.size, 0, none⟩ = some (.int .i64 0) := V2_o2.c 0 _ rfl; have q2_o2_1 : w2.cell? ⟨w2.heap.size, 1, none⟩ = some (.int .i64 0) := V2_o2.c 1 _ rfl; have f2_o2 := V2_o2.2.2; have L2_o2 := V2_o2.lt; have N2_o2 := Nat.ne_of_gt L2_o2; have M2_o2 := Nat.ne_of_lt L2_o2)
         try (refine M.opt (T := M.Var w2 (w2.heap.size + 1) #[.int .i64 0, .int .i64 0]) ?_ ?_; refine M.Var.mono (b := w2.heap.size + 1) (cs := #[.int .i64 0, .int .i64 0]) ?_ hb; (repeat (first | (with_reducible assumption) | (with_reducible apply M.var_setV) | (with_reducible apply M.var_setI) | (with_reducible apply M.var_setB) | (with_reducible apply M.var_setHt) | (with_reducible apply M.var_setBd) | (with_reducible apply M.var_set2) | (with_reducible apply M.var_set3) | (with_reducible apply M.var_set4) | (with_reducible apply M.var_set45) | (with_reducible apply M.var_set67) | (with_reducible apply M.var_setF) | (with_reducible refine M.var_alloc' _ _ _ ?_; first | rfl | (focus (simp [go_sem]; done))) | (with_reducible refine M.Var.alloc ?_ _) | (with_reducible refine M.Var.drewN ?_ _) | (with_reducible refine M.Var.drew ?_) | (with_reducible refine M.Var.far ?_ _ _ ?hFar; case hFar => (first | omega | ((try simp [go_sem]) <;> omega))) | fail)); intro V2_o3; have q2_o3_0 : w2.cell? ⟨w2.heap.size + 1, 0, none⟩ = some (.int .i64 0) := V2_o3.c 0 _ rfl; have q2_o3_1 : w2.cell? ⟨w2.heap.size + 1, 1, none⟩ = some (.int .i64 0) := V2_o3.c 1 _ rfl; have f2_o3 := V2_o3.2.2; have L2_o3 := V2_o3.lt; have N2_o3 := Nat.ne_of_gt L2_o3; have M2_o3 := Nat.ne_of_lt L2_o3)
         try (refine M.opt (T := M.Var w2 (w3.heap.size) #[.int .i64 0, .int .i64 0]) ?_ ?_; refine M.Var.mono (b := w3.heap.size) (cs := #[.int .i64 0, .int .i64 0]) ?_ hb; (repeat (first | (with_reducible assumption) | (with_reducible apply M.var_setV) | (with_reducible apply M.var_setI) | (with_reducible apply M.var_setB) | (with_reducible apply M.var_setHt) | (with_reducible apply M.var_setBd) | (with_reducible apply M.var_set2) | (with_reducible apply M.var_set3) | (with_reducible apply M.var_set4) | (with_reducible apply M.var_set45) | (with_reducible apply M.var_set67) | (with_reducible apply M.var_setF) | (with_reducible refine M.var_alloc' _ _ _ ?_; first | rfl | (focus (simp [go_sem]; done))) | (with_reducible refine M.Var.alloc ?_ _) | (with_reducible refine M.Var.drewN ?_ _) | (with_reducible refine M.Var.drew ?_) | (with_reducible refine M.Var.far ?_ _ _ ?hFar; case hFar => (first | omega | ((try simp [go_sem]) <;> omega))) | fail)); intro V2_o4; have q2_o4_0 : w2.cell? ⟨w3.heap.size, 0, none⟩ = some (.int .i64 0) := V2_o4.c 0 _ rfl; have q2_o4_1 : w2.cell? ⟨w3.heap.size, 1, none⟩ = some (.int .i64 0) := V2_o4.c 1 _ rfl; have f2_o4 := V2_o4.2.2; have L2_o4 := V2_o4.lt; have N2_o4 := Nat.ne_of_gt L2_o4; have M2_o4 := Nat.ne_of_lt L2_o4)
         try (refine M.opt (T := M.Var w2 (w3.heap.size + 1) #[.int .i64 0, .int .i64 0]) ?_ ?_; refine M.Var.mono (b := w3.heap.size + 1) (cs := #[.int .i64 0, .int .i64 0]) ?_ hb; (repeat (first | (with_reducible assumption) | (with_reducible apply M.var_setV) | (with_reducible apply M.var_setI) | (with_reducible apply M.var_setB) | (with_reducible apply M.var_setHt) | (with_reducible apply M.var_setBd) | (with_reducible apply M.var_set2) | (with_reducible apply M.var_set3) | (with_reducible apply M.var_set4) | (with_reducible apply M.var_set45) | (with_reducible apply M.var_set67) | (with_reducible apply M.var_setF) | (with_reducible refine M.var_alloc' _ _ _ ?_; first | rfl | (focus (simp [go_sem]; done))) | (with_reducible refine M.Var.alloc ?_ _) | (with_reducible refine M.Var.drewN ?_ _) | (with_reducible refine M.Var.drew ?_) | (with_reducible refine M.Var.far ?_ _ _ ?hFar; case hFar => (first | omega | ((try simp [go_sem]) <;> omega))) | fail)); intro V2_o5; have q2_o5_0 : w2.cell? ⟨w3.heap.size + 1, 0, none⟩ = some (.int .i64 0) := V2_o5.c 0 _ rfl; have q2_o5_1 : w2.cell? ⟨w3.heap.size + 1, 1, none⟩ = some (.int .i64 0) := V2_o5.c 1 _ rfl; have f2_o5 := V2_o5.2.2; have L2_o5 := V2_o5.lt; have N2_o5 := Nat.ne_of_gt L2_o5; have M2_o5 := Nat.ne_of_lt L2_o5)
         have S2 := G2.size
         have HG2 := Lib.hid G2; clear G2 hb)
      | (go_at_call 49; (with_reducible refine (CB.out _).mono ?_); rintro en w3 ⟨rfl, hb⟩
         have G3 : Below w.heap.size w w3 := Below.trans (by have G := HG2.out; (repeat (with_reducible refine M.Below.drewN ?_ _)); go_grown) (hb.mono (by go_size))
         have V3_x : M.Var w3 (w.heap.size) #[.int .i64 x.lx, .int .i64 x.ly, .int .i64 x.hx, .int .i64 x.hy] := M.Var.mono (b := w.heap.size) (cs := #[.int .i64 x.lx, .int .i64 x.ly, .int .i64 x.hx, .int .i64 x.hy]) (by (repeat (first | (with_reducible assumption) | (with_reducible apply M.var_setV) | (with_reducible apply M.var_setI) | (with_reducible apply M.var_setB) | (with_reducible apply M.var_setHt) | (with_reducible apply M.var_setBd) | (with_reducible apply M.var_set2) | (with_reducible apply M.var_set3) | (with_reducible apply M.var_set4) | (with_reducible apply M.var_set45) | (with_reducible apply M.var_set67) | (with_reducible apply M.var_setF) | (with_reducible refine M.var_alloc' _ _ _ ?_; first | rfl | (focus (simp [go_sem]; done))) | (with_reducible refine M.Var.alloc ?_ _) | (with_reducible refine M.Var.drewN ?_ _) | (with_reducible refine M.Var.drew ?_) | (with_reducible refine M.Var.far ?_ _ _ ?hFar; case hFar => (first | omega | ((try simp [go_sem]) <;> omega))) | fail))) hb
         have q3_x_0 : w3.cell? ⟨w.heap.size, 0, none⟩ = some (.int .i64 x.lx) := V3_x.c 0 _ rfl
         have q3_x_1 : w3.cell? ⟨w.heap.size, 1, none⟩ = some (.int .i64 x.ly) := V3_x.c 1 _ rfl
         have q3_x_2 : w3.cell? ⟨w.heap.size, 2, none⟩ = some (.int .i64 x.hx) := V3_x.c 2 _ rfl
         have q3_x_3 : w3.cell? ⟨w.heap.size, 3, none⟩ = some (.int .i64 x.hy) := V3_x.c 3 _ rfl
         have f3_x := V3_x.2.2
         have L3_x := V3_x.lt
         have N3_x := Nat.ne_of_gt L3_x
         have M3_x := Nat.ne_of_lt L3_x
         have V3_k : M.Var w3 (w.heap.size + 1) #[.int .i64 k1, .int .i64 k2] := M.Var.mono (b := w.heap.size + 1) (cs := #[.int .i64 k1, .int .i64 k2]) (by (repeat (first | (with_reducible assumption) | (with_reducible apply M.var_setV) | (with_reducible apply M.var_setI) | (with_reducible apply M.var_setB) | (with_reducible apply M.var_setHt) | (with_reducible apply M.var_setBd) | (with_reducible apply M.var_set2) | (with_reducible apply M.var_set3) | (with_reducible apply M.var_set4) | (with_reducible apply M.var_set45) | (with_reducible apply M.var_set67) | (with_reducible apply M.var_setF) | (with_reducible refine M.var_alloc' _ _ _ ?_; first | rfl | (focus (simp [go_sem]; done))) | (with_reducible refine M.Var.alloc ?_ _) | (with_reducible refine M.Var.drewN ?_ _) | (with_reducible refine M.Var.drew ?_) | (with_reducible refine M.Var.far ?_ _ _ ?hFar; case hFar => (first | omega | ((try simp [go_sem]) <;> omega))) | fail))) hb
         have q3_k_0 : w3.cell? ⟨w.heap.size + 1, 0, none⟩ = some (.int .i64 k1) := V3_k.c 0 _ rfl
         have q3_k_1 : w3.cell? ⟨w.heap.size + 1, 1, none⟩ = some (.int .i64 k2) := V3_k.c 1 _ rfl
         have f3_k := V3_k.2.2
         have L3_k := V3_k.lt
         have N3_k := Nat.ne_of_gt L3_k
         have M3_k := Nat.ne_of_lt L3_k
         have V3_u : M.Var w3 (w.heap.size + 1 + 1) #[.int .i64 u1, .int .i64 u2] := M.Var.mono (b := w.heap.size + 1 + 1) (cs := #[.int .i64 u1, .int .i64 u2]) (by (repeat (first | (with_reducible assumption) | (with_reducible apply M.var_setV) | (with_reducible apply M.var_setI) | (with_reducible apply M.var_setB) | (with_reducible apply M.var_setHt) | (with_reducible apply M.var_setBd) | (with_reducible apply M.var_set2) | (with_reducible apply M.var_set3) | (with_reducible apply M.var_set4) | (with_reducible apply M.var_set45) | (with_reducible apply M.var_set67) | (with_reducible apply M.var_setF) | (with_reducible refine M.var_alloc' _ _ _ ?_; first | rfl | (focus (simp [go_sem]; done))) | (with_reducible refine M.Var.alloc ?_ _) | (with_reducible refine M.Var.drewN ?_ _) | (with_reducible refine M.Var.drew ?_) | (with_reducible refine M.Var.far ?_ _ _ ?hFar; case hFar => (first | omega | ((try simp [go_sem]) <;> omega))) | fail))) hb
         have q3_u_0 : w3.cell? ⟨w.heap.size + 1 + 1, 0, none⟩ = some (.int .i64 u1) := V3_u.c 0 _ rfl
         have q3_u_1 : w3.cell? ⟨w.heap.size + 1 + 1, 1, none⟩ = some (.int .i64 u2) := V3_u.c 1 _ rfl
         have f3_u := V3_u.2.2
         have L3_u := V3_u.lt
         have N3_u := Nat.ne_of_gt L3_u
         have M3_u := Nat.ne_of_lt L3_u
         try (refine M.opt (T := M.Var w3 (w1.heap.size) #[.int .i64 0, .int .i64 0]) ?_ ?_; refine M.Var.mono (b := w1.heap.size) (cs := #[.int .i64 0, .int .i64 0]) ?_ hb; (repeat (first | (with_reducible assumption) | (with_reducible apply M.var_setV) | (with_reducible apply M.var_setI) | (with_reducible apply M.var_setB) | (with_reducible apply M.var_setHt) | (with_reducible apply M.var_setBd) | (with_reducible apply M.var_set2) | (with_reducible apply M.var_set3) | (with_reducible apply M.var_set4) | (with_reducible apply M.var_set45) | (with_reducible apply M.var_set67) | (with_reducible apply M.var_setF) | (with_reducible refine M.var_alloc' _ _ _ ?_; first | rfl | (focus (simp [go_sem]; done))) | (with_reducible refine M.Var.alloc ?_ _) | (with_reducible refine M.Var.drewN ?_ _) | (with_reducible refine M.Var.drew ?_) | (with_reducible refine M.Var.far ?_ _ _ ?hFar; case hFar => (first | omega | ((try simp [go_sem]) <;> omega))) | fail)); intro V3_o0; have q3_o0_0 : w3.cell? ⟨w1.heap.size, 0, none⟩ = some (.int .i64 0) := V3_o0.c 0 _ rfl; have q3_o0_1 : w3.cell? ⟨w1.heap.size, 1, none⟩ = some (.int .i64 0) := V3_o0.c 1 _ rfl; have f3_o0 := V3_o0.2.2; have L3_o0 := V3_o0.lt; have N3_o0 := Nat.ne_of_gt L3_o0; have M3_o0 := Nat.ne_of_lt L3_o0)
         try (refine M.opt (T := M.Var w3 (w1.heap.size + 1) #[.int .i64 0, .int .i64 0]) ?_ ?_; refine M.Var.mono (b := w1.heap.size + 1) (cs := #[.int .i64 0, .int .i64 0]) ?_ hb; (repeat (first | (with_reducible assumption) | (with_reducible apply M.var_setV) | (with_reducible apply M.var_setI) | (with_reducible apply M.var_setB) | (with_reducible apply M.var_setHt) | (with_reducible apply M.var_setBd) | (with_reducible apply M.var_set2) | (with_reducible apply M.var_set3) | (with_reducible apply M.var_set4) | (with_reducible apply M.var_set45) | (with_reducible apply M.var_set67) | (with_reducible apply M.var_setF) | (with_reducible refine M.var_alloc' _ _ _ ?_; first | rfl | (focus (simp [go_sem]; done))) | (with_reducible refine M.Var.alloc ?_ _) | (with_reducible refine M.Var.drewN ?_ _) | (with_reducible refine M.Var.drew ?_) | (with_reducible refine M.Var.far ?_ _ _ ?hFar; case hFar => (first | omega | ((try simp [go_sem]) <;> omega))) | fail)); intro V3_o1; have q3_o1_0 : w3.cell? ⟨w1.heap.size + 1, 0, none⟩ = some (.int .i64 0) := V3_o1.c 0 _ rfl; have q3_o1_1 : w3.cell? ⟨w1.heap.size + 1, 1, none⟩ = some (.int .i64 0) := V3_o1.c 1 _ rfl; have f3_o1 := V3_o1.2.2; have L3_o1 := V3_o1.lt; have N3_o1 := Nat.ne_of_gt L3_o1; have M3_o1 := Nat.ne_of_lt L3_o1)
         try (refine M.opt (T := M.Var w3 (w2.heap.size) #[.int .i64 0, .int .i64 0]) ?_ ?_; refine M.Var.mono (b := w2.heap.size) (cs := #[.int .i64 0, .int .i64 0]) ?_ hb; (repeat (first | (with_reducible assumption) | (with_reducible apply M.var_setV) | (with_reducible apply M.var_setI) | (with_reducible apply M.var_setB) | (with_reducible apply M.var_setHt) | (with_reducible apply M.var_setBd) | (with_reducible apply M.var_set2) | (with_reducible apply M.var_set3) | (with_reducible apply M.var_set4) | (with_reducible apply M.var_set45) | (with_reducible apply M.var_set67) | (with_reducible apply M.var_setF) | (with_reducible refine M.var_alloc' _ _ _ ?_; first | rfl | (focus (simp [go_sem]; done))) | (with_reducible refine M.Var.alloc ?_ _) | (with_reducible refine M.Var.drewN ?_ _) | (with_reducible refine M.Var.drew ?_) | (with_reducible refine M.Var.far ?_ _ _ ?hFar; case hFar => (first | omega | ((try simp [go_sem]) <;> omega))) | fail)); intro V3_o2; have q3_o2_0 : w3.cell? ⟨w2.heap.size, 0, none⟩ = some (.int .i64 0) := V3_o2.c 0 _ rfl; have q3_o2_1 : w3.cell? ⟨w2.heap.size, 1, none⟩ = some (.int .i64 0) := V3_o2.c 1 _ rfl; have f3_o2 := V3_o2.2.2; have L3_o2 := V3_o2.lt; have N3_o2 := Nat.ne_of_gt L3_o2; have M3_o2 := Nat.ne_of_lt L3_o2)
         try (refine M.opt (T := M.Var w3 (w2.heap.size + 1) #[.int .i64 0, .int .i64 0]) ?_ ?_; refine M.Var.mono (b := w2.heap.size + 1) (cs := #[.int .i64 0, .int .i64 0]) ?_ hb; (repeat (first | (with_reducible assumption) | (with_reducible apply M.var_setV) | (with_reducible apply M.var_setI) | (with_reducible apply M.var_setB) | (with_reducible apply M.var_setHt) | (with_reducible apply M.var_setBd) | (with_reducible apply M.var_set2) | (with_reducible apply M.var_set3) | (with_reducible apply M.var_set4) | (with_reducible apply M.var_set45) | (with_reducible apply M.var_set67) | (with_reducible apply M.var_setF) | (with_reducible refine M.var_alloc' _ _ _ ?_; first | rfl | (focus (simp [go_sem]; done))) | (with_reducible refine M.Var.alloc ?_ _) | (with_reducible refine M.Var.drewN ?_ _) | (with_reducible refine M.Var.drew ?_) | (with_reducible refine M.Var.far ?_ _ _ ?hFar; case hFar => (first | omega | ((try simp [go_sem]) <;> omega))) | fail)); intro V3_o3; have q3_o3_0 : w3.cell? ⟨w2.heap.size + 1, 0, none⟩ = some (.int .i64 0) := V3_o3.c 0 _ rfl; have q3_o3_1 : w3.cell? ⟨w2.heap.size + 1, 1, none⟩ = some (.int .i64 0) := V3_o3.c 1 _ rfl; have f3_o3 := V3_o3.2.2; have L3_o3 := V3_o3.lt; have N3_o3 := Nat.ne_of_gt L3_o3; have M3_o3 := Nat.ne_of_lt L3_o3)
         try (refine M.opt (T := M.Var w3 (w3.heap.size) #[.int .i64 0, .int .i64 0]) ?_ ?_; refine M.Var.mono (b := w3.heap.size) (cs := #[.int .i64 0, .int .i64 0]) ?_ hb; (repeat (first | (with_reducible assumption) | (with_reducible apply M.var_setV) | (with_reducible apply M.var_setI) | (with_reducible apply M.var_setB) | (with_reducible apply M.var_setHt) | (with_reducible apply M.var_setBd) | (with_reducible apply M.var_set2) | (with_reducible apply M.var_set3) | (with_reducible apply M.var_set4) | (with_reducible apply M.var_set45) | (with_reducible apply M.var_set67) | (with_reducible apply M.var_setF) | (with_reducible refine M.var_alloc' _ _ _ ?_; first | rfl | (focus (simp [go_sem]; done))) | (with_reducible refine M.Var.alloc ?_ _) | (with_reducible refine M.Var.drewN ?_ _) | (with_reducible refine M.Var.drew ?_) | (with_reducible refine M.Var.far ?_ _ _ ?hFar; case hFar => (first | omega | ((try simp [go_sem]) <;> omega))) | fail)); intro V3_o4; have q3_o4_0 : w3.cell? ⟨w3.heap.size, 0, none⟩ = some (.int .i64 0) := V3_o4.c 0 _ rfl; have q3_o4_1 : w3.cell? ⟨w3.heap.size, 1, none⟩ = some (.int .i64 0) := V3_o4.c 1 _ rfl; have f3_o4 := V3_o4.2.2; have L3_o4 := V3_o4.lt; have N3_o4 := Nat.ne_of_gt L3_o4; have M3_o4 := Nat.ne_of_lt L3_o4)
         try (refine M.opt (T := M.Var w3 (w3.heap.size + 1) #[.int .i64 0, .int .i64 0]) ?_ ?_; refine M.Var.mono (b := w3.heap.size + 1) (cs := #[.int .i64 0, .int .i64 0]) ?_ hb; (repeat (first | (with_reducible assumption) | (with_reducible apply M.var_setV) | (with_reducible apply M.var_setI) | (with_reducible apply M.var_setB) | (with_reducible apply M.var_setHt) | (with_reducible apply M.var_setBd) | (with_reducible apply M.var_set2) | (with_reducible apply M.var_set3) | (with_reducible apply M.var_set4) | (with_reducible apply M.var_set45) | (with_reducible apply M.var_set67) | (with_reducible apply M.var_setF) | (with_reducible refine M.var_alloc' _ _ _ ?_; first | rfl | (focus (simp [go_sem]; done))) | (with_reducible refine M.Var.alloc ?_ _) | (with_reducible refine M.Var.drewN ?_ _) | (with_reducible refine M.Var.drew ?_) | (with_reducible refine M.Var.far ?_ _ _ ?hFar; case hFar => (first | omega | ((try simp [go_sem]) <;> omega))) | fail)); intro V3_o5; have q3_o5_0 : w3.cell? ⟨w3.heap.size + 1, 0, none⟩ = some (.int .i64 0) := V3_o5.c 0 _ rfl; have q3_o5_1 : w3.cell? ⟨w3.heap.size + 1, 1, none⟩ = some (.int .i64 0) := V3_o5.c 1 _ rfl; have f3_o5 := V3_o5.2.2; have L3_o5 := V3_o5.lt; have N3_o5 := Nat.ne_of_gt L3_o5; have M3_o5 := Nat.ne_of_lt L3_o5)
         clear V2_x f2_x q2_x_0 q2_x_1 q2_x_2 q2_x_3 V2_k f2_k q2_k_0 q2_k_1 V2_u f2_u q2_u_0 q2_u_1
         try clear V2_o0
         try clear f2_o0
         try clear q2_o0_0
         try clear q2_o0_1
         try clear V2_o1
         try clear f2_o1
         try clear q2_o1_0
         try clear q2_o1_1
         try clear V2_o2
         try clear f2_o2
         try clear q2_o2_0
         try clear q2_o2_1
         try clear V2_o3
         try clear f2_o3
         try clear q2_o3_0
         try clear q2_o3_1
         try clear V2_o4
         try clear f2_o4
         try clear q2_o4_0
         try clear q2_o4_1
         try clear V2_o5
         try clear f2_o5
         try clear q2_o5_0
         try clear q2_o5_1
         have S3 := G3.size
         have HG3 := Lib.hid G3; clear G3 hb)
      )
    all_goals
      go_wp2_with (with_reducible refine M.stopPost ?_)
      go_meet
      case rel => exact ⟨_, _, rfl, rfl, by omega, by omega, by omega, Lib.hid (by have G := HG3.out; (repeat (with_reducible refine M.Below.drewN ?_ _)); go_grown), by (repeat (first | (with_reducible assumption) | (with_reducible apply M.var_setV) | (with_reducible apply M.var_setI) | (with_reducible apply M.var_setB) | (with_reducible apply M.var_setHt) | (with_reducible apply M.var_setBd) | (with_reducible apply M.var_set2) | (with_reducible apply M.var_set3) | (with_reducible apply M.var_set4) | (with_reducible apply M.var_set45) | (with_reducible apply M.var_set67) | (with_reducible apply M.var_setF) | (with_reducible refine M.var_alloc' _ _ _ ?_; first | rfl | (focus (simp [go_sem]; done))) | (with_reducible refine M.Var.alloc ?_ _) | (with_reducible refine M.Var.drewN ?_ _) | (with_reducible refine M.Var.drew ?_) | (with_reducible refine M.Var.far ?_ _ _ ?hFar; case hFar => (first | omega | ((try simp [go_sem]) <;> omega))) | fail)), by (repeat (first | (with_reducible assumption) | (with_reducible apply M.var_setV) | (with_reducible apply M.var_setI) | (with_reducible apply M.var_setB) | (with_reducible apply M.var_setHt) | (with_reducible apply M.var_setBd) | (with_reducible apply M.var_set2) | (with_reducible apply M.var_set3) | (with_reducible apply M.var_set4) | (with_reducible apply M.var_set45) | (with_reducible apply M.var_set67) | (with_reducible apply M.var_setF) | (with_reducible refine M.var_alloc' _ _ _ ?_; first | rfl | (focus (simp [go_sem]; done))) | (with_reducible refine M.Var.alloc ?_ _) | (with_reducible refine M.Var.drewN ?_ _) | (with_reducible refine M.Var.drew ?_) | (with_reducible refine M.Var.far ?_ _ _ ?hFar; case hFar => (first | omega | ((try simp [go_sem]) <;> omega))) | fail)), by (repeat (first | (with_reducible assumption) | (with_reducible apply M.var_setV) | (with_reducible apply M.var_setI) | (with_reducible apply M.var_setB) | (with_reducible apply M.var_setHt) | (with_reducible apply M.var_setBd) | (with_reducible apply M.var_set2) | (with_reducible apply M.var_set3) | (with_reducible apply M.var_set4) | (with_reducible apply M.var_set45) | (with_reducible apply M.var_set67) | (with_reducible apply M.var_setF) | (with_reducible refine M.var_alloc' _ _ _ ?_; first | rfl | (focus (simp [go_sem]; done))) | (with_reducible refine M.Var.alloc ?_ _) | (with_reducible refine M.Var.drewN ?_ _) | (with_reducible refine M.Var.drew ?_) | (with_reducible refine M.Var.far ?_ _ _ ?hFar; case hFar => (first | omega | ((try simp [go_sem]) <;> omega))) | fail)), by (repeat (first | (with_reducible assumption) | (with_reducible apply M.var_setV) | (with_reducible apply M.var_setI) | (with_reducible apply M.var_setB) | (with_reducible apply M.var_setHt) | (with_reducible apply M.var_setBd) | (with_reducible apply M.var_set2) | (with_reducible apply M.var_set3) | (with_reducible apply M.var_set4) | (with_reducible apply M.var_set45) | (with_reducible apply M.var_set67) | (with_reducible apply M.var_setF) | (with_reducible refine M.var_alloc' _ _ _ ?_; first | rfl | (focus (simp [go_sem]; done))) | (with_reducible refine M.Var.alloc ?_ _) | (with_reducible refine M.Var.drewN ?_ _) | (with_reducible refine M.Var.drew ?_) | (with_reducible refine M.Var.far ?_ _ _ ?hFar; case hFar => (first | omega | ((try simp [go_sem]) <;> omega))) | fail)), by (repeat (first | (with_reducible assumption) | (with_reducible apply M.var_setV) | (with_reducible apply M.var_setI) | (with_reducible apply M.var_setB) | (with_reducible apply M.var_setHt) | (with_reducible apply M.var_setBd) | (with_reducible apply M.var_set2) | (with_reducible apply M.var_set3) | (with_reducible apply M.var_set4) | (with_reducible apply M.var_set45) | (with_reducible apply M.var_set67) | (with_reducible apply M.var_setF) | (with_reducible refine M.var_alloc' _ _ _ ?_; first | rfl | (focus (simp [go_sem]; done))) | (with_reducible refine M.Var.alloc ?_ _) | (with_reducible refine M.Var.drewN ?_ _) | (with_reducible refine M.Var.drew ?_) | (with_reducible refine M.Var.far ?_ _ _ ?hFar; case hFar => (first | omega | ((try simp [go_sem]) <;> omega))) | fail))⟩
  case rest =>
    obtain ⟨g1, g2, rfl, rfl, hg1, hg2, hne, HGc, Vc_x, Vc_k, Vc_u, Vc_p, Vc_q⟩ := hcut
    have Sc : w.heap.size ≤ wc.heap.size := HGc.out.size
    have qc_x_0 : wc.cell? ⟨w.heap.size, 0, none⟩ = some (.int .i64 x.lx) := Vc_x.c 0 _ rfl
    have qc_x_1 : wc.cell? ⟨w.heap.size, 1, none⟩ = some (.int .i64 x.ly) := Vc_x.c 1 _ rfl
    have qc_x_2 : wc.cell? ⟨w.heap.size, 2, none⟩ = some (.int .i64 x.hx) := Vc_x.c 2 _ rfl
    have qc_x_3 : wc.cell? ⟨w.heap.size, 3, none⟩ = some (.int .i64 x.hy) := Vc_x.c 3 _ rfl
    have fc_x := Vc_x.2.2; have Lc_x := Vc_x.lt; have Nc_x := Nat.ne_of_gt Lc_x; have Mc_x := Nat.ne_of_lt Lc_x
    have qc_k_0 : wc.cell? ⟨w.heap.size + 1, 0, none⟩ = some (.int .i64 k1) := Vc_k.c 0 _ rfl
    have qc_k_1 : wc.cell? ⟨w.heap.size + 1, 1, none⟩ = some (.int .i64 k2) := Vc_k.c 1 _ rfl
    have fc_k := Vc_k.2.2; have Lc_k := Vc_k.lt; have Nc_k := Nat.ne_of_gt Lc_k; have Mc_k := Nat.ne_of_lt Lc_k
    have qc_u_0 : wc.cell? ⟨w.heap.size + 1 + 1, 0, none⟩ = some (.int .i64 u1) := Vc_u.c 0 _ rfl
    have qc_u_1 : wc.cell? ⟨w.heap.size + 1 + 1, 1, none⟩ = some (.int .i64 u2) := Vc_u.c 1 _ rfl
    have fc_u := Vc_u.2.2; have Lc_u := Vc_u.lt; have Nc_u := Nat.ne_of_gt Lc_u; have Mc_u := Nat.ne_of_lt Lc_u
    have qc_p_0 : wc.cell? ⟨g1, 0, none⟩ = some (.int .i64 (clampI k1 x.lx x.hx)) := Vc_p.c 0 _ rfl
    have qc_p_1 : wc.cell? ⟨g1, 1, none⟩ = some (.int .i64 (clampI k2 x.ly x.hy)) := Vc_p.c 1 _ rfl
    have fc_p := Vc_p.2.2; have Lc_p := Vc_p.lt; have Nc_p := Nat.ne_of_gt Lc_p; have Mc_p := Nat.ne_of_lt Lc_p
    have qc_q_0 : wc.cell? ⟨g2, 0, none⟩ = some (.int .i64 (clampI u1 x.lx x.hx)) := Vc_q.c 0 _ rfl
    have qc_q_1 : wc.cell? ⟨g2, 1, none⟩ = some (.int .i64 (clampI u2 x.ly x.hy)) := Vc_q.c 1 _ rfl
    have fc_q := Vc_q.2.2; have Lc_q := Vc_q.lt; have Nc_q := Nat.ne_of_gt Lc_q; have Mc_q := Nat.ne_of_lt Lc_q
    go_wp2_with (with_reducible refine M.stopPost ?_)
    have b1 := decide_eq_true n1
    have b2 := decide_eq_true n2
    refine M.wp_region_later (fun w' => M.Var w' (w.heap.size + 1) #[.int .i64 k1, .int .i64 k2] ∧ M.Var w' (g1) #[.int .i64 (clampI k1 x.lx x.hx), .int .i64 (clampI k2 x.ly x.hy)] ∧ M.Var w' (g2) #[.int .i64 (clampI u1 x.lx x.hx), .int .i64 (clampI u2 x.ly x.hy)] ∧ True) (by kernel_rfl) (by kernel_rfl) (fun w' hb => ⟨M.Var.mono (by (repeat (first | (with_reducible assumption) | (with_reducible apply M.var_set45) | (with_reducible refine M.var_alloc' _ _ _ ?_; first | rfl | (simp [go_sem]; done)) | (with_reducible refine M.Var.alloc ?_ _) | (with_reducible refine M.Var.drewN ?_ _) | (with_reducible refine M.Var.drew ?_) | (with_reducible refine M.Var.far ?_ _ _ ?hFar; case hFar => (first | omega | ((try simp [go_sem]) <;> omega))) | fail)) : M.Var _ (w.heap.size + 1) #[.int .i64 k1, .int .i64 k2]) hb, M.Var.mono (by (repeat (first | (with_reducible assumption) | (with_reducible apply M.var_set45) | (with_reducible refine M.var_alloc' _ _ _ ?_; first | rfl | (simp [go_sem]; done)) | (with_reducible refine M.Var.alloc ?_ _) | (with_reducible refine M.Var.drewN ?_ _) | (with_reducible refine M.Var.drew ?_) | (with_reducible refine M.Var.far ?_ _ _ ?hFar; case hFar => (first | omega | ((try simp [go_sem]) <;> omega))) | fail)) : M.Var _ (g1) #[.int .i64 (clampI k1 x.lx x.hx), .int .i64 (clampI k2 x.ly x.hy)]) hb, M.Var.mono (by (repeat (first | (with_reducible assumption) | (with_reducible apply M.var_set45) | (with_reducible refine M.var_alloc' _ _ _ ?_; first | rfl | (simp [go_sem]; done)) | (with_reducible refine M.Var.alloc ?_ _) | (with_reducible refine M.Var.drewN ?_ _) | (with_reducible refine M.Var.drew ?_) | (with_reducible refine M.Var.far ?_ _ _ ?hFar; case hFar => (first | omega | ((try simp [go_sem]) <;> omega))) | fail)) : M.Var _ (g2) #[.int .i64 (clampI u1 x.lx x.hx), .int .i64 (clampI u2 x.ly x.hy)]) hb, trivial⟩) ?_
    intro hS
    have z4_k_0 := fun p => (hS p).1.c 0 _ rfl
    have z4_k_1 := fun p => (hS p).1.c 1 _ rfl
    have z4_p_0 := fun p => (hS p).2.1.c 0 _ rfl
    have z4_p_1 := fun p => (hS p).2.1.c 1 _ rfl
    have z4_q_0 := fun p => (hS p).2.2.1.c 0 _ rfl
    have z4_q_1 := fun p => (hS p).2.2.1.c 1 _ rfl
    have HS := Lib.hid hS; clear hS
    repeat (go_big_quiet_step ((first
          | (go_at_call 50; with_reducible exact M.later_of_dr (F1.out _))
          | (go_at_call 50; with_reducible exact M.later_of_dr (F2.out _))
          | (go_at_call 50; with_reducible exact M.later_of_dr (F3.out _))
          | (go_at_call 50; with_reducible exact M.later_of_dr (F4.out _))
      )))
    refine wpQuiet_nil ?_
    intro w4 hw'
    obtain ⟨pL, hL⟩ := hw'
    have hb := pL.h; rw [← hL] at hb; clear hL pL
    have G4 : Below w.heap.size w w4 := Below.trans (by have G := HGc.out; (repeat (with_reducible refine M.Below.drewN ?_ _)); go_grown) (hb.mono (by go_size))
    have V4_x : M.Var w4 (w.heap.size) #[.int .i64 x.lx, .int .i64 x.ly, .int .i64 x.hx, .int .i64 x.hy] := M.Var.mono (by (repeat (first | (with_reducible assumption) | (with_reducible apply M.var_set45) | (with_reducible refine M.var_alloc' _ _ _ ?_; first | rfl | (simp [go_sem]; done)) | (with_reducible refine M.Var.alloc ?_ _) | (with_reducible refine M.Var.drewN ?_ _) | (with_reducible refine M.Var.drew ?_) | (with_reducible refine M.Var.far ?_ _ _ ?hFar; case hFar => (first | omega | ((try simp [go_sem]) <;> omega))) | fail))) hb
    have V4_k : M.Var w4 (w.heap.size + 1) #[.int .i64 k1, .int .i64 k2] := M.Var.mono (by (repeat (first | (with_reducible assumption) | (with_reducible apply M.var_set45) | (with_reducible refine M.var_alloc' _ _ _ ?_; first | rfl | (simp [go_sem]; done)) | (with_reducible refine M.Var.alloc ?_ _) | (with_reducible refine M.Var.drewN ?_ _) | (with_reducible refine M.Var.drew ?_) | (with_reducible refine M.Var.far ?_ _ _ ?hFar; case hFar => (first | omega | ((try simp [go_sem]) <;> omega))) | fail))) hb
    have V4_u : M.Var w4 (w.heap.size + 1 + 1) #[.int .i64 u1, .int .i64 u2] := M.Var.mono (by (repeat (first | (with_reducible assumption) | (with_reducible apply M.var_set45) | (with_reducible refine M.var_alloc' _ _ _ ?_; first | rfl | (simp [go_sem]; done)) | (with_reducible refine M.Var.alloc ?_ _) | (with_reducible refine M.Var.drewN ?_ _) | (with_reducible refine M.Var.drew ?_) | (with_reducible refine M.Var.far ?_ _ _ ?hFar; case hFar => (first | omega | ((try simp [go_sem]) <;> omega))) | fail))) hb
    have V4_p : M.Var w4 (g1) #[.int .i64 (clampI k1 x.lx x.hx), .int .i64 (clampI k2 x.ly x.hy)] := M.Var.mono (by (repeat (first | (with_reducible assumption) | (with_reducible apply M.var_set45) | (with_reducible refine M.var_alloc' _ _ _ ?_; first | rfl | (simp [go_sem]; done)) | (with_reducible refine M.Var.alloc ?_ _) | (with_reducible refine M.Var.drewN ?_ _) | (with_reducible refine M.Var.drew ?_) | (with_reducible refine M.Var.far ?_ _ _ ?hFar; case hFar => (first | omega | ((try simp [go_sem]) <;> omega))) | fail))) hb
    have V4_q : M.Var w4 (g2) #[.int .i64 (clampI u1 x.lx x.hx), .int .i64 (clampI u2 x.ly x.hy)] := M.Var.mono (by (repeat (first | (with_reducible assumption) | (with_reducible apply M.var_set45) | (with_reducible refine M.var_alloc' _ _ _ ?_; first | rfl | (simp [go_sem]; done)) | (with_reducible refine M.Var.alloc ?_ _) | (with_reducible refine M.Var.drewN ?_ _) | (with_reducible refine M.Var.drew ?_) | (with_reducible refine M.Var.far ?_ _ _ ?hFar; case hFar => (first | omega | ((try simp [go_sem]) <;> omega))) | fail))) hb
    have q4_x_0 : w4.cell? ⟨w.heap.size, 0, none⟩ = some (.int .i64 x.lx) := V4_x.c 0 _ rfl
    have q4_x_1 : w4.cell? ⟨w.heap.size, 1, none⟩ = some (.int .i64 x.ly) := V4_x.c 1 _ rfl
    have q4_x_2 : w4.cell? ⟨w.heap.size, 2, none⟩ = some (.int .i64 x.hx) := V4_x.c 2 _ rfl
    have q4_x_3 : w4.cell? ⟨w.heap.size, 3, none⟩ = some (.int .i64 x.hy) := V4_x.c 3 _ rfl
    have f4_x := V4_x.2.2; have L4_x := V4_x.lt; have N4_x := Nat.ne_of_gt L4_x; have M4_x := Nat.ne_of_lt L4_x
    have HV4_x := Lib.hid V4_x
    have q4_k_0 : w4.cell? ⟨w.heap.size + 1, 0, none⟩ = some (.int .i64 k1) := V4_k.c 0 _ rfl
    have q4_k_1 : w4.cell? ⟨w.heap.size + 1, 1, none⟩ = some (.int .i64 k2) := V4_k.c 1 _ rfl
    have f4_k := V4_k.2.2; have L4_k := V4_k.lt; have N4_k := Nat.ne_of_gt L4_k; have M4_k := Nat.ne_of_lt L4_k
    have HV4_k := Lib.hid V4_k
    have q4_u_0 : w4.cell? ⟨w.heap.size + 1 + 1, 0, none⟩ = some (.int .i64 u1) := V4_u.c 0 _ rfl
    have q4_u_1 : w4.cell? ⟨w.heap.size + 1 + 1, 1, none⟩ = some (.int .i64 u2) := V4_u.c 1 _ rfl
    have f4_u := V4_u.2.2; have L4_u := V4_u.lt; have N4_u := Nat.ne_of_gt L4_u; have M4_u := Nat.ne_of_lt L4_u
    have HV4_u := Lib.hid V4_u
    have q4_p_0 : w4.cell? ⟨g1, 0, none⟩ = some (.int .i64 (clampI k1 x.lx x.hx)) := V4_p.c 0 _ rfl
    have q4_p_1 : w4.cell? ⟨g1, 1, none⟩ = some (.int .i64 (clampI k2 x.ly x.hy)) := V4_p.c 1 _ rfl
    have f4_p := V4_p.2.2; have L4_p := V4_p.lt; have N4_p := Nat.ne_of_gt L4_p; have M4_p := Nat.ne_of_lt L4_p
    have HV4_p := Lib.hid V4_p
    have q4_q_0 : w4.cell? ⟨g2, 0, none⟩ = some (.int .i64 (clampI u1 x.lx x.hx)) := V4_q.c 0 _ rfl
    have q4_q_1 : w4.cell? ⟨g2, 1, none⟩ = some (.int .i64 (clampI u2 x.ly x.hy)) := V4_q.c 1 _ rfl
    have f4_q := V4_q.2.2; have L4_q := V4_q.lt; have N4_q := Nat.ne_of_gt L4_q; have M4_q := Nat.ne_of_lt L4_q
    have HV4_q := Lib.hid V4_q
    have S4 := G4.size; clear hb
    clear z4_k_0 z4_k_1 z4_p_0 z4_p_1 z4_q_0 z4_q_1 HS
    go_wp2_with fail
    go_ret
    exact ⟨rfl, by have G := HGc.out; (repeat (with_reducible refine M.Below.drewN ?_ _)); go_grown⟩

theorem lifted (os : Os) (started : os.Started) (H : Type) (enc : TypeId × Value → H) :
    ReturnsInHanded {} Try.checked os 13 .any (Rows.boundsClampsSpec.pre6 enc Try.prog Try.f13 Rows.boundsClampsRow.domain false) (Rows.boundsClampsSpec.post enc Try.prog Try.f13 false true false false) := by
  refine returnsInHanded_of_change (C := Try.checked) own started (by kernel_rfl) Try.func13
    (ChangeSpec.witness6 (enc := enc) (C := Try.checked) false ⟨#[], #[.agg #[.int .i64 0, .int .i64 0, .int .i64 0, .int .i64 0], .agg #[.int .i64 0, .int .i64 0], .agg #[.int .i64 0, .int .i64 0]], []⟩ 8 (by kernel_rfl) (by kernel_rfl) (by kernel_rfl) (by kernel_rfl)) ?_
  intro W base args ds gs before hval0 hW hcnd _
  have hval : ∀ (j : Nat) t v, Try.f13.params[j]? = some t → args[j]? = some v → Value.okWide Try.prog W .any base t v := hval0
  have hW' := hW
  obtain ⟨p, q, hA0, hV, rfl, hfz, hnd⟩ := hW
  have hA : DataW.TrodAll enc Try.prog W 0 (fun _ => true) true Try.f13.params.toList args.toList ds p := hA0
  rw [Try.params13] at hA hval
  obtain ⟨v0, vs0, d0, ds0, p0, q0, hargs, rfl, rfl, h0, r0⟩ := trodAll_cons hA
  obtain ⟨v1, vs1, d1, ds1, p1, q1, rfl, rfl, rfl, h1, r1⟩ := trodAll_cons r0
  obtain ⟨v2, vs2, d2, ds2, p2, q2, rfl, rfl, rfl, h2, r2⟩ := trodAll_cons r1
  obtain ⟨rfl, rfl, rfl⟩ := trodAll_nil r2
  obtain rfl : args = #[v0, v1, v2] := by cases args; simp_all
  obtain ⟨rfl, rfl⟩ := trodVars_none hV
  obtain ⟨x, rfl, rfl, rfl, wx0, wx1, wx2, wx3⟩ := open_box (hval 0 39 v0 rfl rfl) h0
  obtain ⟨k1, k2, rfl, rfl, rfl, wk1, wk2⟩ := open_vec (hval 1 24 v1 rfl rfl) h1
  obtain ⟨u1, u2, rfl, rfl, rfl, wu1, wu2⟩ := open_vec (hval 2 24 v2 rfl rfl) h2
  clear hA0 hval0
  simp only [List.append_nil] at hW'
  refine (walk W x ⟨i64_wf wx0, i64_wf wx1, i64_wf wx2, i64_wf wx3⟩ k1 k2 (i64_wf wk1) (i64_wf wk2) u1 u2 (i64_wf wu1) (i64_wf wu2)).mono fun e W' ⟨he, hg⟩ => ?_
  subst he
  exact ⟨_, rfl, post_below (pa := []) (pv := []) hW' (fun _ _ _ => (trodAll_cons_mk (shut_bool Try.underlying4 _) trodAll_mk0)) (fun sp hsp => (trodAll_cons_mk (shut_box wx0 wx1 wx2 wx3) (trodAll_cons_mk (shut_vec wk1 wk2) (trodAll_cons_mk (shut_vec wu1 wu2) trodAll_mk0)))) (fun _ _ => rfl) rfl
    hg (ok_one (by kernel_rfl) rfl (okWide_bool_mk Try.underlying4 _))⟩

theorem closed : joinedFacts Try.prog 13 Try.f13 Rows.boundsClampsSpec Rows.boundsClampsRow = true := by
  unfold joinedFacts
  rw [fact_laid, fact_maps, fact_keys, fact_heard, fact_stops, fact_knobs, fact_enter, fact_lifts, fact_make]
  kernel_rfl

theorem over : Rows.boundsClampsRow.holds Try.pinned (OpenSpec.ofChange Rows.boundsClampsSpec) :=
  OpenClaim.holds_of_wide 13 Try.f13 rfl rfl rfl rfl rfl rfl rfl ⟨rfl, rfl, rfl, rfl, rfl⟩ rfl rfl rfl rfl rfl (by kernel_rfl) Try.func13 closed
    (of_decide_eq_true (by kernel_rfl)) (by unfold Func.isWrapper; first | (rw [if_pos (by decide +kernel)]; kernel_rfl) | (rw [if_neg (by decide +kernel)]; exact ⟨rfl, rfl⟩))
    (fun os started H enc _ => lifted os started H enc)

/-- The statement. -/
theorem proved : Rows.BoundsClampsSaid :=
  over
#print axioms proved
end Go.Proofs.Ytcaibieaobhheaa.boundsClamps
