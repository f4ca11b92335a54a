/- What the closure of ShapeSpeeds does. -/
import Derived.Test.YtcaibieaobhheaaShape
import Derived.Test.YtcaibieaobhheaaVar3
import Derived.Test.YtcaibieaobhheaaTillV
import Derived.Test.YtcaibieaobhheaaPushMath
import Derived.Test.YtcaibieaobhheaaSlowMath
import Derived.Deep.DrawnRows
namespace Go.Proofs.Ytcaibieaobhheaa
open Go.RowKit M
set_option maxRecDepth 100000
set_option maxHeartbeats 4000000
set_option linter.unusedVariables false
set_option linter.unusedSimpArgs false
attribute [local go_sem ↓] Go.wp_at_zero Go.wp_at_succ
theorem cloSp (p_b p_v p_u p_z p_l : Nat) (b : Bd) (hb : b.ok) (n : Int) (hn : 1 ≤ n) (hn2 : n ≤ 1000) (w : World)
    (h_b : Var w p_b #[.int .i64 b.shape, .int .i64 b.sx, .int .i64 b.sy, .int .i64 (n * 4294967296), .int .i64 b.px, .int .i64 b.py, .int .i64 (n * 4294967296 * 4), .int .i64 (-n * 4294967296)]) (h_v : Var w p_v #[.int .i64 0, .int .i64 0]) (h_u : Var w p_u #[.int .i64 0, .int .i64 0]) (h_z : Var w p_z #[.int .i64 0, .int .i64 0]) (h_l : Var w p_l #[.int .i64 0])
    (o1 : p_b < p_v) (o2 : p_v < p_u) (o3 : p_u < p_z) (o4 : p_z < p_l) :
    Calls Try.prog 52 #[.pointer (some ⟨p_b, 0, none⟩), .pointer (some ⟨p_v, 0, none⟩), .pointer (some ⟨p_u, 0, none⟩), .pointer (some ⟨p_z, 0, none⟩), .pointer (some ⟨p_l, 0, none⟩)] w fun e w' => e = outU 0 ∧ Below w.heap.size (sets w (usV p_v (.ok (17179869184, -4294967296)) ++ [(⟨p_b, 3, none⟩, .int .i64 (n * 4294967296 * 2))] ++ usV p_u (.ok (8589934592, -2147483648)) ++ [(⟨p_b, 3, none⟩, .int .i64 0)] ++ usV p_z (.ok (0, 0)) ++ usI p_l (.ok 0))) w' := by
  have e1 : speedX (⟨b.shape, b.sx, b.sy, n * 4294967296, b.px, b.py, n * 4294967296 * 4, -n * 4294967296⟩ : Bd) = .ok (17179869184, -4294967296) := by
    unfold speedX overV Bd.mom
    rw [if_neg (by dsimp only; omega)]
    dsimp only
    rw [divX_even (q := 17179869184) (by omega) (by omega) (by omega), andThen_ok, divX_even (q := -4294967296) (by omega) (by omega) (by omega), andThen_ok]
  have e2 : speedX (⟨b.shape, b.sx, b.sy, n * 4294967296 * 2, b.px, b.py, n * 4294967296 * 4, -n * 4294967296⟩ : Bd) = .ok (8589934592, -2147483648) := by
    unfold speedX overV Bd.mom
    rw [if_neg (by dsimp only; omega)]
    dsimp only
    rw [divX_even (q := 8589934592) (by omega) (by omega) (by omega), andThen_ok, divX_even (q := -2147483648) (by omega) (by omega) (by omega), andThen_ok]
  have e3 : speedX (⟨b.shape, b.sx, b.sy, 0, b.px, b.py, n * 4294967296 * 4, -n * 4294967296⟩ : Bd) = .ok (0, 0) := by unfold speedX; rw [if_pos rfl]
  have e4 : lightX (⟨b.shape, b.sx, b.sy, 0, b.px, b.py, n * 4294967296 * 4, -n * 4294967296⟩ : Bd) = .ok 0 := by unfold lightX; rw [if_pos rfl]
  have C1 := Lib.hid (fun w => (speed_x (⟨b.shape, b.sx, b.sy, n * 4294967296, b.px, b.py, n * 4294967296 * 4, -n * 4294967296⟩ : Bd) ⟨hb.shape, hb.sx, hb.sy, by unfold I64; (try dsimp only); omega, hb.px, hb.py, by unfold I64; (try dsimp only); omega, by unfold I64; (try dsimp only); omega⟩ w).mono fun e w' h => (⟨ret_V e1 h.1, h.2⟩ : e = .returned (.agg #[.int .i64 17179869184, .int .i64 (-4294967296)]) ∧ Bw w w'))
  have C2 := Lib.hid (fun w => (speed_x (⟨b.shape, b.sx, b.sy, n * 4294967296 * 2, b.px, b.py, n * 4294967296 * 4, -n * 4294967296⟩ : Bd) ⟨hb.shape, hb.sx, hb.sy, by unfold I64; (try dsimp only); omega, hb.px, hb.py, by unfold I64; (try dsimp only); omega, by unfold I64; (try dsimp only); omega⟩ w).mono fun e w' h => (⟨ret_V e2 h.1, h.2⟩ : e = .returned (.agg #[.int .i64 8589934592, .int .i64 (-2147483648)]) ∧ Bw w w'))
  have C3 := Lib.hid (fun w => (speed_x (⟨b.shape, b.sx, b.sy, 0, b.px, b.py, n * 4294967296 * 4, -n * 4294967296⟩ : Bd) ⟨hb.shape, hb.sx, hb.sy, by unfold I64; (try dsimp only); omega, hb.px, hb.py, by unfold I64; (try dsimp only); omega, by unfold I64; (try dsimp only); omega⟩ w).mono fun e w' h => (⟨ret_V e3 h.1, h.2⟩ : e = .returned (.agg #[.int .i64 0, .int .i64 0]) ∧ Bw w w'))
  have C4 := Lib.hid (fun w => (light_x (⟨b.shape, b.sx, b.sy, 0, b.px, b.py, n * 4294967296 * 4, -n * 4294967296⟩ : Bd) ⟨hb.shape, hb.sx, hb.sy, by unfold I64; (try dsimp only); omega, hb.px, hb.py, by unfold I64; (try dsimp only); omega, by unfold I64; (try dsimp only); omega⟩ w).mono fun e w' h => (⟨ret_I e4 h.1, h.2⟩ : e = .returned (.int .i64 0) ∧ Bw w w'))
  clear e1 e2 e3 e4
  have q0_b_0 : w.cell? ⟨p_b, 0, none⟩ = some (.int .i64 b.shape) := h_b.c 0 _ rfl
  have q0_b_1 : w.cell? ⟨p_b, 1, none⟩ = some (.int .i64 b.sx) := h_b.c 1 _ rfl
  have q0_b_2 : w.cell? ⟨p_b, 2, none⟩ = some (.int .i64 b.sy) := h_b.c 2 _ rfl
  have q0_b_3 : w.cell? ⟨p_b, 3, none⟩ = some (.int .i64 (n * 4294967296)) := h_b.c 3 _ rfl
  have q0_b_4 : w.cell? ⟨p_b, 4, none⟩ = some (.int .i64 b.px) := h_b.c 4 _ rfl
  have q0_b_5 : w.cell? ⟨p_b, 5, none⟩ = some (.int .i64 b.py) := h_b.c 5 _ rfl
  have q0_b_6 : w.cell? ⟨p_b, 6, none⟩ = some (.int .i64 (n * 4294967296 * 4)) := h_b.c 6 _ rfl
  have q0_b_7 : w.cell? ⟨p_b, 7, none⟩ = some (.int .i64 (-n * 4294967296)) := h_b.c 7 _ rfl
  have f0_b := h_b.2.2; have L0_b := h_b.lt
  have HV0_b := Lib.hid h_b
  have q0_v_0 : w.cell? ⟨p_v, 0, none⟩ = some (.int .i64 0) := h_v.c 0 _ rfl
  have q0_v_1 : w.cell? ⟨p_v, 1, none⟩ = some (.int .i64 0) := h_v.c 1 _ rfl
  have f0_v := h_v.2.2; have L0_v := h_v.lt
  have HV0_v := Lib.hid h_v
  have q0_u_0 : w.cell? ⟨p_u, 0, none⟩ = some (.int .i64 0) := h_u.c 0 _ rfl
  have q0_u_1 : w.cell? ⟨p_u, 1, none⟩ = some (.int .i64 0) := h_u.c 1 _ rfl
  have f0_u := h_u.2.2; have L0_u := h_u.lt
  have HV0_u := Lib.hid h_u
  have q0_z_0 : w.cell? ⟨p_z, 0, none⟩ = some (.int .i64 0) := h_z.c 0 _ rfl
  have q0_z_1 : w.cell? ⟨p_z, 1, none⟩ = some (.int .i64 0) := h_z.c 1 _ rfl
  have f0_z := h_z.2.2; have L0_z := h_z.lt
  have HV0_z := Lib.hid h_z
  have q0_l_0 : w.cell? ⟨p_l, 0, none⟩ = some (.int .i64 0) := h_l.c 0 _ rfl
  have f0_l := h_l.2.2; have L0_l := h_l.lt
  have HV0_l := Lib.hid h_l
  have d_p_b_p_v : p_b ≠ p_v := by omega
  have d_p_b_p_u : p_b ≠ p_u := by omega
  have d_p_b_p_z : p_b ≠ p_z := by omega
  have d_p_b_p_l : p_b ≠ p_l := by omega
  have d_p_v_p_b : p_v ≠ p_b := by omega
  have d_p_v_p_u : p_v ≠ p_u := by omega
  have d_p_v_p_z : p_v ≠ p_z := by omega
  have d_p_v_p_l : p_v ≠ p_l := by omega
  have d_p_u_p_b : p_u ≠ p_b := by omega
  have d_p_u_p_v : p_u ≠ p_v := by omega
  have d_p_u_p_z : p_u ≠ p_z := by omega
  have d_p_u_p_l : p_u ≠ p_l := by omega
  have d_p_z_p_b : p_z ≠ p_b := by omega
  have d_p_z_p_v : p_z ≠ p_v := by omega
  have d_p_z_p_u : p_z ≠ p_u := by omega
  have d_p_z_p_l : p_z ≠ p_l := by omega
  have d_p_l_p_b : p_l ≠ p_b := by omega
  have d_p_l_p_v : p_l ≠ p_v := by omega
  have d_p_l_p_u : p_l ≠ p_u := by omega
  have d_p_l_p_z : p_l ≠ p_z := by omega
  have HG0 := Lib.hid (Below.refl w.heap.size w); have TS0 : w.heap.size = w.heap.size := rfl
  go_enter Try.func52, Try.ntmps52
  go_wp2_with fail
  (with_reducible refine (C1.out _).mono ?_); rintro en w1 ⟨rfl, hb⟩
  obtain ⟨T1, hT1⟩ : ∃ T, T = M.sets w ([]) := ⟨_, rfl⟩
  have TS1 : T1.heap.size = w.heap.size := by rw [hT1, M.sets_size]
  have G1 : Below w.heap.size T1 w1 := by rw [hT1]; exact Below.trans (by (try simp only [M.sets_append]); (try simp only [M.usV, M.usI, M.usHt, M.usB, M.usBd, M.usBx, M.fstX, M.sndX, M.sets]); (repeat (first | (with_reducible exact HG0.out) | (with_reducible refine M.Below.drewN ?_ _) | (with_reducible refine M.Below.drew ?_) | (with_reducible refine M.below_setCell_both ?_ _ (by assumption) _) | (with_reducible refine Below.alloc ?_ (by go_size) _) | (with_reducible refine Below.setCell ?_ (by dsimp only; go_size) _) | fail))) (hb.mono (by go_size))
  have S1 : w.heap.size ≤ w1.heap.size := by have := G1.size; omega
  have V1_b : M.Var w1 (p_b) #[.int .i64 b.shape, .int .i64 b.sx, .int .i64 b.sy, .int .i64 (n * 4294967296), .int .i64 b.px, .int .i64 b.py, .int .i64 (n * 4294967296 * 4), .int .i64 (-n * 4294967296)] := M.Var.mono (b := p_b) (cs := #[.int .i64 b.shape, .int .i64 b.sx, .int .i64 b.sy, .int .i64 (n * 4294967296), .int .i64 b.px, .int .i64 b.py, .int .i64 (n * 4294967296 * 4), .int .i64 (-n * 4294967296)]) (by (repeat (first | (with_reducible assumption) | (with_reducible apply M.var_setV) | (with_reducible apply M.var_setI) | (with_reducible apply M.var_setB) | (with_reducible apply M.var_setHt) | (with_reducible apply M.var_setBd) | (with_reducible apply M.var_set2) | (with_reducible apply M.var_set3) | (with_reducible apply M.var_set4) | (with_reducible apply M.var_set45) | (with_reducible apply M.var_set67) | (with_reducible apply M.var_setF) | (with_reducible refine M.var_alloc' _ _ _ ?_; first | rfl | (focus (simp [go_sem]; done))) | (with_reducible refine M.Var.alloc ?_ _) | (with_reducible refine M.Var.drewN ?_ _) | (with_reducible refine M.Var.drew ?_) | (with_reducible refine M.Var.far ?_ _ _ ?hFar; case hFar => (first | omega | ((try simp [go_sem]) <;> omega))) | fail))) hb
  have V1_v : M.Var w1 (p_v) #[.int .i64 0, .int .i64 0] := M.Var.mono (b := p_v) (cs := #[.int .i64 0, .int .i64 0]) (by (repeat (first | (with_reducible assumption) | (with_reducible apply M.var_setV) | (with_reducible apply M.var_setI) | (with_reducible apply M.var_setB) | (with_reducible apply M.var_setHt) | (with_reducible apply M.var_setBd) | (with_reducible apply M.var_set2) | (with_reducible apply M.var_set3) | (with_reducible apply M.var_set4) | (with_reducible apply M.var_set45) | (with_reducible apply M.var_set67) | (with_reducible apply M.var_setF) | (with_reducible refine M.var_alloc' _ _ _ ?_; first | rfl | (focus (simp [go_sem]; done))) | (with_reducible refine M.Var.alloc ?_ _) | (with_reducible refine M.Var.drewN ?_ _) | (with_reducible refine M.Var.drew ?_) | (with_reducible refine M.Var.far ?_ _ _ ?hFar; case hFar => (first | omega | ((try simp [go_sem]) <;> omega))) | fail))) hb
  have V1_u : M.Var w1 (p_u) #[.int .i64 0, .int .i64 0] := M.Var.mono (b := p_u) (cs := #[.int .i64 0, .int .i64 0]) (by (repeat (first | (with_reducible assumption) | (with_reducible apply M.var_setV) | (with_reducible apply M.var_setI) | (with_reducible apply M.var_setB) | (with_reducible apply M.var_setHt) | (with_reducible apply M.var_setBd) | (with_reducible apply M.var_set2) | (with_reducible apply M.var_set3) | (with_reducible apply M.var_set4) | (with_reducible apply M.var_set45) | (with_reducible apply M.var_set67) | (with_reducible apply M.var_setF) | (with_reducible refine M.var_alloc' _ _ _ ?_; first | rfl | (focus (simp [go_sem]; done))) | (with_reducible refine M.Var.alloc ?_ _) | (with_reducible refine M.Var.drewN ?_ _) | (with_reducible refine M.Var.drew ?_) | (with_reducible refine M.Var.far ?_ _ _ ?hFar; case hFar => (first | omega | ((try simp [go_sem]) <;> omega))) | fail))) hb
  have V1_z : M.Var w1 (p_z) #[.int .i64 0, .int .i64 0] := M.Var.mono (b := p_z) (cs := #[.int .i64 0, .int .i64 0]) (by (repeat (first | (with_reducible assumption) | (with_reducible apply M.var_setV) | (with_reducible apply M.var_setI) | (with_reducible apply M.var_setB) | (with_reducible apply M.var_setHt) | (with_reducible apply M.var_setBd) | (with_reducible apply M.var_set2) | (with_reducible apply M.var_set3) | (with_reducible apply M.var_set4) | (with_reducible apply M.var_set45) | (with_reducible apply M.var_set67) | (with_reducible apply M.var_setF) | (with_reducible refine M.var_alloc' _ _ _ ?_; first | rfl | (focus (simp [go_sem]; done))) | (with_reducible refine M.Var.alloc ?_ _) | (with_reducible refine M.Var.drewN ?_ _) | (with_reducible refine M.Var.drew ?_) | (with_reducible refine M.Var.far ?_ _ _ ?hFar; case hFar => (first | omega | ((try simp [go_sem]) <;> omega))) | fail))) hb
  have V1_l : M.Var w1 (p_l) #[.int .i64 0] := M.Var.mono (b := p_l) (cs := #[.int .i64 0]) (by (repeat (first | (with_reducible assumption) | (with_reducible apply M.var_setV) | (with_reducible apply M.var_setI) | (with_reducible apply M.var_setB) | (with_reducible apply M.var_setHt) | (with_reducible apply M.var_setBd) | (with_reducible apply M.var_set2) | (with_reducible apply M.var_set3) | (with_reducible apply M.var_set4) | (with_reducible apply M.var_set45) | (with_reducible apply M.var_set67) | (with_reducible apply M.var_setF) | (with_reducible refine M.var_alloc' _ _ _ ?_; first | rfl | (focus (simp [go_sem]; done))) | (with_reducible refine M.Var.alloc ?_ _) | (with_reducible refine M.Var.drewN ?_ _) | (with_reducible refine M.Var.drew ?_) | (with_reducible refine M.Var.far ?_ _ _ ?hFar; case hFar => (first | omega | ((try simp [go_sem]) <;> omega))) | fail))) hb
  have q1_b_0 : w1.cell? ⟨p_b, 0, none⟩ = some (.int .i64 b.shape) := V1_b.c 0 _ rfl
  have q1_b_1 : w1.cell? ⟨p_b, 1, none⟩ = some (.int .i64 b.sx) := V1_b.c 1 _ rfl
  have q1_b_2 : w1.cell? ⟨p_b, 2, none⟩ = some (.int .i64 b.sy) := V1_b.c 2 _ rfl
  have q1_b_3 : w1.cell? ⟨p_b, 3, none⟩ = some (.int .i64 (n * 4294967296)) := V1_b.c 3 _ rfl
  have q1_b_4 : w1.cell? ⟨p_b, 4, none⟩ = some (.int .i64 b.px) := V1_b.c 4 _ rfl
  have q1_b_5 : w1.cell? ⟨p_b, 5, none⟩ = some (.int .i64 b.py) := V1_b.c 5 _ rfl
  have q1_b_6 : w1.cell? ⟨p_b, 6, none⟩ = some (.int .i64 (n * 4294967296 * 4)) := V1_b.c 6 _ rfl
  have q1_b_7 : w1.cell? ⟨p_b, 7, none⟩ = some (.int .i64 (-n * 4294967296)) := V1_b.c 7 _ rfl
  have f1_b := V1_b.2.2; have L1_b := V1_b.lt
  have HV1_b := Lib.hid V1_b
  have q1_v_0 : w1.cell? ⟨p_v, 0, none⟩ = some (.int .i64 0) := V1_v.c 0 _ rfl
  have q1_v_1 : w1.cell? ⟨p_v, 1, none⟩ = some (.int .i64 0) := V1_v.c 1 _ rfl
  have f1_v := V1_v.2.2; have L1_v := V1_v.lt
  have HV1_v := Lib.hid V1_v
  have q1_u_0 : w1.cell? ⟨p_u, 0, none⟩ = some (.int .i64 0) := V1_u.c 0 _ rfl
  have q1_u_1 : w1.cell? ⟨p_u, 1, none⟩ = some (.int .i64 0) := V1_u.c 1 _ rfl
  have f1_u := V1_u.2.2; have L1_u := V1_u.lt
  have HV1_u := Lib.hid V1_u
  have q1_z_0 : w1.cell? ⟨p_z, 0, none⟩ = some (.int .i64 0) := V1_z.c 0 _ rfl
  have q1_z_1 : w1.cell? ⟨p_z, 1, none⟩ = some (.int .i64 0) := V1_z.c 1 _ rfl
  have f1_z := V1_z.2.2; have L1_z := V1_z.lt
  have HV1_z := Lib.hid V1_z
  have q1_l_0 : w1.cell? ⟨p_l, 0, none⟩ = some (.int .i64 0) := V1_l.c 0 _ rfl
  have f1_l := V1_l.2.2; have L1_l := V1_l.lt
  have HV1_l := Lib.hid V1_l
  have HG1 := Lib.hid G1; clear hb G1
  go_wp2_with fail
  (with_reducible refine (C2.out _).mono ?_); rintro en w2 ⟨rfl, hb⟩
  obtain ⟨T2, hT2⟩ : ∃ T, T = M.sets T1 (usV p_v (.ok (17179869184, -4294967296)) ++ [(⟨p_b, 3, none⟩, .int .i64 (n * 4294967296 * 2))]) := ⟨_, rfl⟩
  have TS2 : T2.heap.size = w.heap.size := by rw [hT2, M.sets_size]; exact TS1
  have G2 : Below w.heap.size T2 w2 := by rw [hT2]; exact Below.trans (by (try simp only [M.sets_append]); (try simp only [M.usV, M.usI, M.usHt, M.usB, M.usBd, M.usBx, M.fstX, M.sndX, M.sets]); (repeat (first | (with_reducible exact HG1.out) | (with_reducible refine M.Below.drewN ?_ _) | (with_reducible refine M.Below.drew ?_) | (with_reducible refine M.below_setCell_both ?_ _ (by assumption) _) | (with_reducible refine Below.alloc ?_ (by go_size) _) | (with_reducible refine Below.setCell ?_ (by dsimp only; go_size) _) | fail))) (hb.mono (by go_size))
  have S2 : w.heap.size ≤ w2.heap.size := by have := G2.size; omega
  have V2_b : M.Var w2 (p_b) #[.int .i64 b.shape, .int .i64 b.sx, .int .i64 b.sy, .int .i64 (n * 4294967296 * 2), .int .i64 b.px, .int .i64 b.py, .int .i64 (n * 4294967296 * 4), .int .i64 (-n * 4294967296)] := M.Var.mono (b := p_b) (cs := #[.int .i64 b.shape, .int .i64 b.sx, .int .i64 b.sy, .int .i64 (n * 4294967296 * 2), .int .i64 b.px, .int .i64 b.py, .int .i64 (n * 4294967296 * 4), .int .i64 (-n * 4294967296)]) (by (repeat (first | (with_reducible assumption) | (with_reducible apply M.var_setV) | (with_reducible apply M.var_setI) | (with_reducible apply M.var_setB) | (with_reducible apply M.var_setHt) | (with_reducible apply M.var_setBd) | (with_reducible apply M.var_set2) | (with_reducible apply M.var_set3) | (with_reducible apply M.var_set4) | (with_reducible apply M.var_set45) | (with_reducible apply M.var_set67) | (with_reducible apply M.var_setF) | (with_reducible refine M.var_alloc' _ _ _ ?_; first | rfl | (focus (simp [go_sem]; done))) | (with_reducible refine M.Var.alloc ?_ _) | (with_reducible refine M.Var.drewN ?_ _) | (with_reducible refine M.Var.drew ?_) | (with_reducible refine M.Var.far ?_ _ _ ?hFar; case hFar => (first | omega | ((try simp [go_sem]) <;> omega))) | fail))) hb
  have V2_v : M.Var w2 (p_v) #[.int .i64 17179869184, .int .i64 (-4294967296)] := M.Var.mono (b := p_v) (cs := #[.int .i64 17179869184, .int .i64 (-4294967296)]) (by (repeat (first | (with_reducible assumption) | (with_reducible apply M.var_setV) | (with_reducible apply M.var_setI) | (with_reducible apply M.var_setB) | (with_reducible apply M.var_setHt) | (with_reducible apply M.var_setBd) | (with_reducible apply M.var_set2) | (with_reducible apply M.var_set3) | (with_reducible apply M.var_set4) | (with_reducible apply M.var_set45) | (with_reducible apply M.var_set67) | (with_reducible apply M.var_setF) | (with_reducible refine M.var_alloc' _ _ _ ?_; first | rfl | (focus (simp [go_sem]; done))) | (with_reducible refine M.Var.alloc ?_ _) | (with_reducible refine M.Var.drewN ?_ _) | (with_reducible refine M.Var.drew ?_) | (with_reducible refine M.Var.far ?_ _ _ ?hFar; case hFar => (first | omega | ((try simp [go_sem]) <;> omega))) | fail))) hb
  have V2_u : M.Var w2 (p_u) #[.int .i64 0, .int .i64 0] := M.Var.mono (b := p_u) (cs := #[.int .i64 0, .int .i64 0]) (by (repeat (first | (with_reducible assumption) | (with_reducible apply M.var_setV) | (with_reducible apply M.var_setI) | (with_reducible apply M.var_setB) | (with_reducible apply M.var_setHt) | (with_reducible apply M.var_setBd) | (with_reducible apply M.var_set2) | (with_reducible apply M.var_set3) | (with_reducible apply M.var_set4) | (with_reducible apply M.var_set45) | (with_reducible apply M.var_set67) | (with_reducible apply M.var_setF) | (with_reducible refine M.var_alloc' _ _ _ ?_; first | rfl | (focus (simp [go_sem]; done))) | (with_reducible refine M.Var.alloc ?_ _) | (with_reducible refine M.Var.drewN ?_ _) | (with_reducible refine M.Var.drew ?_) | (with_reducible refine M.Var.far ?_ _ _ ?hFar; case hFar => (first | omega | ((try simp [go_sem]) <;> omega))) | fail))) hb
  have V2_z : M.Var w2 (p_z) #[.int .i64 0, .int .i64 0] := M.Var.mono (b := p_z) (cs := #[.int .i64 0, .int .i64 0]) (by (repeat (first | (with_reducible assumption) | (with_reducible apply M.var_setV) | (with_reducible apply M.var_setI) | (with_reducible apply M.var_setB) | (with_reducible apply M.var_setHt) | (with_reducible apply M.var_setBd) | (with_reducible apply M.var_set2) | (with_reducible apply M.var_set3) | (with_reducible apply M.var_set4) | (with_reducible apply M.var_set45) | (with_reducible apply M.var_set67) | (with_reducible apply M.var_setF) | (with_reducible refine M.var_alloc' _ _ _ ?_; first | rfl | (focus (simp [go_sem]; done))) | (with_reducible refine M.Var.alloc ?_ _) | (with_reducible refine M.Var.drewN ?_ _) | (with_reducible refine M.Var.drew ?_) | (with_reducible refine M.Var.far ?_ _ _ ?hFar; case hFar => (first | omega | ((try simp [go_sem]) <;> omega))) | fail))) hb
  have V2_l : M.Var w2 (p_l) #[.int .i64 0] := M.Var.mono (b := p_l) (cs := #[.int .i64 0]) (by (repeat (first | (with_reducible assumption) | (with_reducible apply M.var_setV) | (with_reducible apply M.var_setI) | (with_reducible apply M.var_setB) | (with_reducible apply M.var_setHt) | (with_reducible apply M.var_setBd) | (with_reducible apply M.var_set2) | (with_reducible apply M.var_set3) | (with_reducible apply M.var_set4) | (with_reducible apply M.var_set45) | (with_reducible apply M.var_set67) | (with_reducible apply M.var_setF) | (with_reducible refine M.var_alloc' _ _ _ ?_; first | rfl | (focus (simp [go_sem]; done))) | (with_reducible refine M.Var.alloc ?_ _) | (with_reducible refine M.Var.drewN ?_ _) | (with_reducible refine M.Var.drew ?_) | (with_reducible refine M.Var.far ?_ _ _ ?hFar; case hFar => (first | omega | ((try simp [go_sem]) <;> omega))) | fail))) hb
  have q2_b_0 : w2.cell? ⟨p_b, 0, none⟩ = some (.int .i64 b.shape) := V2_b.c 0 _ rfl
  have q2_b_1 : w2.cell? ⟨p_b, 1, none⟩ = some (.int .i64 b.sx) := V2_b.c 1 _ rfl
  have q2_b_2 : w2.cell? ⟨p_b, 2, none⟩ = some (.int .i64 b.sy) := V2_b.c 2 _ rfl
  have q2_b_3 : w2.cell? ⟨p_b, 3, none⟩ = some (.int .i64 (n * 4294967296 * 2)) := V2_b.c 3 _ rfl
  have q2_b_4 : w2.cell? ⟨p_b, 4, none⟩ = some (.int .i64 b.px) := V2_b.c 4 _ rfl
  have q2_b_5 : w2.cell? ⟨p_b, 5, none⟩ = some (.int .i64 b.py) := V2_b.c 5 _ rfl
  have q2_b_6 : w2.cell? ⟨p_b, 6, none⟩ = some (.int .i64 (n * 4294967296 * 4)) := V2_b.c 6 _ rfl
  have q2_b_7 : w2.cell? ⟨p_b, 7, none⟩ = some (.int .i64 (-n * 4294967296)) := V2_b.c 7 _ rfl
  have f2_b := V2_b.2.2; have L2_b := V2_b.lt
  have HV2_b := Lib.hid V2_b
  have q2_v_0 : w2.cell? ⟨p_v, 0, none⟩ = some (.int .i64 17179869184) := V2_v.c 0 _ rfl
  have q2_v_1 : w2.cell? ⟨p_v, 1, none⟩ = some (.int .i64 (-4294967296)) := V2_v.c 1 _ rfl
  have f2_v := V2_v.2.2; have L2_v := V2_v.lt
  have HV2_v := Lib.hid V2_v
  have q2_u_0 : w2.cell? ⟨p_u, 0, none⟩ = some (.int .i64 0) := V2_u.c 0 _ rfl
  have q2_u_1 : w2.cell? ⟨p_u, 1, none⟩ = some (.int .i64 0) := V2_u.c 1 _ rfl
  have f2_u := V2_u.2.2; have L2_u := V2_u.lt
  have HV2_u := Lib.hid V2_u
  have q2_z_0 : w2.cell? ⟨p_z, 0, none⟩ = some (.int .i64 0) := V2_z.c 0 _ rfl
  have q2_z_1 : w2.cell? ⟨p_z, 1, none⟩ = some (.int .i64 0) := V2_z.c 1 _ rfl
  have f2_z := V2_z.2.2; have L2_z := V2_z.lt
  have HV2_z := Lib.hid V2_z
  have q2_l_0 : w2.cell? ⟨p_l, 0, none⟩ = some (.int .i64 0) := V2_l.c 0 _ rfl
  have f2_l := V2_l.2.2; have L2_l := V2_l.lt
  have HV2_l := Lib.hid V2_l
  have HG2 := Lib.hid G2; clear hb G2
  go_wp2_with fail
  refine wp_region_till (S := fun sT wT' => Hid (M.Var wT' (p_b) #[.int .i64 b.shape, .int .i64 b.sx, .int .i64 b.sy, .int .i64 0, .int .i64 b.px, .int .i64 b.py, .int .i64 (n * 4294967296 * 4), .int .i64 (-n * 4294967296)] ∧ True)) (by kernel_rfl) (Lib.hid ⟨(by (repeat (first | (with_reducible assumption) | (with_reducible apply M.var_setV) | (with_reducible apply M.var_setI) | (with_reducible apply M.var_setB) | (with_reducible apply M.var_setHt) | (with_reducible apply M.var_setBd) | (with_reducible apply M.var_set2) | (with_reducible apply M.var_set3) | (with_reducible apply M.var_set4) | (with_reducible apply M.var_set45) | (with_reducible apply M.var_set67) | (with_reducible apply M.var_setF) | (with_reducible refine M.var_alloc' _ _ _ ?_; first | rfl | (focus (simp [go_sem]; done))) | (with_reducible refine M.Var.alloc ?_ _) | (with_reducible refine M.Var.drewN ?_ _) | (with_reducible refine M.Var.drew ?_) | (with_reducible refine M.Var.far ?_ _ _ ?hFar; case hFar => (first | omega | ((try simp [go_sem]) <;> omega))) | fail))), trivial⟩) ?_
  intro hTb hTS
  refine wpTill_take (i := 0) (v := ?_) rfl (by kernel_rfl) (by kernel_rfl) (by kernel_rfl) hTb (fun _ _ _ h => h) (fun _ _ => Iff.rfl) (Or.inl ⟨by rfl, ?_⟩) hTS ?_
  rotate_left
  · rintro wT ⟨sT, hbT, huT, hST⟩
    have zT_b_0 := hST.out.1.c 0 _ rfl
    have zT_b_1 := hST.out.1.c 1 _ rfl
    have zT_b_2 := hST.out.1.c 2 _ rfl
    have zT_b_3 := hST.out.1.c 3 _ rfl
    have zT_b_4 := hST.out.1.c 4 _ rfl
    have zT_b_5 := hST.out.1.c 5 _ rfl
    have zT_b_6 := hST.out.1.c 6 _ rfl
    have zT_b_7 := hST.out.1.c 7 _ rfl
    clear hST hbT huT
    go_simp
    all_goals with_reducible rfl
  clear hTb hTS; intro hTb hTS
  try simp only [Act.put, List.setIfInBounds_toArray, List.set_cons_zero, List.set_cons_succ]
  refine wpTill_take (i := 2) (v := ?_) rfl (by kernel_rfl) (by kernel_rfl) (by kernel_rfl) hTb (fun _ _ _ h => h) (fun _ _ => Iff.rfl) (Or.inl ⟨by rfl, ?_⟩) hTS ?_
  rotate_left
  · rintro wT ⟨sT, hbT, huT, hST⟩
    have zT_b_0 := hST.out.1.c 0 _ rfl
    have zT_b_1 := hST.out.1.c 1 _ rfl
    have zT_b_2 := hST.out.1.c 2 _ rfl
    have zT_b_3 := hST.out.1.c 3 _ rfl
    have zT_b_4 := hST.out.1.c 4 _ rfl
    have zT_b_5 := hST.out.1.c 5 _ rfl
    have zT_b_6 := hST.out.1.c 6 _ rfl
    have zT_b_7 := hST.out.1.c 7 _ rfl
    clear hST hbT huT
    go_simp
    all_goals with_reducible rfl
  clear hTb hTS; intro hTb hTS
  try simp only [Act.put, List.setIfInBounds_toArray, List.set_cons_zero, List.set_cons_succ]
  refine wpTill_one (i := 1) (by kernel_rfl) rfl hTb (fun K hK => ?_)
  go_simp
  (with_reducible refine (C3.out _).mono ?_); rintro en w3 ⟨rfl, hb⟩
  obtain ⟨T3, hT3⟩ : ∃ T, T = M.sets T2 (usV p_u (.ok (8589934592, -2147483648)) ++ [(⟨p_b, 3, none⟩, .int .i64 0)]) := ⟨_, rfl⟩
  have TS3 : T3.heap.size = w.heap.size := by rw [hT3, M.sets_size]; exact TS2
  have G3 : Below w.heap.size T3 w3 := by rw [hT3]; exact Below.trans (by (try simp only [M.sets_append]); (try simp only [M.usV, M.usI, M.usHt, M.usB, M.usBd, M.usBx, M.fstX, M.sndX, M.sets]); (repeat (first | (with_reducible exact HG2.out) | (with_reducible refine M.Below.drewN ?_ _) | (with_reducible refine M.Below.drew ?_) | (with_reducible refine M.below_setCell_both ?_ _ (by assumption) _) | (with_reducible refine Below.alloc ?_ (by go_size) _) | (with_reducible refine Below.setCell ?_ (by dsimp only; go_size) _) | fail))) (hb.mono (by go_size))
  have S3 : w.heap.size ≤ w3.heap.size := by have := G3.size; omega
  have V3_b : M.Var w3 (p_b) #[.int .i64 b.shape, .int .i64 b.sx, .int .i64 b.sy, .int .i64 0, .int .i64 b.px, .int .i64 b.py, .int .i64 (n * 4294967296 * 4), .int .i64 (-n * 4294967296)] := M.Var.mono (b := p_b) (cs := #[.int .i64 b.shape, .int .i64 b.sx, .int .i64 b.sy, .int .i64 0, .int .i64 b.px, .int .i64 b.py, .int .i64 (n * 4294967296 * 4), .int .i64 (-n * 4294967296)]) (by (repeat (first | (with_reducible assumption) | (with_reducible apply M.var_setV) | (with_reducible apply M.var_setI) | (with_reducible apply M.var_setB) | (with_reducible apply M.var_setHt) | (with_reducible apply M.var_setBd) | (with_reducible apply M.var_set2) | (with_reducible apply M.var_set3) | (with_reducible apply M.var_set4) | (with_reducible apply M.var_set45) | (with_reducible apply M.var_set67) | (with_reducible apply M.var_setF) | (with_reducible refine M.var_alloc' _ _ _ ?_; first | rfl | (focus (simp [go_sem]; done))) | (with_reducible refine M.Var.alloc ?_ _) | (with_reducible refine M.Var.drewN ?_ _) | (with_reducible refine M.Var.drew ?_) | (with_reducible refine M.Var.far ?_ _ _ ?hFar; case hFar => (first | omega | ((try simp [go_sem]) <;> omega))) | fail))) hb
  have V3_v : M.Var w3 (p_v) #[.int .i64 17179869184, .int .i64 (-4294967296)] := M.Var.mono (b := p_v) (cs := #[.int .i64 17179869184, .int .i64 (-4294967296)]) (by (repeat (first | (with_reducible assumption) | (with_reducible apply M.var_setV) | (with_reducible apply M.var_setI) | (with_reducible apply M.var_setB) | (with_reducible apply M.var_setHt) | (with_reducible apply M.var_setBd) | (with_reducible apply M.var_set2) | (with_reducible apply M.var_set3) | (with_reducible apply M.var_set4) | (with_reducible apply M.var_set45) | (with_reducible apply M.var_set67) | (with_reducible apply M.var_setF) | (with_reducible refine M.var_alloc' _ _ _ ?_; first | rfl | (focus (simp [go_sem]; done))) | (with_reducible refine M.Var.alloc ?_ _) | (with_reducible refine M.Var.drewN ?_ _) | (with_reducible refine M.Var.drew ?_) | (with_reducible refine M.Var.far ?_ _ _ ?hFar; case hFar => (first | omega | ((try simp [go_sem]) <;> omega))) | fail))) hb
  have V3_u : M.Var w3 (p_u) #[.int .i64 8589934592, .int .i64 (-2147483648)] := M.Var.mono (b := p_u) (cs := #[.int .i64 8589934592, .int .i64 (-2147483648)]) (by (repeat (first | (with_reducible assumption) | (with_reducible apply M.var_setV) | (with_reducible apply M.var_setI) | (with_reducible apply M.var_setB) | (with_reducible apply M.var_setHt) | (with_reducible apply M.var_setBd) | (with_reducible apply M.var_set2) | (with_reducible apply M.var_set3) | (with_reducible apply M.var_set4) | (with_reducible apply M.var_set45) | (with_reducible apply M.var_set67) | (with_reducible apply M.var_setF) | (with_reducible refine M.var_alloc' _ _ _ ?_; first | rfl | (focus (simp [go_sem]; done))) | (with_reducible refine M.Var.alloc ?_ _) | (with_reducible refine M.Var.drewN ?_ _) | (with_reducible refine M.Var.drew ?_) | (with_reducible refine M.Var.far ?_ _ _ ?hFar; case hFar => (first | omega | ((try simp [go_sem]) <;> omega))) | fail))) hb
  have V3_z : M.Var w3 (p_z) #[.int .i64 0, .int .i64 0] := M.Var.mono (b := p_z) (cs := #[.int .i64 0, .int .i64 0]) (by (repeat (first | (with_reducible assumption) | (with_reducible apply M.var_setV) | (with_reducible apply M.var_setI) | (with_reducible apply M.var_setB) | (with_reducible apply M.var_setHt) | (with_reducible apply M.var_setBd) | (with_reducible apply M.var_set2) | (with_reducible apply M.var_set3) | (with_reducible apply M.var_set4) | (with_reducible apply M.var_set45) | (with_reducible apply M.var_set67) | (with_reducible apply M.var_setF) | (with_reducible refine M.var_alloc' _ _ _ ?_; first | rfl | (focus (simp [go_sem]; done))) | (with_reducible refine M.Var.alloc ?_ _) | (with_reducible refine M.Var.drewN ?_ _) | (with_reducible refine M.Var.drew ?_) | (with_reducible refine M.Var.far ?_ _ _ ?hFar; case hFar => (first | omega | ((try simp [go_sem]) <;> omega))) | fail))) hb
  have V3_l : M.Var w3 (p_l) #[.int .i64 0] := M.Var.mono (b := p_l) (cs := #[.int .i64 0]) (by (repeat (first | (with_reducible assumption) | (with_reducible apply M.var_setV) | (with_reducible apply M.var_setI) | (with_reducible apply M.var_setB) | (with_reducible apply M.var_setHt) | (with_reducible apply M.var_setBd) | (with_reducible apply M.var_set2) | (with_reducible apply M.var_set3) | (with_reducible apply M.var_set4) | (with_reducible apply M.var_set45) | (with_reducible apply M.var_set67) | (with_reducible apply M.var_setF) | (with_reducible refine M.var_alloc' _ _ _ ?_; first | rfl | (focus (simp [go_sem]; done))) | (with_reducible refine M.Var.alloc ?_ _) | (with_reducible refine M.Var.drewN ?_ _) | (with_reducible refine M.Var.drew ?_) | (with_reducible refine M.Var.far ?_ _ _ ?hFar; case hFar => (first | omega | ((try simp [go_sem]) <;> omega))) | fail))) hb
  have q3_b_0 : w3.cell? ⟨p_b, 0, none⟩ = some (.int .i64 b.shape) := V3_b.c 0 _ rfl
  have q3_b_1 : w3.cell? ⟨p_b, 1, none⟩ = some (.int .i64 b.sx) := V3_b.c 1 _ rfl
  have q3_b_2 : w3.cell? ⟨p_b, 2, none⟩ = some (.int .i64 b.sy) := V3_b.c 2 _ rfl
  have q3_b_3 : w3.cell? ⟨p_b, 3, none⟩ = some (.int .i64 0) := V3_b.c 3 _ rfl
  have q3_b_4 : w3.cell? ⟨p_b, 4, none⟩ = some (.int .i64 b.px) := V3_b.c 4 _ rfl
  have q3_b_5 : w3.cell? ⟨p_b, 5, none⟩ = some (.int .i64 b.py) := V3_b.c 5 _ rfl
  have q3_b_6 : w3.cell? ⟨p_b, 6, none⟩ = some (.int .i64 (n * 4294967296 * 4)) := V3_b.c 6 _ rfl
  have q3_b_7 : w3.cell? ⟨p_b, 7, none⟩ = some (.int .i64 (-n * 4294967296)) := V3_b.c 7 _ rfl
  have f3_b := V3_b.2.2; have L3_b := V3_b.lt
  have HV3_b := Lib.hid V3_b
  have q3_v_0 : w3.cell? ⟨p_v, 0, none⟩ = some (.int .i64 17179869184) := V3_v.c 0 _ rfl
  have q3_v_1 : w3.cell? ⟨p_v, 1, none⟩ = some (.int .i64 (-4294967296)) := V3_v.c 1 _ rfl
  have f3_v := V3_v.2.2; have L3_v := V3_v.lt
  have HV3_v := Lib.hid V3_v
  have q3_u_0 : w3.cell? ⟨p_u, 0, none⟩ = some (.int .i64 8589934592) := V3_u.c 0 _ rfl
  have q3_u_1 : w3.cell? ⟨p_u, 1, none⟩ = some (.int .i64 (-2147483648)) := V3_u.c 1 _ rfl
  have f3_u := V3_u.2.2; have L3_u := V3_u.lt
  have HV3_u := Lib.hid V3_u
  have q3_z_0 : w3.cell? ⟨p_z, 0, none⟩ = some (.int .i64 0) := V3_z.c 0 _ rfl
  have q3_z_1 : w3.cell? ⟨p_z, 1, none⟩ = some (.int .i64 0) := V3_z.c 1 _ rfl
  have f3_z := V3_z.2.2; have L3_z := V3_z.lt
  have HV3_z := Lib.hid V3_z
  have q3_l_0 : w3.cell? ⟨p_l, 0, none⟩ = some (.int .i64 0) := V3_l.c 0 _ rfl
  have f3_l := V3_l.2.2; have L3_l := V3_l.lt
  have HV3_l := Lib.hid V3_l
  have HG3 := Lib.hid G3; clear hb G3
  (try go_simp)
  refine hK.out _ _ (Lib.hid ⟨(by (repeat (first | (with_reducible assumption) | (with_reducible apply M.var_setV) | (with_reducible apply M.var_setI) | (with_reducible apply M.var_setB) | (with_reducible apply M.var_setHt) | (with_reducible apply M.var_setBd) | (with_reducible apply M.var_set2) | (with_reducible apply M.var_set3) | (with_reducible apply M.var_set4) | (with_reducible apply M.var_set45) | (with_reducible apply M.var_set67) | (with_reducible apply M.var_setF) | (with_reducible refine M.var_alloc' _ _ _ ?_; first | rfl | (focus (simp [go_sem]; done))) | (with_reducible refine M.Var.alloc ?_ _) | (with_reducible refine M.Var.drewN ?_ _) | (with_reducible refine M.Var.drew ?_) | (with_reducible refine M.Var.far ?_ _ _ ?hFar; case hFar => (first | omega | ((try simp [go_sem]) <;> omega))) | fail))), trivial⟩) ?_
  clear hK K hTb hTS; intro hTb hTS
  try simp only [Act.put, List.setIfInBounds_toArray, List.set_cons_zero, List.set_cons_succ]
  refine wpTill_one (i := 3) (by kernel_rfl) rfl hTb (fun K hK => ?_)
  go_simp
  (with_reducible refine (C4.out _).mono ?_); rintro en w4 ⟨rfl, hb⟩
  obtain ⟨T4, hT4⟩ : ∃ T, T = M.sets T3 ([]) := ⟨_, rfl⟩
  have TS4 : T4.heap.size = w.heap.size := by rw [hT4, M.sets_size]; exact TS3
  have G4 : Below w.heap.size T4 w4 := by rw [hT4]; exact Below.trans (by (try simp only [M.sets_append]); (try simp only [M.usV, M.usI, M.usHt, M.usB, M.usBd, M.usBx, M.fstX, M.sndX, M.sets]); (repeat (first | (with_reducible exact HG3.out) | (with_reducible refine M.Below.drewN ?_ _) | (with_reducible refine M.Below.drew ?_) | (with_reducible refine M.below_setCell_both ?_ _ (by assumption) _) | (with_reducible refine Below.alloc ?_ (by go_size) _) | (with_reducible refine Below.setCell ?_ (by dsimp only; go_size) _) | fail))) (hb.mono (by go_size))
  have S4 : w.heap.size ≤ w4.heap.size := by have := G4.size; omega
  have V4_b : M.Var w4 (p_b) #[.int .i64 b.shape, .int .i64 b.sx, .int .i64 b.sy, .int .i64 0, .int .i64 b.px, .int .i64 b.py, .int .i64 (n * 4294967296 * 4), .int .i64 (-n * 4294967296)] := M.Var.mono (b := p_b) (cs := #[.int .i64 b.shape, .int .i64 b.sx, .int .i64 b.sy, .int .i64 0, .int .i64 b.px, .int .i64 b.py, .int .i64 (n * 4294967296 * 4), .int .i64 (-n * 4294967296)]) (by (repeat (first | (with_reducible assumption) | (with_reducible apply M.var_setV) | (with_reducible apply M.var_setI) | (with_reducible apply M.var_setB) | (with_reducible apply M.var_setHt) | (with_reducible apply M.var_setBd) | (with_reducible apply M.var_set2) | (with_reducible apply M.var_set3) | (with_reducible apply M.var_set4) | (with_reducible apply M.var_set45) | (with_reducible apply M.var_set67) | (with_reducible apply M.var_setF) | (with_reducible refine M.var_alloc' _ _ _ ?_; first | rfl | (focus (simp [go_sem]; done))) | (with_reducible refine M.Var.alloc ?_ _) | (with_reducible refine M.Var.drewN ?_ _) | (with_reducible refine M.Var.drew ?_) | (with_reducible refine M.Var.far ?_ _ _ ?hFar; case hFar => (first | omega | ((try simp [go_sem]) <;> omega))) | fail))) hb
  have V4_v : M.Var w4 (p_v) #[.int .i64 17179869184, .int .i64 (-4294967296)] := M.Var.mono (b := p_v) (cs := #[.int .i64 17179869184, .int .i64 (-4294967296)]) (by (repeat (first | (with_reducible assumption) | (with_reducible apply M.var_setV) | (with_reducible apply M.var_setI) | (with_reducible apply M.var_setB) | (with_reducible apply M.var_setHt) | (with_reducible apply M.var_setBd) | (with_reducible apply M.var_set2) | (with_reducible apply M.var_set3) | (with_reducible apply M.var_set4) | (with_reducible apply M.var_set45) | (with_reducible apply M.var_set67) | (with_reducible apply M.var_setF) | (with_reducible refine M.var_alloc' _ _ _ ?_; first | rfl | (focus (simp [go_sem]; done))) | (with_reducible refine M.Var.alloc ?_ _) | (with_reducible refine M.Var.drewN ?_ _) | (with_reducible refine M.Var.drew ?_) | (with_reducible refine M.Var.far ?_ _ _ ?hFar; case hFar => (first | omega | ((try simp [go_sem]) <;> omega))) | fail))) hb
  have V4_u : M.Var w4 (p_u) #[.int .i64 8589934592, .int .i64 (-2147483648)] := M.Var.mono (b := p_u) (cs := #[.int .i64 8589934592, .int .i64 (-2147483648)]) (by (repeat (first | (with_reducible assumption) | (with_reducible apply M.var_setV) | (with_reducible apply M.var_setI) | (with_reducible apply M.var_setB) | (with_reducible apply M.var_setHt) | (with_reducible apply M.var_setBd) | (with_reducible apply M.var_set2) | (with_reducible apply M.var_set3) | (with_reducible apply M.var_set4) | (with_reducible apply M.var_set45) | (with_reducible apply M.var_set67) | (with_reducible apply M.var_setF) | (with_reducible refine M.var_alloc' _ _ _ ?_; first | rfl | (focus (simp [go_sem]; done))) | (with_reducible refine M.Var.alloc ?_ _) | (with_reducible refine M.Var.drewN ?_ _) | (with_reducible refine M.Var.drew ?_) | (with_reducible refine M.Var.far ?_ _ _ ?hFar; case hFar => (first | omega | ((try simp [go_sem]) <;> omega))) | fail))) hb
  have V4_z : M.Var w4 (p_z) #[.int .i64 0, .int .i64 0] := M.Var.mono (b := p_z) (cs := #[.int .i64 0, .int .i64 0]) (by (repeat (first | (with_reducible assumption) | (with_reducible apply M.var_setV) | (with_reducible apply M.var_setI) | (with_reducible apply M.var_setB) | (with_reducible apply M.var_setHt) | (with_reducible apply M.var_setBd) | (with_reducible apply M.var_set2) | (with_reducible apply M.var_set3) | (with_reducible apply M.var_set4) | (with_reducible apply M.var_set45) | (with_reducible apply M.var_set67) | (with_reducible apply M.var_setF) | (with_reducible refine M.var_alloc' _ _ _ ?_; first | rfl | (focus (simp [go_sem]; done))) | (with_reducible refine M.Var.alloc ?_ _) | (with_reducible refine M.Var.drewN ?_ _) | (with_reducible refine M.Var.drew ?_) | (with_reducible refine M.Var.far ?_ _ _ ?hFar; case hFar => (first | omega | ((try simp [go_sem]) <;> omega))) | fail))) hb
  have V4_l : M.Var w4 (p_l) #[.int .i64 0] := M.Var.mono (b := p_l) (cs := #[.int .i64 0]) (by (repeat (first | (with_reducible assumption) | (with_reducible apply M.var_setV) | (with_reducible apply M.var_setI) | (with_reducible apply M.var_setB) | (with_reducible apply M.var_setHt) | (with_reducible apply M.var_setBd) | (with_reducible apply M.var_set2) | (with_reducible apply M.var_set3) | (with_reducible apply M.var_set4) | (with_reducible apply M.var_set45) | (with_reducible apply M.var_set67) | (with_reducible apply M.var_setF) | (with_reducible refine M.var_alloc' _ _ _ ?_; first | rfl | (focus (simp [go_sem]; done))) | (with_reducible refine M.Var.alloc ?_ _) | (with_reducible refine M.Var.drewN ?_ _) | (with_reducible refine M.Var.drew ?_) | (with_reducible refine M.Var.far ?_ _ _ ?hFar; case hFar => (first | omega | ((try simp [go_sem]) <;> omega))) | fail))) hb
  have q4_b_0 : w4.cell? ⟨p_b, 0, none⟩ = some (.int .i64 b.shape) := V4_b.c 0 _ rfl
  have q4_b_1 : w4.cell? ⟨p_b, 1, none⟩ = some (.int .i64 b.sx) := V4_b.c 1 _ rfl
  have q4_b_2 : w4.cell? ⟨p_b, 2, none⟩ = some (.int .i64 b.sy) := V4_b.c 2 _ rfl
  have q4_b_3 : w4.cell? ⟨p_b, 3, none⟩ = some (.int .i64 0) := V4_b.c 3 _ rfl
  have q4_b_4 : w4.cell? ⟨p_b, 4, none⟩ = some (.int .i64 b.px) := V4_b.c 4 _ rfl
  have q4_b_5 : w4.cell? ⟨p_b, 5, none⟩ = some (.int .i64 b.py) := V4_b.c 5 _ rfl
  have q4_b_6 : w4.cell? ⟨p_b, 6, none⟩ = some (.int .i64 (n * 4294967296 * 4)) := V4_b.c 6 _ rfl
  have q4_b_7 : w4.cell? ⟨p_b, 7, none⟩ = some (.int .i64 (-n * 4294967296)) := V4_b.c 7 _ rfl
  have f4_b := V4_b.2.2; have L4_b := V4_b.lt
  have HV4_b := Lib.hid V4_b
  have q4_v_0 : w4.cell? ⟨p_v, 0, none⟩ = some (.int .i64 17179869184) := V4_v.c 0 _ rfl
  have q4_v_1 : w4.cell? ⟨p_v, 1, none⟩ = some (.int .i64 (-4294967296)) := V4_v.c 1 _ rfl
  have f4_v := V4_v.2.2; have L4_v := V4_v.lt
  have HV4_v := Lib.hid V4_v
  have q4_u_0 : w4.cell? ⟨p_u, 0, none⟩ = some (.int .i64 8589934592) := V4_u.c 0 _ rfl
  have q4_u_1 : w4.cell? ⟨p_u, 1, none⟩ = some (.int .i64 (-2147483648)) := V4_u.c 1 _ rfl
  have f4_u := V4_u.2.2; have L4_u := V4_u.lt
  have HV4_u := Lib.hid V4_u
  have q4_z_0 : w4.cell? ⟨p_z, 0, none⟩ = some (.int .i64 0) := V4_z.c 0 _ rfl
  have q4_z_1 : w4.cell? ⟨p_z, 1, none⟩ = some (.int .i64 0) := V4_z.c 1 _ rfl
  have f4_z := V4_z.2.2; have L4_z := V4_z.lt
  have HV4_z := Lib.hid V4_z
  have q4_l_0 : w4.cell? ⟨p_l, 0, none⟩ = some (.int .i64 0) := V4_l.c 0 _ rfl
  have f4_l := V4_l.2.2; have L4_l := V4_l.lt
  have HV4_l := Lib.hid V4_l
  have HG4 := Lib.hid G4; clear hb G4
  (try go_simp)
  refine hK.out _ _ (Lib.hid ⟨(by (repeat (first | (with_reducible assumption) | (with_reducible apply M.var_setV) | (with_reducible apply M.var_setI) | (with_reducible apply M.var_setB) | (with_reducible apply M.var_setHt) | (with_reducible apply M.var_setBd) | (with_reducible apply M.var_set2) | (with_reducible apply M.var_set3) | (with_reducible apply M.var_set4) | (with_reducible apply M.var_set45) | (with_reducible apply M.var_set67) | (with_reducible apply M.var_setF) | (with_reducible refine M.var_alloc' _ _ _ ?_; first | rfl | (focus (simp [go_sem]; done))) | (with_reducible refine M.Var.alloc ?_ _) | (with_reducible refine M.Var.drewN ?_ _) | (with_reducible refine M.Var.drew ?_) | (with_reducible refine M.Var.far ?_ _ _ ?hFar; case hFar => (first | omega | ((try simp [go_sem]) <;> omega))) | fail))), trivial⟩) ?_
  clear hK K hTb hTS; intro hTb hTS
  try simp only [Act.put, List.setIfInBounds_toArray, List.set_cons_zero, List.set_cons_succ]
  refine wpTill_one (i := 4) (by kernel_rfl) rfl hTb (fun K hK => ?_)
  go_simp
  (try go_simp)
  refine hK.out _ _ (Lib.hid ⟨(by (repeat (first | (with_reducible assumption) | (with_reducible apply M.var_setV) | (with_reducible apply M.var_setI) | (with_reducible apply M.var_setB) | (with_reducible apply M.var_setHt) | (with_reducible apply M.var_setBd) | (with_reducible apply M.var_set2) | (with_reducible apply M.var_set3) | (with_reducible apply M.var_set4) | (with_reducible apply M.var_set45) | (with_reducible apply M.var_set67) | (with_reducible apply M.var_setF) | (with_reducible refine M.var_alloc' _ _ _ ?_; first | rfl | (focus (simp [go_sem]; done))) | (with_reducible refine M.Var.alloc ?_ _) | (with_reducible refine M.Var.drewN ?_ _) | (with_reducible refine M.Var.drew ?_) | (with_reducible refine M.Var.far ?_ _ _ ?hFar; case hFar => (first | omega | ((try simp [go_sem]) <;> omega))) | fail))), trivial⟩) ?_
  clear hK K hTb hTS; intro hTb hTS
  try simp only [Act.put, List.setIfInBounds_toArray, List.set_cons_zero, List.set_cons_succ]
  refine wpTill_one (i := 5) (by kernel_rfl) rfl hTb (fun K hK => ?_)
  go_simp
  (try go_simp)
  refine hK.out _ _ (Lib.hid ⟨(by (repeat (first | (with_reducible assumption) | (with_reducible apply M.var_setV) | (with_reducible apply M.var_setI) | (with_reducible apply M.var_setB) | (with_reducible apply M.var_setHt) | (with_reducible apply M.var_setBd) | (with_reducible apply M.var_set2) | (with_reducible apply M.var_set3) | (with_reducible apply M.var_set4) | (with_reducible apply M.var_set45) | (with_reducible apply M.var_set67) | (with_reducible apply M.var_setF) | (with_reducible refine M.var_alloc' _ _ _ ?_; first | rfl | (focus (simp [go_sem]; done))) | (with_reducible refine M.Var.alloc ?_ _) | (with_reducible refine M.Var.drewN ?_ _) | (with_reducible refine M.Var.drew ?_) | (with_reducible refine M.Var.far ?_ _ _ ?hFar; case hFar => (first | omega | ((try simp [go_sem]) <;> omega))) | fail))), trivial⟩) ?_
  clear hK K hTb hTS; intro hTb hTS
  try simp only [Act.put, List.setIfInBounds_toArray, List.set_cons_zero, List.set_cons_succ]
  refine wpTill_done (by kernel_rfl) ?_ _; clear hTb hTS
  go_wp2_with (with_reducible refine M.stopPost ?_)
  (try refine M.Stop.mk ?_)
  refine bodyPost_end (v := .tuple #[]) (by first | rfl | kernel_rfl | simp [results, go_sem]) rfl ⟨rfl, ?_⟩
  suffices GE : ∀ W', Below w.heap.size (M.sets T4 (usV p_z (.ok (0, 0)) ++ usI p_l (.ok 0))) W' → Below w.heap.size (M.sets w _) W' from GE _ (by (try simp only [M.sets_append]); (try simp only [M.usV, M.usI, M.usHt, M.usB, M.usBd, M.usBx, M.fstX, M.sndX, M.sets]); (repeat (first | (with_reducible exact HG4.out) | (with_reducible refine M.Below.drewN ?_ _) | (with_reducible refine M.Below.drew ?_) | (with_reducible refine M.below_setCell_both ?_ _ (by assumption) _) | (with_reducible refine Below.alloc ?_ (by go_size) _) | (with_reducible refine Below.setCell ?_ (by dsimp only; go_size) _) | fail)))
  intro W' GE; subst hT4; subst hT3; subst hT2; subst hT1; (try simp only [M.sets_append]); (try simp only [M.sets_append] at GE); exact GE
end Go.Proofs.Ytcaibieaobhheaa
