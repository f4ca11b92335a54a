/- What the closures of TouchFar do. -/
import Derived.Test.YtcaibieaobhheaaHit
import Derived.Test.YtcaibieaobhheaaTouchMath
import Derived.Test.YtcaibieaobhheaaVar3
import Derived.Test.YtcaibieaobhheaaTillV
import Derived.Deep.DrawnRows
namespace Go.Proofs.Ytcaibieaobhheaa
open Go.RowKit M
set_option maxRecDepth 100000
set_option maxHeartbeats 4000000
set_option linter.unusedVariables false
set_option linter.unusedSimpArgs false
attribute [local go_sem ↓] Go.wp_at_zero Go.wp_at_succ
theorem half_i64 {b : Bd} (h : b.ok) : I64 (half b).2 := by unfold half; split; exact h.sx; exact h.sy
theorem far1_c (b : Bd) (w : World) :
    Calls Try.prog 24 #[.agg #[.int .i64 b.shape, .int .i64 b.sx, .int .i64 b.sy, .int .i64 b.mass, .int .i64 b.px, .int .i64 b.py, .int .i64 b.mx, .int .i64 b.my]] w fun e w' => e = .returned (.int .i64 (half b).2) ∧ Bw w w' := by
  unfold half
  by_cases h : b.shape = 1
  · rw [if_pos h]
    have k := beq_iff_eq.2 h
    clear h
    go_enter Try.func24, Try.ntmps24
    go_wp2
    go_ret
    exact ⟨rfl, (Below.refl _ _).alloc (Nat.le_refl _) _⟩
  · rw [if_neg h]
    have k := beq_eq_false_iff_ne.2 h
    clear h
    go_enter Try.func24, Try.ntmps24
    go_wp2
    go_ret
    exact ⟨rfl, (Below.refl _ _).alloc (Nat.le_refl _) _⟩
theorem cloFar (p_a p_b p_n p_p p_h p_q : Nat) (a b : Bd) (ha : a.ok) (hb : b.ok) (n : Int) (hn : 1 ≤ n ∧ n ≤ 1000) (la : Lo a) (lb : Lo b) (q1 q2 : Ht) (i1 : (⟨b.shape, b.sx, b.sy, b.mass, a.px + a.sx + b.sx + n, b.py, b.mx, b.my⟩ : Bd).ok) (i2 : (⟨b.shape, b.sx, b.sy, b.mass, a.px, a.py - (half a).2 - (half b).2 - n, b.mx, b.my⟩ : Bd).ok)
    (e1 : hitX a (⟨b.shape, b.sx, b.sy, b.mass, a.px + a.sx + b.sx + n, b.py, b.mx, b.my⟩ : Bd) = .ok (q1, false)) (e2 : hitX a (⟨b.shape, b.sx, b.sy, b.mass, a.px, a.py - (half a).2 - (half b).2 - n, b.mx, b.my⟩ : Bd) = .ok (q2, false)) (w : World)
    (h_a : Var w p_a #[.int .i64 a.shape, .int .i64 a.sx, .int .i64 a.sy, .int .i64 a.mass, .int .i64 a.px, .int .i64 a.py, .int .i64 a.mx, .int .i64 a.my]) (h_b : Var w p_b #[.int .i64 b.shape, .int .i64 b.sx, .int .i64 b.sy, .int .i64 b.mass, .int .i64 b.px, .int .i64 b.py, .int .i64 b.mx, .int .i64 b.my]) (h_n : Var w p_n #[.int .i64 n]) (h_p : Var w p_p #[.bool false]) (h_h : Var w p_h #[.func (.func 24) #[] #[]]) (h_q : Var w p_q #[.bool false])
    (o1 : p_a < p_b) (o2 : p_b < p_n) (o3 : p_n < p_h) (o4 : p_h < p_p) (o5 : p_p < p_q) :
    Calls Try.prog 25 #[.pointer (some ⟨p_a, 0, none⟩), .pointer (some ⟨p_b, 0, none⟩), .pointer (some ⟨p_n, 0, none⟩), .pointer (some ⟨p_p, 0, none⟩), .pointer (some ⟨p_h, 0, none⟩), .pointer (some ⟨p_q, 0, none⟩)] w fun e w' => e = outU 0 ∧ Below w.heap.size (sets w ([(⟨p_b, 4, none⟩, .int .i64 (a.px + a.sx + b.sx + n))] ++ usB p_p (.ok false) ++ [(⟨p_b, 4, none⟩, .int .i64 a.px)] ++ [(⟨p_b, 5, none⟩, .int .i64 (a.py - (half a).2 - (half b).2 - n))] ++ usB p_q (.ok false))) w' := by
  have C1 := Lib.hid (fun w => (hit_x a (⟨b.shape, b.sx, b.sy, b.mass, a.px + a.sx + b.sx + n, b.py, b.mx, b.my⟩ : Bd) ha i1 w).mono fun e w' h => (⟨ret_Hb e1 h.1, h.2⟩ : e = .returned (.tuple #[.agg #[.int .i64 q1.nx, .int .i64 q1.ny, .int .i64 q1.d], .bool false]) ∧ Bw w w'))
  have C2 := Lib.hid (fun w => (hit_x a (⟨b.shape, b.sx, b.sy, b.mass, a.px, a.py - (half a).2 - (half b).2 - n, b.mx, b.my⟩ : Bd) ha i2 w).mono fun e w' h => (⟨ret_Hb e2 h.1, h.2⟩ : e = .returned (.tuple #[.agg #[.int .i64 q2.nx, .int .i64 q2.ny, .int .i64 q2.d], .bool false]) ∧ Bw w w'))
  have C3 := Lib.hid (far1_c a)
  have C4 : ∀ w : World, Calls Try.prog 24 #[.agg #[.int .i64 b.shape, .int .i64 b.sx, .int .i64 b.sy, .int .i64 b.mass, .int .i64 (a.px + a.sx + b.sx + n), .int .i64 b.py, .int .i64 b.mx, .int .i64 b.my]] w fun e w' => e = .returned (.int .i64 (half b).2) ∧ Bw w w' := fun w => far1_c (⟨b.shape, b.sx, b.sy, b.mass, a.px + a.sx + b.sx + n, b.py, b.mx, b.my⟩ : Bd) w
  replace C4 := Lib.hid C4
  have k1 := half_bounds la
  have k2 := half_bounds lb
  have wx : IntKind.i64.wrap (a.px + a.sx) = a.px + a.sx := IntWalk.i64_in _ (by unfold Lo at *; omega)
  have wy : IntKind.i64.wrap (a.px + a.sx + b.sx) = a.px + a.sx + b.sx := IntWalk.i64_in _ (by unfold Lo at *; omega)
  have wz : IntKind.i64.wrap (a.px + a.sx + b.sx + n) = a.px + a.sx + b.sx + n := IntWalk.i64_in _ (by unfold Lo at *; omega)
  have vx : IntKind.i64.wrap (a.py - (half a).2) = a.py - (half a).2 := IntWalk.i64_in _ (by unfold Lo at *; omega)
  have vy : IntKind.i64.wrap (a.py - (half a).2 - (half b).2) = a.py - (half a).2 - (half b).2 := IntWalk.i64_in _ (by unfold Lo at *; omega)
  have vz : IntKind.i64.wrap (a.py - (half a).2 - (half b).2 - n) = a.py - (half a).2 - (half b).2 - n := IntWalk.i64_in _ (by unfold Lo at *; omega)
  clear e1 e2 k1 k2
  unfold Lo at la lb
  have q0_a_0 : w.cell? ⟨p_a, 0, none⟩ = some (.int .i64 a.shape) := h_a.c 0 _ rfl
  have q0_a_1 : w.cell? ⟨p_a, 1, none⟩ = some (.int .i64 a.sx) := h_a.c 1 _ rfl
  have q0_a_2 : w.cell? ⟨p_a, 2, none⟩ = some (.int .i64 a.sy) := h_a.c 2 _ rfl
  have q0_a_3 : w.cell? ⟨p_a, 3, none⟩ = some (.int .i64 a.mass) := h_a.c 3 _ rfl
  have q0_a_4 : w.cell? ⟨p_a, 4, none⟩ = some (.int .i64 a.px) := h_a.c 4 _ rfl
  have q0_a_5 : w.cell? ⟨p_a, 5, none⟩ = some (.int .i64 a.py) := h_a.c 5 _ rfl
  have q0_a_6 : w.cell? ⟨p_a, 6, none⟩ = some (.int .i64 a.mx) := h_a.c 6 _ rfl
  have q0_a_7 : w.cell? ⟨p_a, 7, none⟩ = some (.int .i64 a.my) := h_a.c 7 _ rfl
  have f0_a := h_a.2.2; have L0_a := h_a.lt
  have HV0_a := Lib.hid h_a
  have q0_b_0 : w.cell? ⟨p_b, 0, none⟩ = some (.int .i64 b.shape) := h_b.c 0 _ rfl
  have q0_b_1 : w.cell? ⟨p_b, 1, none⟩ = some (.int .i64 b.sx) := h_b.c 1 _ rfl
  have q0_b_2 : w.cell? ⟨p_b, 2, none⟩ = some (.int .i64 b.sy) := h_b.c 2 _ rfl
  have q0_b_3 : w.cell? ⟨p_b, 3, none⟩ = some (.int .i64 b.mass) := h_b.c 3 _ rfl
  have q0_b_4 : w.cell? ⟨p_b, 4, none⟩ = some (.int .i64 b.px) := h_b.c 4 _ rfl
  have q0_b_5 : w.cell? ⟨p_b, 5, none⟩ = some (.int .i64 b.py) := h_b.c 5 _ rfl
  have q0_b_6 : w.cell? ⟨p_b, 6, none⟩ = some (.int .i64 b.mx) := h_b.c 6 _ rfl
  have q0_b_7 : w.cell? ⟨p_b, 7, none⟩ = some (.int .i64 b.my) := h_b.c 7 _ rfl
  have f0_b := h_b.2.2; have L0_b := h_b.lt
  have HV0_b := Lib.hid h_b
  have q0_n_0 : w.cell? ⟨p_n, 0, none⟩ = some (.int .i64 n) := h_n.c 0 _ rfl
  have f0_n := h_n.2.2; have L0_n := h_n.lt
  have HV0_n := Lib.hid h_n
  have q0_p_0 : w.cell? ⟨p_p, 0, none⟩ = some (.bool false) := h_p.c 0 _ rfl
  have f0_p := h_p.2.2; have L0_p := h_p.lt
  have HV0_p := Lib.hid h_p
  have q0_h_0 : w.cell? ⟨p_h, 0, none⟩ = some (.func (.func 24) #[] #[]) := h_h.c 0 _ rfl
  have f0_h := h_h.2.2; have L0_h := h_h.lt
  have HV0_h := Lib.hid h_h
  have q0_q_0 : w.cell? ⟨p_q, 0, none⟩ = some (.bool false) := h_q.c 0 _ rfl
  have f0_q := h_q.2.2; have L0_q := h_q.lt
  have HV0_q := Lib.hid h_q
  have d_p_a_p_b : p_a ≠ p_b := by omega
  have d_p_a_p_n : p_a ≠ p_n := by omega
  have d_p_a_p_p : p_a ≠ p_p := by omega
  have d_p_a_p_h : p_a ≠ p_h := by omega
  have d_p_a_p_q : p_a ≠ p_q := by omega
  have d_p_b_p_a : p_b ≠ p_a := by omega
  have d_p_b_p_n : p_b ≠ p_n := by omega
  have d_p_b_p_p : p_b ≠ p_p := by omega
  have d_p_b_p_h : p_b ≠ p_h := by omega
  have d_p_b_p_q : p_b ≠ p_q := by omega
  have d_p_n_p_a : p_n ≠ p_a := by omega
  have d_p_n_p_b : p_n ≠ p_b := by omega
  have d_p_n_p_p : p_n ≠ p_p := by omega
  have d_p_n_p_h : p_n ≠ p_h := by omega
  have d_p_n_p_q : p_n ≠ p_q := by omega
  have d_p_p_p_a : p_p ≠ p_a := by omega
  have d_p_p_p_b : p_p ≠ p_b := by omega
  have d_p_p_p_n : p_p ≠ p_n := by omega
  have d_p_p_p_h : p_p ≠ p_h := by omega
  have d_p_p_p_q : p_p ≠ p_q := by omega
  have d_p_h_p_a : p_h ≠ p_a := by omega
  have d_p_h_p_b : p_h ≠ p_b := by omega
  have d_p_h_p_n : p_h ≠ p_n := by omega
  have d_p_h_p_p : p_h ≠ p_p := by omega
  have d_p_h_p_q : p_h ≠ p_q := by omega
  have d_p_q_p_a : p_q ≠ p_a := by omega
  have d_p_q_p_b : p_q ≠ p_b := by omega
  have d_p_q_p_n : p_q ≠ p_n := by omega
  have d_p_q_p_p : p_q ≠ p_p := by omega
  have d_p_q_p_h : p_q ≠ p_h := by omega
  have HG0 := Lib.hid (Below.refl w.heap.size w); have TS0 : w.heap.size = w.heap.size := rfl
  go_enter Try.func25, Try.ntmps25
  go_wp2_with fail
  (with_reducible refine (C1.out _).mono ?_); rintro en w1 ⟨rfl, hb⟩
  obtain ⟨T1, hT1⟩ : ∃ T, T = M.sets w ([(⟨p_b, 4, none⟩, .int .i64 (a.px + a.sx + b.sx + n))]) := ⟨_, rfl⟩
  have TS1 : T1.heap.size = w.heap.size := by rw [hT1, M.sets_size]
  have G1 : Below w.heap.size T1 w1 := by rw [hT1]; exact Below.trans (by (try simp only [M.sets_append]); (try simp only [M.usV, M.usI, M.usHt, M.usB, M.usBd, M.usBx, M.fstX, M.sndX, M.sets]); (repeat (first | (with_reducible exact HG0.out) | (with_reducible refine M.Below.drewN ?_ _) | (with_reducible refine M.Below.drew ?_) | (with_reducible refine M.below_setCell_both ?_ _ (by assumption) _) | (with_reducible refine Below.alloc ?_ (by go_size) _) | (with_reducible refine Below.setCell ?_ (by dsimp only; go_size) _) | fail))) (hb.mono (by go_size))
  have S1 : w.heap.size ≤ w1.heap.size := by have := G1.size; omega
  have V1_a : M.Var w1 (p_a) #[.int .i64 a.shape, .int .i64 a.sx, .int .i64 a.sy, .int .i64 a.mass, .int .i64 a.px, .int .i64 a.py, .int .i64 a.mx, .int .i64 a.my] := M.Var.mono (b := p_a) (cs := #[.int .i64 a.shape, .int .i64 a.sx, .int .i64 a.sy, .int .i64 a.mass, .int .i64 a.px, .int .i64 a.py, .int .i64 a.mx, .int .i64 a.my]) (by (repeat (first | (with_reducible assumption) | (with_reducible apply M.var_setV) | (with_reducible apply M.var_setI) | (with_reducible apply M.var_setB) | (with_reducible apply M.var_setHt) | (with_reducible apply M.var_setBd) | (with_reducible apply M.var_set2) | (with_reducible apply M.var_set3) | (with_reducible apply M.var_set4) | (with_reducible apply M.var_set45) | (with_reducible apply M.var_set67) | (with_reducible apply M.var_setF) | (with_reducible refine M.var_alloc' _ _ _ ?_; first | rfl | (focus (simp [go_sem]; done))) | (with_reducible refine M.Var.alloc ?_ _) | (with_reducible refine M.Var.drewN ?_ _) | (with_reducible refine M.Var.drew ?_) | (with_reducible refine M.Var.far ?_ _ _ ?hFar; case hFar => (first | omega | ((try simp [go_sem]) <;> omega))) | fail))) hb
  have V1_b : M.Var w1 (p_b) #[.int .i64 b.shape, .int .i64 b.sx, .int .i64 b.sy, .int .i64 b.mass, .int .i64 (a.px + a.sx + b.sx + n), .int .i64 b.py, .int .i64 b.mx, .int .i64 b.my] := M.Var.mono (b := p_b) (cs := #[.int .i64 b.shape, .int .i64 b.sx, .int .i64 b.sy, .int .i64 b.mass, .int .i64 (a.px + a.sx + b.sx + n), .int .i64 b.py, .int .i64 b.mx, .int .i64 b.my]) (by (repeat (first | (with_reducible assumption) | (with_reducible apply M.var_setV) | (with_reducible apply M.var_setI) | (with_reducible apply M.var_setB) | (with_reducible apply M.var_setHt) | (with_reducible apply M.var_setBd) | (with_reducible apply M.var_set2) | (with_reducible apply M.var_set3) | (with_reducible apply M.var_set4) | (with_reducible apply M.var_set45) | (with_reducible apply M.var_set67) | (with_reducible apply M.var_setF) | (with_reducible refine M.var_alloc' _ _ _ ?_; first | rfl | (focus (simp [go_sem]; done))) | (with_reducible refine M.Var.alloc ?_ _) | (with_reducible refine M.Var.drewN ?_ _) | (with_reducible refine M.Var.drew ?_) | (with_reducible refine M.Var.far ?_ _ _ ?hFar; case hFar => (first | omega | ((try simp [go_sem]) <;> omega))) | fail))) hb
  have V1_n : M.Var w1 (p_n) #[.int .i64 n] := M.Var.mono (b := p_n) (cs := #[.int .i64 n]) (by (repeat (first | (with_reducible assumption) | (with_reducible apply M.var_setV) | (with_reducible apply M.var_setI) | (with_reducible apply M.var_setB) | (with_reducible apply M.var_setHt) | (with_reducible apply M.var_setBd) | (with_reducible apply M.var_set2) | (with_reducible apply M.var_set3) | (with_reducible apply M.var_set4) | (with_reducible apply M.var_set45) | (with_reducible apply M.var_set67) | (with_reducible apply M.var_setF) | (with_reducible refine M.var_alloc' _ _ _ ?_; first | rfl | (focus (simp [go_sem]; done))) | (with_reducible refine M.Var.alloc ?_ _) | (with_reducible refine M.Var.drewN ?_ _) | (with_reducible refine M.Var.drew ?_) | (with_reducible refine M.Var.far ?_ _ _ ?hFar; case hFar => (first | omega | ((try simp [go_sem]) <;> omega))) | fail))) hb
  have V1_p : M.Var w1 (p_p) #[.bool false] := M.Var.mono (b := p_p) (cs := #[.bool false]) (by (repeat (first | (with_reducible assumption) | (with_reducible apply M.var_setV) | (with_reducible apply M.var_setI) | (with_reducible apply M.var_setB) | (with_reducible apply M.var_setHt) | (with_reducible apply M.var_setBd) | (with_reducible apply M.var_set2) | (with_reducible apply M.var_set3) | (with_reducible apply M.var_set4) | (with_reducible apply M.var_set45) | (with_reducible apply M.var_set67) | (with_reducible apply M.var_setF) | (with_reducible refine M.var_alloc' _ _ _ ?_; first | rfl | (focus (simp [go_sem]; done))) | (with_reducible refine M.Var.alloc ?_ _) | (with_reducible refine M.Var.drewN ?_ _) | (with_reducible refine M.Var.drew ?_) | (with_reducible refine M.Var.far ?_ _ _ ?hFar; case hFar => (first | omega | ((try simp [go_sem]) <;> omega))) | fail))) hb
  have V1_h : M.Var w1 (p_h) #[.func (.func 24) #[] #[]] := M.Var.mono (b := p_h) (cs := #[.func (.func 24) #[] #[]]) (by (repeat (first | (with_reducible assumption) | (with_reducible apply M.var_setV) | (with_reducible apply M.var_setI) | (with_reducible apply M.var_setB) | (with_reducible apply M.var_setHt) | (with_reducible apply M.var_setBd) | (with_reducible apply M.var_set2) | (with_reducible apply M.var_set3) | (with_reducible apply M.var_set4) | (with_reducible apply M.var_set45) | (with_reducible apply M.var_set67) | (with_reducible apply M.var_setF) | (with_reducible refine M.var_alloc' _ _ _ ?_; first | rfl | (focus (simp [go_sem]; done))) | (with_reducible refine M.Var.alloc ?_ _) | (with_reducible refine M.Var.drewN ?_ _) | (with_reducible refine M.Var.drew ?_) | (with_reducible refine M.Var.far ?_ _ _ ?hFar; case hFar => (first | omega | ((try simp [go_sem]) <;> omega))) | fail))) hb
  have V1_q : M.Var w1 (p_q) #[.bool false] := M.Var.mono (b := p_q) (cs := #[.bool false]) (by (repeat (first | (with_reducible assumption) | (with_reducible apply M.var_setV) | (with_reducible apply M.var_setI) | (with_reducible apply M.var_setB) | (with_reducible apply M.var_setHt) | (with_reducible apply M.var_setBd) | (with_reducible apply M.var_set2) | (with_reducible apply M.var_set3) | (with_reducible apply M.var_set4) | (with_reducible apply M.var_set45) | (with_reducible apply M.var_set67) | (with_reducible apply M.var_setF) | (with_reducible refine M.var_alloc' _ _ _ ?_; first | rfl | (focus (simp [go_sem]; done))) | (with_reducible refine M.Var.alloc ?_ _) | (with_reducible refine M.Var.drewN ?_ _) | (with_reducible refine M.Var.drew ?_) | (with_reducible refine M.Var.far ?_ _ _ ?hFar; case hFar => (first | omega | ((try simp [go_sem]) <;> omega))) | fail))) hb
  have q1_a_0 : w1.cell? ⟨p_a, 0, none⟩ = some (.int .i64 a.shape) := V1_a.c 0 _ rfl
  have q1_a_1 : w1.cell? ⟨p_a, 1, none⟩ = some (.int .i64 a.sx) := V1_a.c 1 _ rfl
  have q1_a_2 : w1.cell? ⟨p_a, 2, none⟩ = some (.int .i64 a.sy) := V1_a.c 2 _ rfl
  have q1_a_3 : w1.cell? ⟨p_a, 3, none⟩ = some (.int .i64 a.mass) := V1_a.c 3 _ rfl
  have q1_a_4 : w1.cell? ⟨p_a, 4, none⟩ = some (.int .i64 a.px) := V1_a.c 4 _ rfl
  have q1_a_5 : w1.cell? ⟨p_a, 5, none⟩ = some (.int .i64 a.py) := V1_a.c 5 _ rfl
  have q1_a_6 : w1.cell? ⟨p_a, 6, none⟩ = some (.int .i64 a.mx) := V1_a.c 6 _ rfl
  have q1_a_7 : w1.cell? ⟨p_a, 7, none⟩ = some (.int .i64 a.my) := V1_a.c 7 _ rfl
  have f1_a := V1_a.2.2; have L1_a := V1_a.lt
  have HV1_a := Lib.hid V1_a
  have q1_b_0 : w1.cell? ⟨p_b, 0, none⟩ = some (.int .i64 b.shape) := V1_b.c 0 _ rfl
  have q1_b_1 : w1.cell? ⟨p_b, 1, none⟩ = some (.int .i64 b.sx) := V1_b.c 1 _ rfl
  have q1_b_2 : w1.cell? ⟨p_b, 2, none⟩ = some (.int .i64 b.sy) := V1_b.c 2 _ rfl
  have q1_b_3 : w1.cell? ⟨p_b, 3, none⟩ = some (.int .i64 b.mass) := V1_b.c 3 _ rfl
  have q1_b_4 : w1.cell? ⟨p_b, 4, none⟩ = some (.int .i64 (a.px + a.sx + b.sx + n)) := V1_b.c 4 _ rfl
  have q1_b_5 : w1.cell? ⟨p_b, 5, none⟩ = some (.int .i64 b.py) := V1_b.c 5 _ rfl
  have q1_b_6 : w1.cell? ⟨p_b, 6, none⟩ = some (.int .i64 b.mx) := V1_b.c 6 _ rfl
  have q1_b_7 : w1.cell? ⟨p_b, 7, none⟩ = some (.int .i64 b.my) := V1_b.c 7 _ rfl
  have f1_b := V1_b.2.2; have L1_b := V1_b.lt
  have HV1_b := Lib.hid V1_b
  have q1_n_0 : w1.cell? ⟨p_n, 0, none⟩ = some (.int .i64 n) := V1_n.c 0 _ rfl
  have f1_n := V1_n.2.2; have L1_n := V1_n.lt
  have HV1_n := Lib.hid V1_n
  have q1_p_0 : w1.cell? ⟨p_p, 0, none⟩ = some (.bool false) := V1_p.c 0 _ rfl
  have f1_p := V1_p.2.2; have L1_p := V1_p.lt
  have HV1_p := Lib.hid V1_p
  have q1_h_0 : w1.cell? ⟨p_h, 0, none⟩ = some (.func (.func 24) #[] #[]) := V1_h.c 0 _ rfl
  have f1_h := V1_h.2.2; have L1_h := V1_h.lt
  have HV1_h := Lib.hid V1_h
  have q1_q_0 : w1.cell? ⟨p_q, 0, none⟩ = some (.bool false) := V1_q.c 0 _ rfl
  have f1_q := V1_q.2.2; have L1_q := V1_q.lt
  have HV1_q := Lib.hid V1_q
  have HG1 := Lib.hid G1; clear hb G1
  go_wp2_with fail
  refine wp_region_till (S := fun sT wT' => Hid (M.Var wT' (p_a) #[.int .i64 a.shape, .int .i64 a.sx, .int .i64 a.sy, .int .i64 a.mass, .int .i64 a.px, .int .i64 a.py, .int .i64 a.mx, .int .i64 a.my] ∧ (sT.getD 18 false = false → M.Var wT' (p_b) #[.int .i64 b.shape, .int .i64 b.sx, .int .i64 b.sy, .int .i64 b.mass, .int .i64 (a.px + a.sx + b.sx + n), .int .i64 b.py, .int .i64 b.mx, .int .i64 b.my]) ∧ M.Var wT' (p_n) #[.int .i64 n] ∧ M.Var wT' (p_h) #[.func (.func 24) #[] #[]] ∧ True)) (by kernel_rfl) (Lib.hid ⟨(by (repeat (first | (with_reducible assumption) | (with_reducible apply M.var_setV) | (with_reducible apply M.var_setI) | (with_reducible apply M.var_setB) | (with_reducible apply M.var_setHt) | (with_reducible apply M.var_setBd) | (with_reducible apply M.var_set2) | (with_reducible apply M.var_set3) | (with_reducible apply M.var_set4) | (with_reducible apply M.var_set45) | (with_reducible apply M.var_set67) | (with_reducible apply M.var_setF) | (with_reducible refine M.var_alloc' _ _ _ ?_; first | rfl | (focus (simp [go_sem]; done))) | (with_reducible refine M.Var.alloc ?_ _) | (with_reducible refine M.Var.drewN ?_ _) | (with_reducible refine M.Var.drew ?_) | (with_reducible refine M.Var.far ?_ _ _ ?hFar; case hFar => (first | omega | ((try simp [go_sem]) <;> omega))) | fail))), (fun _ => by (repeat (first | (with_reducible assumption) | (with_reducible apply M.var_setV) | (with_reducible apply M.var_setI) | (with_reducible apply M.var_setB) | (with_reducible apply M.var_setHt) | (with_reducible apply M.var_setBd) | (with_reducible apply M.var_set2) | (with_reducible apply M.var_set3) | (with_reducible apply M.var_set4) | (with_reducible apply M.var_set45) | (with_reducible apply M.var_set67) | (with_reducible apply M.var_setF) | (with_reducible refine M.var_alloc' _ _ _ ?_; first | rfl | (focus (simp [go_sem]; done))) | (with_reducible refine M.Var.alloc ?_ _) | (with_reducible refine M.Var.drewN ?_ _) | (with_reducible refine M.Var.drew ?_) | (with_reducible refine M.Var.far ?_ _ _ ?hFar; case hFar => (first | omega | ((try simp [go_sem]) <;> omega))) | fail))), (by (repeat (first | (with_reducible assumption) | (with_reducible apply M.var_setV) | (with_reducible apply M.var_setI) | (with_reducible apply M.var_setB) | (with_reducible apply M.var_setHt) | (with_reducible apply M.var_setBd) | (with_reducible apply M.var_set2) | (with_reducible apply M.var_set3) | (with_reducible apply M.var_set4) | (with_reducible apply M.var_set45) | (with_reducible apply M.var_set67) | (with_reducible apply M.var_setF) | (with_reducible refine M.var_alloc' _ _ _ ?_; first | rfl | (focus (simp [go_sem]; done))) | (with_reducible refine M.Var.alloc ?_ _) | (with_reducible refine M.Var.drewN ?_ _) | (with_reducible refine M.Var.drew ?_) | (with_reducible refine M.Var.far ?_ _ _ ?hFar; case hFar => (first | omega | ((try simp [go_sem]) <;> omega))) | fail))), (by (repeat (first | (with_reducible assumption) | (with_reducible apply M.var_setV) | (with_reducible apply M.var_setI) | (with_reducible apply M.var_setB) | (with_reducible apply M.var_setHt) | (with_reducible apply M.var_setBd) | (with_reducible apply M.var_set2) | (with_reducible apply M.var_set3) | (with_reducible apply M.var_set4) | (with_reducible apply M.var_set45) | (with_reducible apply M.var_set67) | (with_reducible apply M.var_setF) | (with_reducible refine M.var_alloc' _ _ _ ?_; first | rfl | (focus (simp [go_sem]; done))) | (with_reducible refine M.Var.alloc ?_ _) | (with_reducible refine M.Var.drewN ?_ _) | (with_reducible refine M.Var.drew ?_) | (with_reducible refine M.Var.far ?_ _ _ ?hFar; case hFar => (first | omega | ((try simp [go_sem]) <;> omega))) | fail))), trivial⟩) ?_
  intro hTb hTS
  refine wpTill_take (i := 0) (v := ?_) rfl (by kernel_rfl) (by kernel_rfl) (by kernel_rfl) hTb (fun _ _ _ h => h) (fun _ _ => by simp only [getD_set_ne false (show 0 ≠ 18 by decide)]) (Or.inl ⟨by rfl, ?_⟩) hTS ?_
  rotate_left
  · intro wT hT; clear hT
    go_simp
    all_goals with_reducible rfl
  clear hTb hTS; intro hTb hTS
  try simp only [Act.put, List.setIfInBounds_toArray, List.set_cons_zero, List.set_cons_succ]
  refine wpTill_take (i := 1) (v := ?_) rfl (by kernel_rfl) (by kernel_rfl) (by kernel_rfl) hTb (fun _ _ _ h => h) (fun _ _ => by simp only [getD_set_ne false (show 1 ≠ 18 by decide)]) (Or.inl ⟨by rfl, ?_⟩) hTS ?_
  rotate_left
  · intro wT hT; clear hT
    go_simp
    all_goals with_reducible rfl
  clear hTb hTS; intro hTb hTS
  try simp only [Act.put, List.setIfInBounds_toArray, List.set_cons_zero, List.set_cons_succ]
  refine wpTill_take (i := 2) (v := ?_) rfl (by kernel_rfl) (by kernel_rfl) (by kernel_rfl) hTb (fun _ _ _ h => h) (fun _ _ => by simp only [getD_set_ne false (show 2 ≠ 18 by decide)]) (Or.inl ⟨by rfl, ?_⟩) hTS ?_
  rotate_left
  · rintro wT ⟨sT, hbT, huT, hST⟩
    have zT_a_0 := hST.out.1.c 0 _ rfl
    have zT_a_1 := hST.out.1.c 1 _ rfl
    have zT_a_2 := hST.out.1.c 2 _ rfl
    have zT_a_3 := hST.out.1.c 3 _ rfl
    have zT_a_4 := hST.out.1.c 4 _ rfl
    have zT_a_5 := hST.out.1.c 5 _ rfl
    have zT_a_6 := hST.out.1.c 6 _ rfl
    have zT_a_7 := hST.out.1.c 7 _ rfl
    have zT_b_0 := (hST.out.2.1 (till_flag (k := 18) (by kernel_rfl) hbT huT)).c 0 _ rfl
    have zT_b_1 := (hST.out.2.1 (till_flag (k := 18) (by kernel_rfl) hbT huT)).c 1 _ rfl
    have zT_b_2 := (hST.out.2.1 (till_flag (k := 18) (by kernel_rfl) hbT huT)).c 2 _ rfl
    have zT_b_3 := (hST.out.2.1 (till_flag (k := 18) (by kernel_rfl) hbT huT)).c 3 _ rfl
    have zT_b_4 := (hST.out.2.1 (till_flag (k := 18) (by kernel_rfl) hbT huT)).c 4 _ rfl
    have zT_b_5 := (hST.out.2.1 (till_flag (k := 18) (by kernel_rfl) hbT huT)).c 5 _ rfl
    have zT_b_6 := (hST.out.2.1 (till_flag (k := 18) (by kernel_rfl) hbT huT)).c 6 _ rfl
    have zT_b_7 := (hST.out.2.1 (till_flag (k := 18) (by kernel_rfl) hbT huT)).c 7 _ rfl
    have zT_n_0 := hST.out.2.2.1.c 0 _ rfl
    have zT_h_0 := hST.out.2.2.2.1.c 0 _ rfl
    clear hST hbT huT
    go_simp
    all_goals with_reducible rfl
  clear hTb hTS; intro hTb hTS
  try simp only [Act.put, List.setIfInBounds_toArray, List.set_cons_zero, List.set_cons_succ]
  refine wpTill_take (i := 3) (v := ?_) rfl (by kernel_rfl) (by kernel_rfl) (by kernel_rfl) hTb (fun _ _ _ h => h) (fun _ _ => by simp only [getD_set_ne false (show 3 ≠ 18 by decide)]) (Or.inl ⟨by rfl, ?_⟩) hTS ?_
  rotate_left
  · intro wT hT; clear hT
    go_simp
    all_goals with_reducible rfl
  clear hTb hTS; intro hTb hTS
  try simp only [Act.put, List.setIfInBounds_toArray, List.set_cons_zero, List.set_cons_succ]
  refine wpTill_take (i := 4) (v := ?_) rfl (by kernel_rfl) (by kernel_rfl) (by kernel_rfl) hTb (fun _ _ _ h => h) (fun _ _ => by simp only [getD_set_ne false (show 4 ≠ 18 by decide)]) (Or.inl ⟨by rfl, ?_⟩) hTS ?_
  rotate_left
  · intro wT hT; clear hT
    go_simp
    all_goals with_reducible rfl
  clear hTb hTS; intro hTb hTS
  try simp only [Act.put, List.setIfInBounds_toArray, List.set_cons_zero, List.set_cons_succ]
  refine wpTill_take (i := 5) (v := ?_) rfl (by kernel_rfl) (by kernel_rfl) (by kernel_rfl) hTb (fun _ _ _ h => h) (fun _ _ => by simp only [getD_set_ne false (show 5 ≠ 18 by decide)]) (Or.inl ⟨by rfl, ?_⟩) hTS ?_
  rotate_left
  · rintro wT ⟨sT, hbT, huT, hST⟩
    have zT_a_0 := hST.out.1.c 0 _ rfl
    have zT_a_1 := hST.out.1.c 1 _ rfl
    have zT_a_2 := hST.out.1.c 2 _ rfl
    have zT_a_3 := hST.out.1.c 3 _ rfl
    have zT_a_4 := hST.out.1.c 4 _ rfl
    have zT_a_5 := hST.out.1.c 5 _ rfl
    have zT_a_6 := hST.out.1.c 6 _ rfl
    have zT_a_7 := hST.out.1.c 7 _ rfl
    have zT_b_0 := (hST.out.2.1 (till_flag (k := 18) (by kernel_rfl) hbT huT)).c 0 _ rfl
    have zT_b_1 := (hST.out.2.1 (till_flag (k := 18) (by kernel_rfl) hbT huT)).c 1 _ rfl
    have zT_b_2 := (hST.out.2.1 (till_flag (k := 18) (by kernel_rfl) hbT huT)).c 2 _ rfl
    have zT_b_3 := (hST.out.2.1 (till_flag (k := 18) (by kernel_rfl) hbT huT)).c 3 _ rfl
    have zT_b_4 := (hST.out.2.1 (till_flag (k := 18) (by kernel_rfl) hbT huT)).c 4 _ rfl
    have zT_b_5 := (hST.out.2.1 (till_flag (k := 18) (by kernel_rfl) hbT huT)).c 5 _ rfl
    have zT_b_6 := (hST.out.2.1 (till_flag (k := 18) (by kernel_rfl) hbT huT)).c 6 _ rfl
    have zT_b_7 := (hST.out.2.1 (till_flag (k := 18) (by kernel_rfl) hbT huT)).c 7 _ rfl
    have zT_n_0 := hST.out.2.2.1.c 0 _ rfl
    have zT_h_0 := hST.out.2.2.2.1.c 0 _ rfl
    clear hST hbT huT
    go_simp
    all_goals with_reducible rfl
  clear hTb hTS; intro hTb hTS
  try simp only [Act.put, List.setIfInBounds_toArray, List.set_cons_zero, List.set_cons_succ]
  refine wpTill_take (i := 6) (v := ?_) rfl (by kernel_rfl) (by kernel_rfl) (by kernel_rfl) hTb (fun _ _ _ h => h) (fun _ _ => by simp only [getD_set_ne false (show 6 ≠ 18 by decide)]) (Or.inl ⟨by rfl, ?_⟩) hTS ?_
  rotate_left
  · rintro wT ⟨sT, hbT, huT, hST⟩
    have zT_a_0 := hST.out.1.c 0 _ rfl
    have zT_a_1 := hST.out.1.c 1 _ rfl
    have zT_a_2 := hST.out.1.c 2 _ rfl
    have zT_a_3 := hST.out.1.c 3 _ rfl
    have zT_a_4 := hST.out.1.c 4 _ rfl
    have zT_a_5 := hST.out.1.c 5 _ rfl
    have zT_a_6 := hST.out.1.c 6 _ rfl
    have zT_a_7 := hST.out.1.c 7 _ rfl
    have zT_b_0 := (hST.out.2.1 (till_flag (k := 18) (by kernel_rfl) hbT huT)).c 0 _ rfl
    have zT_b_1 := (hST.out.2.1 (till_flag (k := 18) (by kernel_rfl) hbT huT)).c 1 _ rfl
    have zT_b_2 := (hST.out.2.1 (till_flag (k := 18) (by kernel_rfl) hbT huT)).c 2 _ rfl
    have zT_b_3 := (hST.out.2.1 (till_flag (k := 18) (by kernel_rfl) hbT huT)).c 3 _ rfl
    have zT_b_4 := (hST.out.2.1 (till_flag (k := 18) (by kernel_rfl) hbT huT)).c 4 _ rfl
    have zT_b_5 := (hST.out.2.1 (till_flag (k := 18) (by kernel_rfl) hbT huT)).c 5 _ rfl
    have zT_b_6 := (hST.out.2.1 (till_flag (k := 18) (by kernel_rfl) hbT huT)).c 6 _ rfl
    have zT_b_7 := (hST.out.2.1 (till_flag (k := 18) (by kernel_rfl) hbT huT)).c 7 _ rfl
    have zT_n_0 := hST.out.2.2.1.c 0 _ rfl
    have zT_h_0 := hST.out.2.2.2.1.c 0 _ rfl
    clear hST hbT huT
    go_simp
    all_goals with_reducible rfl
  clear hTb hTS; intro hTb hTS
  try simp only [Act.put, List.setIfInBounds_toArray, List.set_cons_zero, List.set_cons_succ]
  refine wpTill_take (i := 7) (v := ?_) rfl (by kernel_rfl) (by kernel_rfl) (by kernel_rfl) hTb (fun _ _ _ h => h) (fun _ _ => by simp only [getD_set_ne false (show 7 ≠ 18 by decide)]) (Or.inl ⟨by rfl, ?_⟩) hTS ?_
  rotate_left
  · rintro wT ⟨sT, hbT, huT, hST⟩
    have zT_a_0 := hST.out.1.c 0 _ rfl
    have zT_a_1 := hST.out.1.c 1 _ rfl
    have zT_a_2 := hST.out.1.c 2 _ rfl
    have zT_a_3 := hST.out.1.c 3 _ rfl
    have zT_a_4 := hST.out.1.c 4 _ rfl
    have zT_a_5 := hST.out.1.c 5 _ rfl
    have zT_a_6 := hST.out.1.c 6 _ rfl
    have zT_a_7 := hST.out.1.c 7 _ rfl
    have zT_b_0 := (hST.out.2.1 (till_flag (k := 18) (by kernel_rfl) hbT huT)).c 0 _ rfl
    have zT_b_1 := (hST.out.2.1 (till_flag (k := 18) (by kernel_rfl) hbT huT)).c 1 _ rfl
    have zT_b_2 := (hST.out.2.1 (till_flag (k := 18) (by kernel_rfl) hbT huT)).c 2 _ rfl
    have zT_b_3 := (hST.out.2.1 (till_flag (k := 18) (by kernel_rfl) hbT huT)).c 3 _ rfl
    have zT_b_4 := (hST.out.2.1 (till_flag (k := 18) (by kernel_rfl) hbT huT)).c 4 _ rfl
    have zT_b_5 := (hST.out.2.1 (till_flag (k := 18) (by kernel_rfl) hbT huT)).c 5 _ rfl
    have zT_b_6 := (hST.out.2.1 (till_flag (k := 18) (by kernel_rfl) hbT huT)).c 6 _ rfl
    have zT_b_7 := (hST.out.2.1 (till_flag (k := 18) (by kernel_rfl) hbT huT)).c 7 _ rfl
    have zT_n_0 := hST.out.2.2.1.c 0 _ rfl
    have zT_h_0 := hST.out.2.2.2.1.c 0 _ rfl
    clear hST hbT huT
    go_simp
    all_goals with_reducible rfl
  clear hTb hTS; intro hTb hTS
  try simp only [Act.put, List.setIfInBounds_toArray, List.set_cons_zero, List.set_cons_succ]
  refine wpTill_take (i := 10) (v := ?_) rfl (by kernel_rfl) (by kernel_rfl) (by kernel_rfl) hTb (fun _ _ _ h => h) (fun _ _ => by simp only [getD_set_ne false (show 10 ≠ 18 by decide)]) (Or.inl ⟨by rfl, ?_⟩) hTS ?_
  rotate_left
  · rintro wT ⟨sT, hbT, huT, hST⟩
    have zT_a_0 := hST.out.1.c 0 _ rfl
    have zT_a_1 := hST.out.1.c 1 _ rfl
    have zT_a_2 := hST.out.1.c 2 _ rfl
    have zT_a_3 := hST.out.1.c 3 _ rfl
    have zT_a_4 := hST.out.1.c 4 _ rfl
    have zT_a_5 := hST.out.1.c 5 _ rfl
    have zT_a_6 := hST.out.1.c 6 _ rfl
    have zT_a_7 := hST.out.1.c 7 _ rfl
    have zT_b_0 := (hST.out.2.1 (till_flag (k := 18) (by kernel_rfl) hbT huT)).c 0 _ rfl
    have zT_b_1 := (hST.out.2.1 (till_flag (k := 18) (by kernel_rfl) hbT huT)).c 1 _ rfl
    have zT_b_2 := (hST.out.2.1 (till_flag (k := 18) (by kernel_rfl) hbT huT)).c 2 _ rfl
    have zT_b_3 := (hST.out.2.1 (till_flag (k := 18) (by kernel_rfl) hbT huT)).c 3 _ rfl
    have zT_b_4 := (hST.out.2.1 (till_flag (k := 18) (by kernel_rfl) hbT huT)).c 4 _ rfl
    have zT_b_5 := (hST.out.2.1 (till_flag (k := 18) (by kernel_rfl) hbT huT)).c 5 _ rfl
    have zT_b_6 := (hST.out.2.1 (till_flag (k := 18) (by kernel_rfl) hbT huT)).c 6 _ rfl
    have zT_b_7 := (hST.out.2.1 (till_flag (k := 18) (by kernel_rfl) hbT huT)).c 7 _ rfl
    have zT_n_0 := hST.out.2.2.1.c 0 _ rfl
    have zT_h_0 := hST.out.2.2.2.1.c 0 _ rfl
    clear hST hbT huT
    go_simp
    all_goals with_reducible rfl
  clear hTb hTS; intro hTb hTS
  try simp only [Act.put, List.setIfInBounds_toArray, List.set_cons_zero, List.set_cons_succ]
  refine wpTill_take (i := 11) (v := ?_) rfl (by kernel_rfl) (by kernel_rfl) (by kernel_rfl) hTb (fun _ _ _ h => h) (fun _ _ => by simp only [getD_set_ne false (show 11 ≠ 18 by decide)]) (Or.inl ⟨by rfl, ?_⟩) hTS ?_
  rotate_left
  · rintro wT ⟨sT, hbT, huT, hST⟩
    have zT_a_0 := hST.out.1.c 0 _ rfl
    have zT_a_1 := hST.out.1.c 1 _ rfl
    have zT_a_2 := hST.out.1.c 2 _ rfl
    have zT_a_3 := hST.out.1.c 3 _ rfl
    have zT_a_4 := hST.out.1.c 4 _ rfl
    have zT_a_5 := hST.out.1.c 5 _ rfl
    have zT_a_6 := hST.out.1.c 6 _ rfl
    have zT_a_7 := hST.out.1.c 7 _ rfl
    have zT_b_0 := (hST.out.2.1 (till_flag (k := 18) (by kernel_rfl) hbT huT)).c 0 _ rfl
    have zT_b_1 := (hST.out.2.1 (till_flag (k := 18) (by kernel_rfl) hbT huT)).c 1 _ rfl
    have zT_b_2 := (hST.out.2.1 (till_flag (k := 18) (by kernel_rfl) hbT huT)).c 2 _ rfl
    have zT_b_3 := (hST.out.2.1 (till_flag (k := 18) (by kernel_rfl) hbT huT)).c 3 _ rfl
    have zT_b_4 := (hST.out.2.1 (till_flag (k := 18) (by kernel_rfl) hbT huT)).c 4 _ rfl
    have zT_b_5 := (hST.out.2.1 (till_flag (k := 18) (by kernel_rfl) hbT huT)).c 5 _ rfl
    have zT_b_6 := (hST.out.2.1 (till_flag (k := 18) (by kernel_rfl) hbT huT)).c 6 _ rfl
    have zT_b_7 := (hST.out.2.1 (till_flag (k := 18) (by kernel_rfl) hbT huT)).c 7 _ rfl
    have zT_n_0 := hST.out.2.2.1.c 0 _ rfl
    have zT_h_0 := hST.out.2.2.2.1.c 0 _ rfl
    clear hST hbT huT
    go_simp
    all_goals with_reducible rfl
  clear hTb hTS; intro hTb hTS
  try simp only [Act.put, List.setIfInBounds_toArray, List.set_cons_zero, List.set_cons_succ]
  refine wpTill_take (i := 14) (v := ?_) rfl (by kernel_rfl) (by kernel_rfl) (by kernel_rfl) hTb (fun _ _ _ h => h) (fun _ _ => by simp only [getD_set_ne false (show 14 ≠ 18 by decide)]) (Or.inl ⟨by rfl, ?_⟩) hTS ?_
  rotate_left
  · rintro wT ⟨sT, hbT, huT, hST⟩
    have zT_a_0 := hST.out.1.c 0 _ rfl
    have zT_a_1 := hST.out.1.c 1 _ rfl
    have zT_a_2 := hST.out.1.c 2 _ rfl
    have zT_a_3 := hST.out.1.c 3 _ rfl
    have zT_a_4 := hST.out.1.c 4 _ rfl
    have zT_a_5 := hST.out.1.c 5 _ rfl
    have zT_a_6 := hST.out.1.c 6 _ rfl
    have zT_a_7 := hST.out.1.c 7 _ rfl
    have zT_b_0 := (hST.out.2.1 (till_flag (k := 18) (by kernel_rfl) hbT huT)).c 0 _ rfl
    have zT_b_1 := (hST.out.2.1 (till_flag (k := 18) (by kernel_rfl) hbT huT)).c 1 _ rfl
    have zT_b_2 := (hST.out.2.1 (till_flag (k := 18) (by kernel_rfl) hbT huT)).c 2 _ rfl
    have zT_b_3 := (hST.out.2.1 (till_flag (k := 18) (by kernel_rfl) hbT huT)).c 3 _ rfl
    have zT_b_4 := (hST.out.2.1 (till_flag (k := 18) (by kernel_rfl) hbT huT)).c 4 _ rfl
    have zT_b_5 := (hST.out.2.1 (till_flag (k := 18) (by kernel_rfl) hbT huT)).c 5 _ rfl
    have zT_b_6 := (hST.out.2.1 (till_flag (k := 18) (by kernel_rfl) hbT huT)).c 6 _ rfl
    have zT_b_7 := (hST.out.2.1 (till_flag (k := 18) (by kernel_rfl) hbT huT)).c 7 _ rfl
    have zT_n_0 := hST.out.2.2.1.c 0 _ rfl
    have zT_h_0 := hST.out.2.2.2.1.c 0 _ rfl
    clear hST hbT huT
    go_simp
    all_goals with_reducible rfl
  clear hTb hTS; intro hTb hTS
  try simp only [Act.put, List.setIfInBounds_toArray, List.set_cons_zero, List.set_cons_succ]
  refine wpTill_one (i := 8) (by kernel_rfl) rfl hTb (fun K hK => ?_)
  go_simp
  (with_reducible refine (C3.out _).mono ?_); rintro en w2 ⟨rfl, hb⟩
  obtain ⟨T2, hT2⟩ : ∃ T, T = M.sets T1 (usB p_p (.ok false)) := ⟨_, rfl⟩
  have TS2 : T2.heap.size = w.heap.size := by rw [hT2, M.sets_size]; exact TS1
  have G2 : Below w.heap.size T2 w2 := by rw [hT2]; exact Below.trans (by (try simp only [M.sets_append]); (try simp only [M.usV, M.usI, M.usHt, M.usB, M.usBd, M.usBx, M.fstX, M.sndX, M.sets]); (repeat (first | (with_reducible exact HG1.out) | (with_reducible refine M.Below.drewN ?_ _) | (with_reducible refine M.Below.drew ?_) | (with_reducible refine M.below_setCell_both ?_ _ (by assumption) _) | (with_reducible refine Below.alloc ?_ (by go_size) _) | (with_reducible refine Below.setCell ?_ (by dsimp only; go_size) _) | fail))) (hb.mono (by go_size))
  have S2 : w.heap.size ≤ w2.heap.size := by have := G2.size; omega
  have V2_a : M.Var w2 (p_a) #[.int .i64 a.shape, .int .i64 a.sx, .int .i64 a.sy, .int .i64 a.mass, .int .i64 a.px, .int .i64 a.py, .int .i64 a.mx, .int .i64 a.my] := M.Var.mono (b := p_a) (cs := #[.int .i64 a.shape, .int .i64 a.sx, .int .i64 a.sy, .int .i64 a.mass, .int .i64 a.px, .int .i64 a.py, .int .i64 a.mx, .int .i64 a.my]) (by (repeat (first | (with_reducible assumption) | (with_reducible apply M.var_setV) | (with_reducible apply M.var_setI) | (with_reducible apply M.var_setB) | (with_reducible apply M.var_setHt) | (with_reducible apply M.var_setBd) | (with_reducible apply M.var_set2) | (with_reducible apply M.var_set3) | (with_reducible apply M.var_set4) | (with_reducible apply M.var_set45) | (with_reducible apply M.var_set67) | (with_reducible apply M.var_setF) | (with_reducible refine M.var_alloc' _ _ _ ?_; first | rfl | (focus (simp [go_sem]; done))) | (with_reducible refine M.Var.alloc ?_ _) | (with_reducible refine M.Var.drewN ?_ _) | (with_reducible refine M.Var.drew ?_) | (with_reducible refine M.Var.far ?_ _ _ ?hFar; case hFar => (first | omega | ((try simp [go_sem]) <;> omega))) | fail))) hb
  have V2_b : M.Var w2 (p_b) #[.int .i64 b.shape, .int .i64 b.sx, .int .i64 b.sy, .int .i64 b.mass, .int .i64 (a.px + a.sx + b.sx + n), .int .i64 b.py, .int .i64 b.mx, .int .i64 b.my] := M.Var.mono (b := p_b) (cs := #[.int .i64 b.shape, .int .i64 b.sx, .int .i64 b.sy, .int .i64 b.mass, .int .i64 (a.px + a.sx + b.sx + n), .int .i64 b.py, .int .i64 b.mx, .int .i64 b.my]) (by (repeat (first | (with_reducible assumption) | (with_reducible apply M.var_setV) | (with_reducible apply M.var_setI) | (with_reducible apply M.var_setB) | (with_reducible apply M.var_setHt) | (with_reducible apply M.var_setBd) | (with_reducible apply M.var_set2) | (with_reducible apply M.var_set3) | (with_reducible apply M.var_set4) | (with_reducible apply M.var_set45) | (with_reducible apply M.var_set67) | (with_reducible apply M.var_setF) | (with_reducible refine M.var_alloc' _ _ _ ?_; first | rfl | (focus (simp [go_sem]; done))) | (with_reducible refine M.Var.alloc ?_ _) | (with_reducible refine M.Var.drewN ?_ _) | (with_reducible refine M.Var.drew ?_) | (with_reducible refine M.Var.far ?_ _ _ ?hFar; case hFar => (first | omega | ((try simp [go_sem]) <;> omega))) | fail))) hb
  have V2_n : M.Var w2 (p_n) #[.int .i64 n] := M.Var.mono (b := p_n) (cs := #[.int .i64 n]) (by (repeat (first | (with_reducible assumption) | (with_reducible apply M.var_setV) | (with_reducible apply M.var_setI) | (with_reducible apply M.var_setB) | (with_reducible apply M.var_setHt) | (with_reducible apply M.var_setBd) | (with_reducible apply M.var_set2) | (with_reducible apply M.var_set3) | (with_reducible apply M.var_set4) | (with_reducible apply M.var_set45) | (with_reducible apply M.var_set67) | (with_reducible apply M.var_setF) | (with_reducible refine M.var_alloc' _ _ _ ?_; first | rfl | (focus (simp [go_sem]; done))) | (with_reducible refine M.Var.alloc ?_ _) | (with_reducible refine M.Var.drewN ?_ _) | (with_reducible refine M.Var.drew ?_) | (with_reducible refine M.Var.far ?_ _ _ ?hFar; case hFar => (first | omega | ((try simp [go_sem]) <;> omega))) | fail))) hb
  have V2_p : M.Var w2 (p_p) #[.bool false] := M.Var.mono (b := p_p) (cs := #[.bool false]) (by (repeat (first | (with_reducible assumption) | (with_reducible apply M.var_setV) | (with_reducible apply M.var_setI) | (with_reducible apply M.var_setB) | (with_reducible apply M.var_setHt) | (with_reducible apply M.var_setBd) | (with_reducible apply M.var_set2) | (with_reducible apply M.var_set3) | (with_reducible apply M.var_set4) | (with_reducible apply M.var_set45) | (with_reducible apply M.var_set67) | (with_reducible apply M.var_setF) | (with_reducible refine M.var_alloc' _ _ _ ?_; first | rfl | (focus (simp [go_sem]; done))) | (with_reducible refine M.Var.alloc ?_ _) | (with_reducible refine M.Var.drewN ?_ _) | (with_reducible refine M.Var.drew ?_) | (with_reducible refine M.Var.far ?_ _ _ ?hFar; case hFar => (first | omega | ((try simp [go_sem]) <;> omega))) | fail))) hb
  have V2_h : M.Var w2 (p_h) #[.func (.func 24) #[] #[]] := M.Var.mono (b := p_h) (cs := #[.func (.func 24) #[] #[]]) (by (repeat (first | (with_reducible assumption) | (with_reducible apply M.var_setV) | (with_reducible apply M.var_setI) | (with_reducible apply M.var_setB) | (with_reducible apply M.var_setHt) | (with_reducible apply M.var_setBd) | (with_reducible apply M.var_set2) | (with_reducible apply M.var_set3) | (with_reducible apply M.var_set4) | (with_reducible apply M.var_set45) | (with_reducible apply M.var_set67) | (with_reducible apply M.var_setF) | (with_reducible refine M.var_alloc' _ _ _ ?_; first | rfl | (focus (simp [go_sem]; done))) | (with_reducible refine M.Var.alloc ?_ _) | (with_reducible refine M.Var.drewN ?_ _) | (with_reducible refine M.Var.drew ?_) | (with_reducible refine M.Var.far ?_ _ _ ?hFar; case hFar => (first | omega | ((try simp [go_sem]) <;> omega))) | fail))) hb
  have V2_q : M.Var w2 (p_q) #[.bool false] := M.Var.mono (b := p_q) (cs := #[.bool false]) (by (repeat (first | (with_reducible assumption) | (with_reducible apply M.var_setV) | (with_reducible apply M.var_setI) | (with_reducible apply M.var_setB) | (with_reducible apply M.var_setHt) | (with_reducible apply M.var_setBd) | (with_reducible apply M.var_set2) | (with_reducible apply M.var_set3) | (with_reducible apply M.var_set4) | (with_reducible apply M.var_set45) | (with_reducible apply M.var_set67) | (with_reducible apply M.var_setF) | (with_reducible refine M.var_alloc' _ _ _ ?_; first | rfl | (focus (simp [go_sem]; done))) | (with_reducible refine M.Var.alloc ?_ _) | (with_reducible refine M.Var.drewN ?_ _) | (with_reducible refine M.Var.drew ?_) | (with_reducible refine M.Var.far ?_ _ _ ?hFar; case hFar => (first | omega | ((try simp [go_sem]) <;> omega))) | fail))) hb
  have q2_a_0 : w2.cell? ⟨p_a, 0, none⟩ = some (.int .i64 a.shape) := V2_a.c 0 _ rfl
  have q2_a_1 : w2.cell? ⟨p_a, 1, none⟩ = some (.int .i64 a.sx) := V2_a.c 1 _ rfl
  have q2_a_2 : w2.cell? ⟨p_a, 2, none⟩ = some (.int .i64 a.sy) := V2_a.c 2 _ rfl
  have q2_a_3 : w2.cell? ⟨p_a, 3, none⟩ = some (.int .i64 a.mass) := V2_a.c 3 _ rfl
  have q2_a_4 : w2.cell? ⟨p_a, 4, none⟩ = some (.int .i64 a.px) := V2_a.c 4 _ rfl
  have q2_a_5 : w2.cell? ⟨p_a, 5, none⟩ = some (.int .i64 a.py) := V2_a.c 5 _ rfl
  have q2_a_6 : w2.cell? ⟨p_a, 6, none⟩ = some (.int .i64 a.mx) := V2_a.c 6 _ rfl
  have q2_a_7 : w2.cell? ⟨p_a, 7, none⟩ = some (.int .i64 a.my) := V2_a.c 7 _ rfl
  have f2_a := V2_a.2.2; have L2_a := V2_a.lt
  have HV2_a := Lib.hid V2_a
  have q2_b_0 : w2.cell? ⟨p_b, 0, none⟩ = some (.int .i64 b.shape) := V2_b.c 0 _ rfl
  have q2_b_1 : w2.cell? ⟨p_b, 1, none⟩ = some (.int .i64 b.sx) := V2_b.c 1 _ rfl
  have q2_b_2 : w2.cell? ⟨p_b, 2, none⟩ = some (.int .i64 b.sy) := V2_b.c 2 _ rfl
  have q2_b_3 : w2.cell? ⟨p_b, 3, none⟩ = some (.int .i64 b.mass) := V2_b.c 3 _ rfl
  have q2_b_4 : w2.cell? ⟨p_b, 4, none⟩ = some (.int .i64 (a.px + a.sx + b.sx + n)) := V2_b.c 4 _ rfl
  have q2_b_5 : w2.cell? ⟨p_b, 5, none⟩ = some (.int .i64 b.py) := V2_b.c 5 _ rfl
  have q2_b_6 : w2.cell? ⟨p_b, 6, none⟩ = some (.int .i64 b.mx) := V2_b.c 6 _ rfl
  have q2_b_7 : w2.cell? ⟨p_b, 7, none⟩ = some (.int .i64 b.my) := V2_b.c 7 _ rfl
  have f2_b := V2_b.2.2; have L2_b := V2_b.lt
  have HV2_b := Lib.hid V2_b
  have q2_n_0 : w2.cell? ⟨p_n, 0, none⟩ = some (.int .i64 n) := V2_n.c 0 _ rfl
  have f2_n := V2_n.2.2; have L2_n := V2_n.lt
  have HV2_n := Lib.hid V2_n
  have q2_p_0 : w2.cell? ⟨p_p, 0, none⟩ = some (.bool false) := V2_p.c 0 _ rfl
  have f2_p := V2_p.2.2; have L2_p := V2_p.lt
  have HV2_p := Lib.hid V2_p
  have q2_h_0 : w2.cell? ⟨p_h, 0, none⟩ = some (.func (.func 24) #[] #[]) := V2_h.c 0 _ rfl
  have f2_h := V2_h.2.2; have L2_h := V2_h.lt
  have HV2_h := Lib.hid V2_h
  have q2_q_0 : w2.cell? ⟨p_q, 0, none⟩ = some (.bool false) := V2_q.c 0 _ rfl
  have f2_q := V2_q.2.2; have L2_q := V2_q.lt
  have HV2_q := Lib.hid V2_q
  have HG2 := Lib.hid G2; clear hb G2
  (try go_simp)
  refine hK.out _ _ (Lib.hid ⟨(by (repeat (first | (with_reducible assumption) | (with_reducible apply M.var_setV) | (with_reducible apply M.var_setI) | (with_reducible apply M.var_setB) | (with_reducible apply M.var_setHt) | (with_reducible apply M.var_setBd) | (with_reducible apply M.var_set2) | (with_reducible apply M.var_set3) | (with_reducible apply M.var_set4) | (with_reducible apply M.var_set45) | (with_reducible apply M.var_set67) | (with_reducible apply M.var_setF) | (with_reducible refine M.var_alloc' _ _ _ ?_; first | rfl | (focus (simp [go_sem]; done))) | (with_reducible refine M.Var.alloc ?_ _) | (with_reducible refine M.Var.drewN ?_ _) | (with_reducible refine M.Var.drew ?_) | (with_reducible refine M.Var.far ?_ _ _ ?hFar; case hFar => (first | omega | ((try simp [go_sem]) <;> omega))) | fail))), (fun _ => by (repeat (first | (with_reducible assumption) | (with_reducible apply M.var_setV) | (with_reducible apply M.var_setI) | (with_reducible apply M.var_setB) | (with_reducible apply M.var_setHt) | (with_reducible apply M.var_setBd) | (with_reducible apply M.var_set2) | (with_reducible apply M.var_set3) | (with_reducible apply M.var_set4) | (with_reducible apply M.var_set45) | (with_reducible apply M.var_set67) | (with_reducible apply M.var_setF) | (with_reducible refine M.var_alloc' _ _ _ ?_; first | rfl | (focus (simp [go_sem]; done))) | (with_reducible refine M.Var.alloc ?_ _) | (with_reducible refine M.Var.drewN ?_ _) | (with_reducible refine M.Var.drew ?_) | (with_reducible refine M.Var.far ?_ _ _ ?hFar; case hFar => (first | omega | ((try simp [go_sem]) <;> omega))) | fail))), (by (repeat (first | (with_reducible assumption) | (with_reducible apply M.var_setV) | (with_reducible apply M.var_setI) | (with_reducible apply M.var_setB) | (with_reducible apply M.var_setHt) | (with_reducible apply M.var_setBd) | (with_reducible apply M.var_set2) | (with_reducible apply M.var_set3) | (with_reducible apply M.var_set4) | (with_reducible apply M.var_set45) | (with_reducible apply M.var_set67) | (with_reducible apply M.var_setF) | (with_reducible refine M.var_alloc' _ _ _ ?_; first | rfl | (focus (simp [go_sem]; done))) | (with_reducible refine M.Var.alloc ?_ _) | (with_reducible refine M.Var.drewN ?_ _) | (with_reducible refine M.Var.drew ?_) | (with_reducible refine M.Var.far ?_ _ _ ?hFar; case hFar => (first | omega | ((try simp [go_sem]) <;> omega))) | fail))), (by (repeat (first | (with_reducible assumption) | (with_reducible apply M.var_setV) | (with_reducible apply M.var_setI) | (with_reducible apply M.var_setB) | (with_reducible apply M.var_setHt) | (with_reducible apply M.var_setBd) | (with_reducible apply M.var_set2) | (with_reducible apply M.var_set3) | (with_reducible apply M.var_set4) | (with_reducible apply M.var_set45) | (with_reducible apply M.var_set67) | (with_reducible apply M.var_setF) | (with_reducible refine M.var_alloc' _ _ _ ?_; first | rfl | (focus (simp [go_sem]; done))) | (with_reducible refine M.Var.alloc ?_ _) | (with_reducible refine M.Var.drewN ?_ _) | (with_reducible refine M.Var.drew ?_) | (with_reducible refine M.Var.far ?_ _ _ ?hFar; case hFar => (first | omega | ((try simp [go_sem]) <;> omega))) | fail))), trivial⟩) ?_
  clear hK K hTb hTS; intro hTb hTS
  try simp only [Act.put, List.setIfInBounds_toArray, List.set_cons_zero, List.set_cons_succ]
  refine wpTill_take (i := 9) (v := ?_) rfl (by kernel_rfl) (by kernel_rfl) (by kernel_rfl) hTb (fun _ _ _ h => h) (fun _ _ => by simp only [getD_set_ne false (show 9 ≠ 18 by decide)]) (Or.inl ⟨by rfl, ?_⟩) hTS ?_
  rotate_left
  · intro wT hT; clear hT
    go_simp
    all_goals with_reducible rfl
  clear hTb hTS; intro hTb hTS
  try simp only [Act.put, List.setIfInBounds_toArray, List.set_cons_zero, List.set_cons_succ]
  refine wpTill_one (i := 12) (by kernel_rfl) rfl hTb (fun K hK => ?_)
  go_simp
  (with_reducible refine (C4.out _).mono ?_); rintro en w3 ⟨rfl, hb⟩
  obtain ⟨T3, hT3⟩ : ∃ T, T = M.sets T2 ([]) := ⟨_, rfl⟩
  have TS3 : T3.heap.size = w.heap.size := by rw [hT3, M.sets_size]; exact TS2
  have G3 : Below w.heap.size T3 w3 := by rw [hT3]; exact Below.trans (by (try simp only [M.sets_append]); (try simp only [M.usV, M.usI, M.usHt, M.usB, M.usBd, M.usBx, M.fstX, M.sndX, M.sets]); (repeat (first | (with_reducible exact HG2.out) | (with_reducible refine M.Below.drewN ?_ _) | (with_reducible refine M.Below.drew ?_) | (with_reducible refine M.below_setCell_both ?_ _ (by assumption) _) | (with_reducible refine Below.alloc ?_ (by go_size) _) | (with_reducible refine Below.setCell ?_ (by dsimp only; go_size) _) | fail))) (hb.mono (by go_size))
  have S3 : w.heap.size ≤ w3.heap.size := by have := G3.size; omega
  have V3_a : M.Var w3 (p_a) #[.int .i64 a.shape, .int .i64 a.sx, .int .i64 a.sy, .int .i64 a.mass, .int .i64 a.px, .int .i64 a.py, .int .i64 a.mx, .int .i64 a.my] := M.Var.mono (b := p_a) (cs := #[.int .i64 a.shape, .int .i64 a.sx, .int .i64 a.sy, .int .i64 a.mass, .int .i64 a.px, .int .i64 a.py, .int .i64 a.mx, .int .i64 a.my]) (by (repeat (first | (with_reducible assumption) | (with_reducible apply M.var_setV) | (with_reducible apply M.var_setI) | (with_reducible apply M.var_setB) | (with_reducible apply M.var_setHt) | (with_reducible apply M.var_setBd) | (with_reducible apply M.var_set2) | (with_reducible apply M.var_set3) | (with_reducible apply M.var_set4) | (with_reducible apply M.var_set45) | (with_reducible apply M.var_set67) | (with_reducible apply M.var_setF) | (with_reducible refine M.var_alloc' _ _ _ ?_; first | rfl | (focus (simp [go_sem]; done))) | (with_reducible refine M.Var.alloc ?_ _) | (with_reducible refine M.Var.drewN ?_ _) | (with_reducible refine M.Var.drew ?_) | (with_reducible refine M.Var.far ?_ _ _ ?hFar; case hFar => (first | omega | ((try simp [go_sem]) <;> omega))) | fail))) hb
  have V3_b : M.Var w3 (p_b) #[.int .i64 b.shape, .int .i64 b.sx, .int .i64 b.sy, .int .i64 b.mass, .int .i64 (a.px + a.sx + b.sx + n), .int .i64 b.py, .int .i64 b.mx, .int .i64 b.my] := M.Var.mono (b := p_b) (cs := #[.int .i64 b.shape, .int .i64 b.sx, .int .i64 b.sy, .int .i64 b.mass, .int .i64 (a.px + a.sx + b.sx + n), .int .i64 b.py, .int .i64 b.mx, .int .i64 b.my]) (by (repeat (first | (with_reducible assumption) | (with_reducible apply M.var_setV) | (with_reducible apply M.var_setI) | (with_reducible apply M.var_setB) | (with_reducible apply M.var_setHt) | (with_reducible apply M.var_setBd) | (with_reducible apply M.var_set2) | (with_reducible apply M.var_set3) | (with_reducible apply M.var_set4) | (with_reducible apply M.var_set45) | (with_reducible apply M.var_set67) | (with_reducible apply M.var_setF) | (with_reducible refine M.var_alloc' _ _ _ ?_; first | rfl | (focus (simp [go_sem]; done))) | (with_reducible refine M.Var.alloc ?_ _) | (with_reducible refine M.Var.drewN ?_ _) | (with_reducible refine M.Var.drew ?_) | (with_reducible refine M.Var.far ?_ _ _ ?hFar; case hFar => (first | omega | ((try simp [go_sem]) <;> omega))) | fail))) hb
  have V3_n : M.Var w3 (p_n) #[.int .i64 n] := M.Var.mono (b := p_n) (cs := #[.int .i64 n]) (by (repeat (first | (with_reducible assumption) | (with_reducible apply M.var_setV) | (with_reducible apply M.var_setI) | (with_reducible apply M.var_setB) | (with_reducible apply M.var_setHt) | (with_reducible apply M.var_setBd) | (with_reducible apply M.var_set2) | (with_reducible apply M.var_set3) | (with_reducible apply M.var_set4) | (with_reducible apply M.var_set45) | (with_reducible apply M.var_set67) | (with_reducible apply M.var_setF) | (with_reducible refine M.var_alloc' _ _ _ ?_; first | rfl | (focus (simp [go_sem]; done))) | (with_reducible refine M.Var.alloc ?_ _) | (with_reducible refine M.Var.drewN ?_ _) | (with_reducible refine M.Var.drew ?_) | (with_reducible refine M.Var.far ?_ _ _ ?hFar; case hFar => (first | omega | ((try simp [go_sem]) <;> omega))) | fail))) hb
  have V3_p : M.Var w3 (p_p) #[.bool false] := M.Var.mono (b := p_p) (cs := #[.bool false]) (by (repeat (first | (with_reducible assumption) | (with_reducible apply M.var_setV) | (with_reducible apply M.var_setI) | (with_reducible apply M.var_setB) | (with_reducible apply M.var_setHt) | (with_reducible apply M.var_setBd) | (with_reducible apply M.var_set2) | (with_reducible apply M.var_set3) | (with_reducible apply M.var_set4) | (with_reducible apply M.var_set45) | (with_reducible apply M.var_set67) | (with_reducible apply M.var_setF) | (with_reducible refine M.var_alloc' _ _ _ ?_; first | rfl | (focus (simp [go_sem]; done))) | (with_reducible refine M.Var.alloc ?_ _) | (with_reducible refine M.Var.drewN ?_ _) | (with_reducible refine M.Var.drew ?_) | (with_reducible refine M.Var.far ?_ _ _ ?hFar; case hFar => (first | omega | ((try simp [go_sem]) <;> omega))) | fail))) hb
  have V3_h : M.Var w3 (p_h) #[.func (.func 24) #[] #[]] := M.Var.mono (b := p_h) (cs := #[.func (.func 24) #[] #[]]) (by (repeat (first | (with_reducible assumption) | (with_reducible apply M.var_setV) | (with_reducible apply M.var_setI) | (with_reducible apply M.var_setB) | (with_reducible apply M.var_setHt) | (with_reducible apply M.var_setBd) | (with_reducible apply M.var_set2) | (with_reducible apply M.var_set3) | (with_reducible apply M.var_set4) | (with_reducible apply M.var_set45) | (with_reducible apply M.var_set67) | (with_reducible apply M.var_setF) | (with_reducible refine M.var_alloc' _ _ _ ?_; first | rfl | (focus (simp [go_sem]; done))) | (with_reducible refine M.Var.alloc ?_ _) | (with_reducible refine M.Var.drewN ?_ _) | (with_reducible refine M.Var.drew ?_) | (with_reducible refine M.Var.far ?_ _ _ ?hFar; case hFar => (first | omega | ((try simp [go_sem]) <;> omega))) | fail))) hb
  have V3_q : M.Var w3 (p_q) #[.bool false] := M.Var.mono (b := p_q) (cs := #[.bool false]) (by (repeat (first | (with_reducible assumption) | (with_reducible apply M.var_setV) | (with_reducible apply M.var_setI) | (with_reducible apply M.var_setB) | (with_reducible apply M.var_setHt) | (with_reducible apply M.var_setBd) | (with_reducible apply M.var_set2) | (with_reducible apply M.var_set3) | (with_reducible apply M.var_set4) | (with_reducible apply M.var_set45) | (with_reducible apply M.var_set67) | (with_reducible apply M.var_setF) | (with_reducible refine M.var_alloc' _ _ _ ?_; first | rfl | (focus (simp [go_sem]; done))) | (with_reducible refine M.Var.alloc ?_ _) | (with_reducible refine M.Var.drewN ?_ _) | (with_reducible refine M.Var.drew ?_) | (with_reducible refine M.Var.far ?_ _ _ ?hFar; case hFar => (first | omega | ((try simp [go_sem]) <;> omega))) | fail))) hb
  have q3_a_0 : w3.cell? ⟨p_a, 0, none⟩ = some (.int .i64 a.shape) := V3_a.c 0 _ rfl
  have q3_a_1 : w3.cell? ⟨p_a, 1, none⟩ = some (.int .i64 a.sx) := V3_a.c 1 _ rfl
  have q3_a_2 : w3.cell? ⟨p_a, 2, none⟩ = some (.int .i64 a.sy) := V3_a.c 2 _ rfl
  have q3_a_3 : w3.cell? ⟨p_a, 3, none⟩ = some (.int .i64 a.mass) := V3_a.c 3 _ rfl
  have q3_a_4 : w3.cell? ⟨p_a, 4, none⟩ = some (.int .i64 a.px) := V3_a.c 4 _ rfl
  have q3_a_5 : w3.cell? ⟨p_a, 5, none⟩ = some (.int .i64 a.py) := V3_a.c 5 _ rfl
  have q3_a_6 : w3.cell? ⟨p_a, 6, none⟩ = some (.int .i64 a.mx) := V3_a.c 6 _ rfl
  have q3_a_7 : w3.cell? ⟨p_a, 7, none⟩ = some (.int .i64 a.my) := V3_a.c 7 _ rfl
  have f3_a := V3_a.2.2; have L3_a := V3_a.lt
  have HV3_a := Lib.hid V3_a
  have q3_b_0 : w3.cell? ⟨p_b, 0, none⟩ = some (.int .i64 b.shape) := V3_b.c 0 _ rfl
  have q3_b_1 : w3.cell? ⟨p_b, 1, none⟩ = some (.int .i64 b.sx) := V3_b.c 1 _ rfl
  have q3_b_2 : w3.cell? ⟨p_b, 2, none⟩ = some (.int .i64 b.sy) := V3_b.c 2 _ rfl
  have q3_b_3 : w3.cell? ⟨p_b, 3, none⟩ = some (.int .i64 b.mass) := V3_b.c 3 _ rfl
  have q3_b_4 : w3.cell? ⟨p_b, 4, none⟩ = some (.int .i64 (a.px + a.sx + b.sx + n)) := V3_b.c 4 _ rfl
  have q3_b_5 : w3.cell? ⟨p_b, 5, none⟩ = some (.int .i64 b.py) := V3_b.c 5 _ rfl
  have q3_b_6 : w3.cell? ⟨p_b, 6, none⟩ = some (.int .i64 b.mx) := V3_b.c 6 _ rfl
  have q3_b_7 : w3.cell? ⟨p_b, 7, none⟩ = some (.int .i64 b.my) := V3_b.c 7 _ rfl
  have f3_b := V3_b.2.2; have L3_b := V3_b.lt
  have HV3_b := Lib.hid V3_b
  have q3_n_0 : w3.cell? ⟨p_n, 0, none⟩ = some (.int .i64 n) := V3_n.c 0 _ rfl
  have f3_n := V3_n.2.2; have L3_n := V3_n.lt
  have HV3_n := Lib.hid V3_n
  have q3_p_0 : w3.cell? ⟨p_p, 0, none⟩ = some (.bool false) := V3_p.c 0 _ rfl
  have f3_p := V3_p.2.2; have L3_p := V3_p.lt
  have HV3_p := Lib.hid V3_p
  have q3_h_0 : w3.cell? ⟨p_h, 0, none⟩ = some (.func (.func 24) #[] #[]) := V3_h.c 0 _ rfl
  have f3_h := V3_h.2.2; have L3_h := V3_h.lt
  have HV3_h := Lib.hid V3_h
  have q3_q_0 : w3.cell? ⟨p_q, 0, none⟩ = some (.bool false) := V3_q.c 0 _ rfl
  have f3_q := V3_q.2.2; have L3_q := V3_q.lt
  have HV3_q := Lib.hid V3_q
  have HG3 := Lib.hid G3; clear hb G3
  (try go_simp)
  refine hK.out _ _ (Lib.hid ⟨(by (repeat (first | (with_reducible assumption) | (with_reducible apply M.var_setV) | (with_reducible apply M.var_setI) | (with_reducible apply M.var_setB) | (with_reducible apply M.var_setHt) | (with_reducible apply M.var_setBd) | (with_reducible apply M.var_set2) | (with_reducible apply M.var_set3) | (with_reducible apply M.var_set4) | (with_reducible apply M.var_set45) | (with_reducible apply M.var_set67) | (with_reducible apply M.var_setF) | (with_reducible refine M.var_alloc' _ _ _ ?_; first | rfl | (focus (simp [go_sem]; done))) | (with_reducible refine M.Var.alloc ?_ _) | (with_reducible refine M.Var.drewN ?_ _) | (with_reducible refine M.Var.drew ?_) | (with_reducible refine M.Var.far ?_ _ _ ?hFar; case hFar => (first | omega | ((try simp [go_sem]) <;> omega))) | fail))), (fun _ => by (repeat (first | (with_reducible assumption) | (with_reducible apply M.var_setV) | (with_reducible apply M.var_setI) | (with_reducible apply M.var_setB) | (with_reducible apply M.var_setHt) | (with_reducible apply M.var_setBd) | (with_reducible apply M.var_set2) | (with_reducible apply M.var_set3) | (with_reducible apply M.var_set4) | (with_reducible apply M.var_set45) | (with_reducible apply M.var_set67) | (with_reducible apply M.var_setF) | (with_reducible refine M.var_alloc' _ _ _ ?_; first | rfl | (focus (simp [go_sem]; done))) | (with_reducible refine M.Var.alloc ?_ _) | (with_reducible refine M.Var.drewN ?_ _) | (with_reducible refine M.Var.drew ?_) | (with_reducible refine M.Var.far ?_ _ _ ?hFar; case hFar => (first | omega | ((try simp [go_sem]) <;> omega))) | fail))), (by (repeat (first | (with_reducible assumption) | (with_reducible apply M.var_setV) | (with_reducible apply M.var_setI) | (with_reducible apply M.var_setB) | (with_reducible apply M.var_setHt) | (with_reducible apply M.var_setBd) | (with_reducible apply M.var_set2) | (with_reducible apply M.var_set3) | (with_reducible apply M.var_set4) | (with_reducible apply M.var_set45) | (with_reducible apply M.var_set67) | (with_reducible apply M.var_setF) | (with_reducible refine M.var_alloc' _ _ _ ?_; first | rfl | (focus (simp [go_sem]; done))) | (with_reducible refine M.Var.alloc ?_ _) | (with_reducible refine M.Var.drewN ?_ _) | (with_reducible refine M.Var.drew ?_) | (with_reducible refine M.Var.far ?_ _ _ ?hFar; case hFar => (first | omega | ((try simp [go_sem]) <;> omega))) | fail))), (by (repeat (first | (with_reducible assumption) | (with_reducible apply M.var_setV) | (with_reducible apply M.var_setI) | (with_reducible apply M.var_setB) | (with_reducible apply M.var_setHt) | (with_reducible apply M.var_setBd) | (with_reducible apply M.var_set2) | (with_reducible apply M.var_set3) | (with_reducible apply M.var_set4) | (with_reducible apply M.var_set45) | (with_reducible apply M.var_set67) | (with_reducible apply M.var_setF) | (with_reducible refine M.var_alloc' _ _ _ ?_; first | rfl | (focus (simp [go_sem]; done))) | (with_reducible refine M.Var.alloc ?_ _) | (with_reducible refine M.Var.drewN ?_ _) | (with_reducible refine M.Var.drew ?_) | (with_reducible refine M.Var.far ?_ _ _ ?hFar; case hFar => (first | omega | ((try simp [go_sem]) <;> omega))) | fail))), trivial⟩) ?_
  clear hK K hTb hTS; intro hTb hTS
  try simp only [Act.put, List.setIfInBounds_toArray, List.set_cons_zero, List.set_cons_succ]
  refine wpTill_take (i := 13) (v := ?_) rfl (by kernel_rfl) (by kernel_rfl) (by kernel_rfl) hTb (fun _ _ _ h => h) (fun _ _ => by simp only [getD_set_ne false (show 13 ≠ 18 by decide)]) (Or.inl ⟨by rfl, ?_⟩) hTS ?_
  rotate_left
  · intro wT hT; clear hT
    go_simp
    all_goals with_reducible rfl
  clear hTb hTS; intro hTb hTS
  try simp only [Act.put, List.setIfInBounds_toArray, List.set_cons_zero, List.set_cons_succ]
  refine wpTill_take (i := 15) (v := ?_) rfl (by kernel_rfl) (by kernel_rfl) (by kernel_rfl) hTb (fun _ _ _ h => h) (fun _ _ => by simp only [getD_set_ne false (show 15 ≠ 18 by decide)]) (Or.inl ⟨by rfl, ?_⟩) hTS ?_
  rotate_left
  · intro wT hT; clear hT
    go_simp
    all_goals with_reducible rfl
  clear hTb hTS; intro hTb hTS
  try simp only [Act.put, List.setIfInBounds_toArray, List.set_cons_zero, List.set_cons_succ]
  refine wpTill_take (i := 16) (v := ?_) rfl (by kernel_rfl) (by kernel_rfl) (by kernel_rfl) hTb (fun _ _ _ h => h) (fun _ _ => by simp only [getD_set_ne false (show 16 ≠ 18 by decide)]) (Or.inl ⟨by rfl, ?_⟩) hTS ?_
  rotate_left
  · intro wT hT; clear hT
    go_simp
    all_goals with_reducible rfl
  clear hTb hTS; intro hTb hTS
  try simp only [Act.put, List.setIfInBounds_toArray, List.set_cons_zero, List.set_cons_succ]
  refine wpTill_take (i := 17) (v := ?_) rfl (by kernel_rfl) (by kernel_rfl) (by kernel_rfl) hTb (fun _ _ _ h => h) (fun _ _ => by simp only [getD_set_ne false (show 17 ≠ 18 by decide)]) (Or.inl ⟨by rfl, ?_⟩) hTS ?_
  rotate_left
  · intro wT hT; clear hT
    go_simp
    all_goals with_reducible rfl
  clear hTb hTS; intro hTb hTS
  try simp only [Act.put, List.setIfInBounds_toArray, List.set_cons_zero, List.set_cons_succ]
  refine wpTill_one (i := 18) (by kernel_rfl) rfl hTb (fun K hK => ?_)
  go_simp
  (try go_simp)
  refine hK.out _ _ (Lib.hid ⟨(by (repeat (first | (with_reducible assumption) | (with_reducible apply M.var_setV) | (with_reducible apply M.var_setI) | (with_reducible apply M.var_setB) | (with_reducible apply M.var_setHt) | (with_reducible apply M.var_setBd) | (with_reducible apply M.var_set2) | (with_reducible apply M.var_set3) | (with_reducible apply M.var_set4) | (with_reducible apply M.var_set45) | (with_reducible apply M.var_set67) | (with_reducible apply M.var_setF) | (with_reducible refine M.var_alloc' _ _ _ ?_; first | rfl | (focus (simp [go_sem]; done))) | (with_reducible refine M.Var.alloc ?_ _) | (with_reducible refine M.Var.drewN ?_ _) | (with_reducible refine M.Var.drew ?_) | (with_reducible refine M.Var.far ?_ _ _ ?hFar; case hFar => (first | omega | ((try simp [go_sem]) <;> omega))) | fail))), till_gone (by kernel_rfl), (by (repeat (first | (with_reducible assumption) | (with_reducible apply M.var_setV) | (with_reducible apply M.var_setI) | (with_reducible apply M.var_setB) | (with_reducible apply M.var_setHt) | (with_reducible apply M.var_setBd) | (with_reducible apply M.var_set2) | (with_reducible apply M.var_set3) | (with_reducible apply M.var_set4) | (with_reducible apply M.var_set45) | (with_reducible apply M.var_set67) | (with_reducible apply M.var_setF) | (with_reducible refine M.var_alloc' _ _ _ ?_; first | rfl | (focus (simp [go_sem]; done))) | (with_reducible refine M.Var.alloc ?_ _) | (with_reducible refine M.Var.drewN ?_ _) | (with_reducible refine M.Var.drew ?_) | (with_reducible refine M.Var.far ?_ _ _ ?hFar; case hFar => (first | omega | ((try simp [go_sem]) <;> omega))) | fail))), (by (repeat (first | (with_reducible assumption) | (with_reducible apply M.var_setV) | (with_reducible apply M.var_setI) | (with_reducible apply M.var_setB) | (with_reducible apply M.var_setHt) | (with_reducible apply M.var_setBd) | (with_reducible apply M.var_set2) | (with_reducible apply M.var_set3) | (with_reducible apply M.var_set4) | (with_reducible apply M.var_set45) | (with_reducible apply M.var_set67) | (with_reducible apply M.var_setF) | (with_reducible refine M.var_alloc' _ _ _ ?_; first | rfl | (focus (simp [go_sem]; done))) | (with_reducible refine M.Var.alloc ?_ _) | (with_reducible refine M.Var.drewN ?_ _) | (with_reducible refine M.Var.drew ?_) | (with_reducible refine M.Var.far ?_ _ _ ?hFar; case hFar => (first | omega | ((try simp [go_sem]) <;> omega))) | fail))), trivial⟩) ?_
  clear hK K hTb hTS; intro hTb hTS
  try simp only [Act.put, List.setIfInBounds_toArray, List.set_cons_zero, List.set_cons_succ]
  refine wpTill_done (by kernel_rfl) ?_ _; clear hTb hTS
  go_wp2_with (with_reducible refine M.stopPost ?_)
  (with_reducible refine (C2.out _).mono ?_); rintro en w4 ⟨rfl, hb⟩
  obtain ⟨T4, hT4⟩ : ∃ T, T = M.sets T3 ([(⟨p_b, 4, none⟩, .int .i64 a.px)] ++ [(⟨p_b, 5, none⟩, .int .i64 (a.py - (half a).2 - (half b).2 - n))]) := ⟨_, rfl⟩
  have TS4 : T4.heap.size = w.heap.size := by rw [hT4, M.sets_size]; exact TS3
  have G4 : Below w.heap.size T4 w4 := by rw [hT4]; exact Below.trans (by (try simp only [M.sets_append]); (try simp only [M.usV, M.usI, M.usHt, M.usB, M.usBd, M.usBx, M.fstX, M.sndX, M.sets]); (repeat (first | (with_reducible exact HG3.out) | (with_reducible refine M.Below.drewN ?_ _) | (with_reducible refine M.Below.drew ?_) | (with_reducible refine M.below_setCell_both ?_ _ (by assumption) _) | (with_reducible refine Below.alloc ?_ (by go_size) _) | (with_reducible refine Below.setCell ?_ (by dsimp only; go_size) _) | fail))) (hb.mono (by go_size))
  have S4 : w.heap.size ≤ w4.heap.size := by have := G4.size; omega
  have V4_a : M.Var w4 (p_a) #[.int .i64 a.shape, .int .i64 a.sx, .int .i64 a.sy, .int .i64 a.mass, .int .i64 a.px, .int .i64 a.py, .int .i64 a.mx, .int .i64 a.my] := M.Var.mono (b := p_a) (cs := #[.int .i64 a.shape, .int .i64 a.sx, .int .i64 a.sy, .int .i64 a.mass, .int .i64 a.px, .int .i64 a.py, .int .i64 a.mx, .int .i64 a.my]) (by (repeat (first | (with_reducible assumption) | (with_reducible apply M.var_setV) | (with_reducible apply M.var_setI) | (with_reducible apply M.var_setB) | (with_reducible apply M.var_setHt) | (with_reducible apply M.var_setBd) | (with_reducible apply M.var_set2) | (with_reducible apply M.var_set3) | (with_reducible apply M.var_set4) | (with_reducible apply M.var_set45) | (with_reducible apply M.var_set67) | (with_reducible apply M.var_setF) | (with_reducible refine M.var_alloc' _ _ _ ?_; first | rfl | (focus (simp [go_sem]; done))) | (with_reducible refine M.Var.alloc ?_ _) | (with_reducible refine M.Var.drewN ?_ _) | (with_reducible refine M.Var.drew ?_) | (with_reducible refine M.Var.far ?_ _ _ ?hFar; case hFar => (first | omega | ((try simp [go_sem]) <;> omega))) | fail))) hb
  have V4_b : M.Var w4 (p_b) #[.int .i64 b.shape, .int .i64 b.sx, .int .i64 b.sy, .int .i64 b.mass, .int .i64 a.px, .int .i64 (a.py - (half a).2 - (half b).2 - n), .int .i64 b.mx, .int .i64 b.my] := M.Var.mono (b := p_b) (cs := #[.int .i64 b.shape, .int .i64 b.sx, .int .i64 b.sy, .int .i64 b.mass, .int .i64 a.px, .int .i64 (a.py - (half a).2 - (half b).2 - n), .int .i64 b.mx, .int .i64 b.my]) (by (repeat (first | (with_reducible assumption) | (with_reducible apply M.var_setV) | (with_reducible apply M.var_setI) | (with_reducible apply M.var_setB) | (with_reducible apply M.var_setHt) | (with_reducible apply M.var_setBd) | (with_reducible apply M.var_set2) | (with_reducible apply M.var_set3) | (with_reducible apply M.var_set4) | (with_reducible apply M.var_set45) | (with_reducible apply M.var_set67) | (with_reducible apply M.var_setF) | (with_reducible refine M.var_alloc' _ _ _ ?_; first | rfl | (focus (simp [go_sem]; done))) | (with_reducible refine M.Var.alloc ?_ _) | (with_reducible refine M.Var.drewN ?_ _) | (with_reducible refine M.Var.drew ?_) | (with_reducible refine M.Var.far ?_ _ _ ?hFar; case hFar => (first | omega | ((try simp [go_sem]) <;> omega))) | fail))) hb
  have V4_n : M.Var w4 (p_n) #[.int .i64 n] := M.Var.mono (b := p_n) (cs := #[.int .i64 n]) (by (repeat (first | (with_reducible assumption) | (with_reducible apply M.var_setV) | (with_reducible apply M.var_setI) | (with_reducible apply M.var_setB) | (with_reducible apply M.var_setHt) | (with_reducible apply M.var_setBd) | (with_reducible apply M.var_set2) | (with_reducible apply M.var_set3) | (with_reducible apply M.var_set4) | (with_reducible apply M.var_set45) | (with_reducible apply M.var_set67) | (with_reducible apply M.var_setF) | (with_reducible refine M.var_alloc' _ _ _ ?_; first | rfl | (focus (simp [go_sem]; done))) | (with_reducible refine M.Var.alloc ?_ _) | (with_reducible refine M.Var.drewN ?_ _) | (with_reducible refine M.Var.drew ?_) | (with_reducible refine M.Var.far ?_ _ _ ?hFar; case hFar => (first | omega | ((try simp [go_sem]) <;> omega))) | fail))) hb
  have V4_p : M.Var w4 (p_p) #[.bool false] := M.Var.mono (b := p_p) (cs := #[.bool false]) (by (repeat (first | (with_reducible assumption) | (with_reducible apply M.var_setV) | (with_reducible apply M.var_setI) | (with_reducible apply M.var_setB) | (with_reducible apply M.var_setHt) | (with_reducible apply M.var_setBd) | (with_reducible apply M.var_set2) | (with_reducible apply M.var_set3) | (with_reducible apply M.var_set4) | (with_reducible apply M.var_set45) | (with_reducible apply M.var_set67) | (with_reducible apply M.var_setF) | (with_reducible refine M.var_alloc' _ _ _ ?_; first | rfl | (focus (simp [go_sem]; done))) | (with_reducible refine M.Var.alloc ?_ _) | (with_reducible refine M.Var.drewN ?_ _) | (with_reducible refine M.Var.drew ?_) | (with_reducible refine M.Var.far ?_ _ _ ?hFar; case hFar => (first | omega | ((try simp [go_sem]) <;> omega))) | fail))) hb
  have V4_h : M.Var w4 (p_h) #[.func (.func 24) #[] #[]] := M.Var.mono (b := p_h) (cs := #[.func (.func 24) #[] #[]]) (by (repeat (first | (with_reducible assumption) | (with_reducible apply M.var_setV) | (with_reducible apply M.var_setI) | (with_reducible apply M.var_setB) | (with_reducible apply M.var_setHt) | (with_reducible apply M.var_setBd) | (with_reducible apply M.var_set2) | (with_reducible apply M.var_set3) | (with_reducible apply M.var_set4) | (with_reducible apply M.var_set45) | (with_reducible apply M.var_set67) | (with_reducible apply M.var_setF) | (with_reducible refine M.var_alloc' _ _ _ ?_; first | rfl | (focus (simp [go_sem]; done))) | (with_reducible refine M.Var.alloc ?_ _) | (with_reducible refine M.Var.drewN ?_ _) | (with_reducible refine M.Var.drew ?_) | (with_reducible refine M.Var.far ?_ _ _ ?hFar; case hFar => (first | omega | ((try simp [go_sem]) <;> omega))) | fail))) hb
  have V4_q : M.Var w4 (p_q) #[.bool false] := M.Var.mono (b := p_q) (cs := #[.bool false]) (by (repeat (first | (with_reducible assumption) | (with_reducible apply M.var_setV) | (with_reducible apply M.var_setI) | (with_reducible apply M.var_setB) | (with_reducible apply M.var_setHt) | (with_reducible apply M.var_setBd) | (with_reducible apply M.var_set2) | (with_reducible apply M.var_set3) | (with_reducible apply M.var_set4) | (with_reducible apply M.var_set45) | (with_reducible apply M.var_set67) | (with_reducible apply M.var_setF) | (with_reducible refine M.var_alloc' _ _ _ ?_; first | rfl | (focus (simp [go_sem]; done))) | (with_reducible refine M.Var.alloc ?_ _) | (with_reducible refine M.Var.drewN ?_ _) | (with_reducible refine M.Var.drew ?_) | (with_reducible refine M.Var.far ?_ _ _ ?hFar; case hFar => (first | omega | ((try simp [go_sem]) <;> omega))) | fail))) hb
  have q4_a_0 : w4.cell? ⟨p_a, 0, none⟩ = some (.int .i64 a.shape) := V4_a.c 0 _ rfl
  have q4_a_1 : w4.cell? ⟨p_a, 1, none⟩ = some (.int .i64 a.sx) := V4_a.c 1 _ rfl
  have q4_a_2 : w4.cell? ⟨p_a, 2, none⟩ = some (.int .i64 a.sy) := V4_a.c 2 _ rfl
  have q4_a_3 : w4.cell? ⟨p_a, 3, none⟩ = some (.int .i64 a.mass) := V4_a.c 3 _ rfl
  have q4_a_4 : w4.cell? ⟨p_a, 4, none⟩ = some (.int .i64 a.px) := V4_a.c 4 _ rfl
  have q4_a_5 : w4.cell? ⟨p_a, 5, none⟩ = some (.int .i64 a.py) := V4_a.c 5 _ rfl
  have q4_a_6 : w4.cell? ⟨p_a, 6, none⟩ = some (.int .i64 a.mx) := V4_a.c 6 _ rfl
  have q4_a_7 : w4.cell? ⟨p_a, 7, none⟩ = some (.int .i64 a.my) := V4_a.c 7 _ rfl
  have f4_a := V4_a.2.2; have L4_a := V4_a.lt
  have HV4_a := Lib.hid V4_a
  have q4_b_0 : w4.cell? ⟨p_b, 0, none⟩ = some (.int .i64 b.shape) := V4_b.c 0 _ rfl
  have q4_b_1 : w4.cell? ⟨p_b, 1, none⟩ = some (.int .i64 b.sx) := V4_b.c 1 _ rfl
  have q4_b_2 : w4.cell? ⟨p_b, 2, none⟩ = some (.int .i64 b.sy) := V4_b.c 2 _ rfl
  have q4_b_3 : w4.cell? ⟨p_b, 3, none⟩ = some (.int .i64 b.mass) := V4_b.c 3 _ rfl
  have q4_b_4 : w4.cell? ⟨p_b, 4, none⟩ = some (.int .i64 a.px) := V4_b.c 4 _ rfl
  have q4_b_5 : w4.cell? ⟨p_b, 5, none⟩ = some (.int .i64 (a.py - (half a).2 - (half b).2 - n)) := V4_b.c 5 _ rfl
  have q4_b_6 : w4.cell? ⟨p_b, 6, none⟩ = some (.int .i64 b.mx) := V4_b.c 6 _ rfl
  have q4_b_7 : w4.cell? ⟨p_b, 7, none⟩ = some (.int .i64 b.my) := V4_b.c 7 _ rfl
  have f4_b := V4_b.2.2; have L4_b := V4_b.lt
  have HV4_b := Lib.hid V4_b
  have q4_n_0 : w4.cell? ⟨p_n, 0, none⟩ = some (.int .i64 n) := V4_n.c 0 _ rfl
  have f4_n := V4_n.2.2; have L4_n := V4_n.lt
  have HV4_n := Lib.hid V4_n
  have q4_p_0 : w4.cell? ⟨p_p, 0, none⟩ = some (.bool false) := V4_p.c 0 _ rfl
  have f4_p := V4_p.2.2; have L4_p := V4_p.lt
  have HV4_p := Lib.hid V4_p
  have q4_h_0 : w4.cell? ⟨p_h, 0, none⟩ = some (.func (.func 24) #[] #[]) := V4_h.c 0 _ rfl
  have f4_h := V4_h.2.2; have L4_h := V4_h.lt
  have HV4_h := Lib.hid V4_h
  have q4_q_0 : w4.cell? ⟨p_q, 0, none⟩ = some (.bool false) := V4_q.c 0 _ rfl
  have f4_q := V4_q.2.2; have L4_q := V4_q.lt
  have HV4_q := Lib.hid V4_q
  have HG4 := Lib.hid G4; clear hb G4
  go_wp2_with fail
  (try refine M.Stop.mk ?_)
  refine bodyPost_end (v := .tuple #[]) (by first | rfl | kernel_rfl | simp [results, go_sem]) rfl ⟨rfl, ?_⟩
  suffices GE : ∀ W', Below w.heap.size (M.sets T4 (usB p_q (.ok false))) W' → Below w.heap.size (M.sets w _) W' from GE _ (by (try simp only [M.sets_append]); (try simp only [M.usV, M.usI, M.usHt, M.usB, M.usBd, M.usBx, M.fstX, M.sndX, M.sets]); (repeat (first | (with_reducible exact HG4.out) | (with_reducible refine M.Below.drewN ?_ _) | (with_reducible refine M.Below.drew ?_) | (with_reducible refine M.below_setCell_both ?_ _ (by assumption) _) | (with_reducible refine Below.alloc ?_ (by go_size) _) | (with_reducible refine Below.setCell ?_ (by dsimp only; go_size) _) | fail)))
  intro W' GE; subst hT4; subst hT3; subst hT2; subst hT1; (try simp only [M.sets_append]); (try simp only [M.sets_append] at GE); exact GE
end Go.Proofs.Ytcaibieaobhheaa
