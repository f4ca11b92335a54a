/- What the closures of chapter 10's laws do that set more than one contact. -/
import Derived.Test.YtcaibieaobhheaaVar3
import Derived.Test.YtcaibieaobhheaaHit
import Derived.Test.YtcaibieaobhheaaTouchMath
namespace Go.Proofs.Ytcaibieaobhheaa
open Go.RowKit M
set_option maxRecDepth 100000
set_option maxHeartbeats 4000000
set_option linter.unusedVariables false
set_option linter.unusedSimpArgs false
theorem cloBoth (p_a p_b p_p p_q p_h p_g : Nat) (a b : Bd) (ha : a.ok) (hb : b.ok) (q1 q2 : Ht) (t1 t2 : Bool) (e1 : hitX a b = .ok (q1, t1)) (e2 : hitX b a = .ok (q2, t2)) (w : World)
    (h_a : Var w p_a #[.int .i64 a.shape, .int .i64 a.sx, .int .i64 a.sy, .int .i64 a.mass, .int .i64 a.px, .int .i64 a.py, .int .i64 a.mx, .int .i64 a.my]) (h_b : Var w p_b #[.int .i64 b.shape, .int .i64 b.sx, .int .i64 b.sy, .int .i64 b.mass, .int .i64 b.px, .int .i64 b.py, .int .i64 b.mx, .int .i64 b.my]) (h_h : Var w p_h #[.int .i64 0, .int .i64 0, .int .i64 0]) (h_p : Var w p_p #[.bool false]) (h_g : Var w p_g #[.int .i64 0, .int .i64 0, .int .i64 0]) (h_q : Var w p_q #[.bool false])
    (o1 : p_a < p_b) (o2 : p_b < p_p) (o3 : p_p < p_q) (o4 : p_q < p_h) (o5 : p_h < p_g) :
    Calls Try.prog 23 #[.pointer (some ⟨p_a, 0, none⟩), .pointer (some ⟨p_b, 0, none⟩), .pointer (some ⟨p_h, 0, none⟩), .pointer (some ⟨p_p, 0, none⟩), .pointer (some ⟨p_g, 0, none⟩), .pointer (some ⟨p_q, 0, none⟩)] w fun e w' => e = outU 0 ∧ Below w.heap.size (sets w (usHt p_h (.ok q1) ++ usB p_p (.ok t1) ++ usHt p_g (.ok q2) ++ usB p_q (.ok t2))) w' := by
  have C1 := Lib.hid (fun w => (hit_x a b ha hb w).mono fun e w' h => (⟨ret_Hb e1 h.1, h.2⟩ : e = .returned (.tuple #[.agg #[.int .i64 q1.nx, .int .i64 q1.ny, .int .i64 q1.d], .bool t1]) ∧ Bw w w'))
  have C2 := Lib.hid (fun w => (hit_x b a hb ha w).mono fun e w' h => (⟨ret_Hb e2 h.1, h.2⟩ : e = .returned (.tuple #[.agg #[.int .i64 q2.nx, .int .i64 q2.ny, .int .i64 q2.d], .bool t2]) ∧ Bw w w'))
  clear e1 e2
  have q0_a_0 : w.cell? ⟨p_a, 0, none⟩ = some (.int .i64 a.shape) := h_a.c 0 _ rfl
  have q0_a_1 : w.cell? ⟨p_a, 1, none⟩ = some (.int .i64 a.sx) := h_a.c 1 _ rfl
  have q0_a_2 : w.cell? ⟨p_a, 2, none⟩ = some (.int .i64 a.sy) := h_a.c 2 _ rfl
  have q0_a_3 : w.cell? ⟨p_a, 3, none⟩ = some (.int .i64 a.mass) := h_a.c 3 _ rfl
  have q0_a_4 : w.cell? ⟨p_a, 4, none⟩ = some (.int .i64 a.px) := h_a.c 4 _ rfl
  have q0_a_5 : w.cell? ⟨p_a, 5, none⟩ = some (.int .i64 a.py) := h_a.c 5 _ rfl
  have q0_a_6 : w.cell? ⟨p_a, 6, none⟩ = some (.int .i64 a.mx) := h_a.c 6 _ rfl
  have q0_a_7 : w.cell? ⟨p_a, 7, none⟩ = some (.int .i64 a.my) := h_a.c 7 _ rfl
  have f0_a := h_a.2.2; have L0_a := h_a.lt
  have HV0_a := Lib.hid h_a
  have q0_b_0 : w.cell? ⟨p_b, 0, none⟩ = some (.int .i64 b.shape) := h_b.c 0 _ rfl
  have q0_b_1 : w.cell? ⟨p_b, 1, none⟩ = some (.int .i64 b.sx) := h_b.c 1 _ rfl
  have q0_b_2 : w.cell? ⟨p_b, 2, none⟩ = some (.int .i64 b.sy) := h_b.c 2 _ rfl
  have q0_b_3 : w.cell? ⟨p_b, 3, none⟩ = some (.int .i64 b.mass) := h_b.c 3 _ rfl
  have q0_b_4 : w.cell? ⟨p_b, 4, none⟩ = some (.int .i64 b.px) := h_b.c 4 _ rfl
  have q0_b_5 : w.cell? ⟨p_b, 5, none⟩ = some (.int .i64 b.py) := h_b.c 5 _ rfl
  have q0_b_6 : w.cell? ⟨p_b, 6, none⟩ = some (.int .i64 b.mx) := h_b.c 6 _ rfl
  have q0_b_7 : w.cell? ⟨p_b, 7, none⟩ = some (.int .i64 b.my) := h_b.c 7 _ rfl
  have f0_b := h_b.2.2; have L0_b := h_b.lt
  have HV0_b := Lib.hid h_b
  have q0_h_0 : w.cell? ⟨p_h, 0, none⟩ = some (.int .i64 0) := h_h.c 0 _ rfl
  have q0_h_1 : w.cell? ⟨p_h, 1, none⟩ = some (.int .i64 0) := h_h.c 1 _ rfl
  have q0_h_2 : w.cell? ⟨p_h, 2, none⟩ = some (.int .i64 0) := h_h.c 2 _ rfl
  have f0_h := h_h.2.2; have L0_h := h_h.lt
  have HV0_h := Lib.hid h_h
  have q0_p_0 : w.cell? ⟨p_p, 0, none⟩ = some (.bool false) := h_p.c 0 _ rfl
  have f0_p := h_p.2.2; have L0_p := h_p.lt
  have HV0_p := Lib.hid h_p
  have q0_g_0 : w.cell? ⟨p_g, 0, none⟩ = some (.int .i64 0) := h_g.c 0 _ rfl
  have q0_g_1 : w.cell? ⟨p_g, 1, none⟩ = some (.int .i64 0) := h_g.c 1 _ rfl
  have q0_g_2 : w.cell? ⟨p_g, 2, none⟩ = some (.int .i64 0) := h_g.c 2 _ rfl
  have f0_g := h_g.2.2; have L0_g := h_g.lt
  have HV0_g := Lib.hid h_g
  have q0_q_0 : w.cell? ⟨p_q, 0, none⟩ = some (.bool false) := h_q.c 0 _ rfl
  have f0_q := h_q.2.2; have L0_q := h_q.lt
  have HV0_q := Lib.hid h_q
  have d_p_a_p_b : p_a ≠ p_b := by omega
  have d_p_a_p_h : p_a ≠ p_h := by omega
  have d_p_a_p_p : p_a ≠ p_p := by omega
  have d_p_a_p_g : p_a ≠ p_g := by omega
  have d_p_a_p_q : p_a ≠ p_q := by omega
  have d_p_b_p_a : p_b ≠ p_a := by omega
  have d_p_b_p_h : p_b ≠ p_h := by omega
  have d_p_b_p_p : p_b ≠ p_p := by omega
  have d_p_b_p_g : p_b ≠ p_g := by omega
  have d_p_b_p_q : p_b ≠ p_q := by omega
  have d_p_h_p_a : p_h ≠ p_a := by omega
  have d_p_h_p_b : p_h ≠ p_b := by omega
  have d_p_h_p_p : p_h ≠ p_p := by omega
  have d_p_h_p_g : p_h ≠ p_g := by omega
  have d_p_h_p_q : p_h ≠ p_q := by omega
  have d_p_p_p_a : p_p ≠ p_a := by omega
  have d_p_p_p_b : p_p ≠ p_b := by omega
  have d_p_p_p_h : p_p ≠ p_h := by omega
  have d_p_p_p_g : p_p ≠ p_g := by omega
  have d_p_p_p_q : p_p ≠ p_q := by omega
  have d_p_g_p_a : p_g ≠ p_a := by omega
  have d_p_g_p_b : p_g ≠ p_b := by omega
  have d_p_g_p_h : p_g ≠ p_h := by omega
  have d_p_g_p_p : p_g ≠ p_p := by omega
  have d_p_g_p_q : p_g ≠ p_q := by omega
  have d_p_q_p_a : p_q ≠ p_a := by omega
  have d_p_q_p_b : p_q ≠ p_b := by omega
  have d_p_q_p_h : p_q ≠ p_h := by omega
  have d_p_q_p_p : p_q ≠ p_p := by omega
  have d_p_q_p_g : p_q ≠ p_g := by omega
  have HG0 := Lib.hid (Below.refl w.heap.size w); have TS0 : w.heap.size = w.heap.size := rfl
  go_enter Try.func23, Try.ntmps23
  go_wp2_with fail
  (with_reducible refine (C1.out _).mono ?_); rintro en w1 ⟨rfl, hb⟩
  obtain ⟨T1, hT1⟩ : ∃ T, T = M.sets w ([]) := ⟨_, rfl⟩
  have TS1 : T1.heap.size = w.heap.size := by rw [hT1, M.sets_size]
  have G1 : Below w.heap.size T1 w1 := by rw [hT1]; exact Below.trans (by (try simp only [M.sets_append]); (try simp only [M.usV, M.usI, M.usHt, M.usB, M.usBd, M.usBx, M.fstX, M.sndX, M.sets]); (repeat (first | (with_reducible exact HG0.out) | (with_reducible refine M.Below.drewN ?_ _) | (with_reducible refine M.Below.drew ?_) | (with_reducible refine M.below_setCell_both ?_ _ (by assumption) _) | (with_reducible refine Below.alloc ?_ (by go_size) _) | (with_reducible refine Below.setCell ?_ (by dsimp only; go_size) _) | fail))) (hb.mono (by go_size))
  have S1 : w.heap.size ≤ w1.heap.size := by have := G1.size; omega
  have V1_a : M.Var w1 (p_a) #[.int .i64 a.shape, .int .i64 a.sx, .int .i64 a.sy, .int .i64 a.mass, .int .i64 a.px, .int .i64 a.py, .int .i64 a.mx, .int .i64 a.my] := M.Var.mono (b := p_a) (cs := #[.int .i64 a.shape, .int .i64 a.sx, .int .i64 a.sy, .int .i64 a.mass, .int .i64 a.px, .int .i64 a.py, .int .i64 a.mx, .int .i64 a.my]) (by (repeat (first | (with_reducible assumption) | (with_reducible apply M.var_setV) | (with_reducible apply M.var_setI) | (with_reducible apply M.var_setB) | (with_reducible apply M.var_setHt) | (with_reducible apply M.var_setBd) | (with_reducible apply M.var_set2) | (with_reducible apply M.var_set3) | (with_reducible apply M.var_set4) | (with_reducible apply M.var_set45) | (with_reducible apply M.var_set67) | (with_reducible apply M.var_setF) | (with_reducible refine M.var_alloc' _ _ _ ?_; first | rfl | (focus (simp [go_sem]; done))) | (with_reducible refine M.Var.alloc ?_ _) | (with_reducible refine M.Var.drewN ?_ _) | (with_reducible refine M.Var.drew ?_) | (with_reducible refine M.Var.far ?_ _ _ ?hFar; case hFar => (first | omega | ((try simp [go_sem]) <;> omega))) | fail))) hb
  have V1_b : M.Var w1 (p_b) #[.int .i64 b.shape, .int .i64 b.sx, .int .i64 b.sy, .int .i64 b.mass, .int .i64 b.px, .int .i64 b.py, .int .i64 b.mx, .int .i64 b.my] := M.Var.mono (b := p_b) (cs := #[.int .i64 b.shape, .int .i64 b.sx, .int .i64 b.sy, .int .i64 b.mass, .int .i64 b.px, .int .i64 b.py, .int .i64 b.mx, .int .i64 b.my]) (by (repeat (first | (with_reducible assumption) | (with_reducible apply M.var_setV) | (with_reducible apply M.var_setI) | (with_reducible apply M.var_setB) | (with_reducible apply M.var_setHt) | (with_reducible apply M.var_setBd) | (with_reducible apply M.var_set2) | (with_reducible apply M.var_set3) | (with_reducible apply M.var_set4) | (with_reducible apply M.var_set45) | (with_reducible apply M.var_set67) | (with_reducible apply M.var_setF) | (with_reducible refine M.var_alloc' _ _ _ ?_; first | rfl | (focus (simp [go_sem]; done))) | (with_reducible refine M.Var.alloc ?_ _) | (with_reducible refine M.Var.drewN ?_ _) | (with_reducible refine M.Var.drew ?_) | (with_reducible refine M.Var.far ?_ _ _ ?hFar; case hFar => (first | omega | ((try simp [go_sem]) <;> omega))) | fail))) hb
  have V1_h : M.Var w1 (p_h) #[.int .i64 0, .int .i64 0, .int .i64 0] := M.Var.mono (b := p_h) (cs := #[.int .i64 0, .int .i64 0, .int .i64 0]) (by (repeat (first | (with_reducible assumption) | (with_reducible apply M.var_setV) | (with_reducible apply M.var_setI) | (with_reducible apply M.var_setB) | (with_reducible apply M.var_setHt) | (with_reducible apply M.var_setBd) | (with_reducible apply M.var_set2) | (with_reducible apply M.var_set3) | (with_reducible apply M.var_set4) | (with_reducible apply M.var_set45) | (with_reducible apply M.var_set67) | (with_reducible apply M.var_setF) | (with_reducible refine M.var_alloc' _ _ _ ?_; first | rfl | (focus (simp [go_sem]; done))) | (with_reducible refine M.Var.alloc ?_ _) | (with_reducible refine M.Var.drewN ?_ _) | (with_reducible refine M.Var.drew ?_) | (with_reducible refine M.Var.far ?_ _ _ ?hFar; case hFar => (first | omega | ((try simp [go_sem]) <;> omega))) | fail))) hb
  have V1_p : M.Var w1 (p_p) #[.bool false] := M.Var.mono (b := p_p) (cs := #[.bool false]) (by (repeat (first | (with_reducible assumption) | (with_reducible apply M.var_setV) | (with_reducible apply M.var_setI) | (with_reducible apply M.var_setB) | (with_reducible apply M.var_setHt) | (with_reducible apply M.var_setBd) | (with_reducible apply M.var_set2) | (with_reducible apply M.var_set3) | (with_reducible apply M.var_set4) | (with_reducible apply M.var_set45) | (with_reducible apply M.var_set67) | (with_reducible apply M.var_setF) | (with_reducible refine M.var_alloc' _ _ _ ?_; first | rfl | (focus (simp [go_sem]; done))) | (with_reducible refine M.Var.alloc ?_ _) | (with_reducible refine M.Var.drewN ?_ _) | (with_reducible refine M.Var.drew ?_) | (with_reducible refine M.Var.far ?_ _ _ ?hFar; case hFar => (first | omega | ((try simp [go_sem]) <;> omega))) | fail))) hb
  have V1_g : M.Var w1 (p_g) #[.int .i64 0, .int .i64 0, .int .i64 0] := M.Var.mono (b := p_g) (cs := #[.int .i64 0, .int .i64 0, .int .i64 0]) (by (repeat (first | (with_reducible assumption) | (with_reducible apply M.var_setV) | (with_reducible apply M.var_setI) | (with_reducible apply M.var_setB) | (with_reducible apply M.var_setHt) | (with_reducible apply M.var_setBd) | (with_reducible apply M.var_set2) | (with_reducible apply M.var_set3) | (with_reducible apply M.var_set4) | (with_reducible apply M.var_set45) | (with_reducible apply M.var_set67) | (with_reducible apply M.var_setF) | (with_reducible refine M.var_alloc' _ _ _ ?_; first | rfl | (focus (simp [go_sem]; done))) | (with_reducible refine M.Var.alloc ?_ _) | (with_reducible refine M.Var.drewN ?_ _) | (with_reducible refine M.Var.drew ?_) | (with_reducible refine M.Var.far ?_ _ _ ?hFar; case hFar => (first | omega | ((try simp [go_sem]) <;> omega))) | fail))) hb
  have V1_q : M.Var w1 (p_q) #[.bool false] := M.Var.mono (b := p_q) (cs := #[.bool false]) (by (repeat (first | (with_reducible assumption) | (with_reducible apply M.var_setV) | (with_reducible apply M.var_setI) | (with_reducible apply M.var_setB) | (with_reducible apply M.var_setHt) | (with_reducible apply M.var_setBd) | (with_reducible apply M.var_set2) | (with_reducible apply M.var_set3) | (with_reducible apply M.var_set4) | (with_reducible apply M.var_set45) | (with_reducible apply M.var_set67) | (with_reducible apply M.var_setF) | (with_reducible refine M.var_alloc' _ _ _ ?_; first | rfl | (focus (simp [go_sem]; done))) | (with_reducible refine M.Var.alloc ?_ _) | (with_reducible refine M.Var.drewN ?_ _) | (with_reducible refine M.Var.drew ?_) | (with_reducible refine M.Var.far ?_ _ _ ?hFar; case hFar => (first | omega | ((try simp [go_sem]) <;> omega))) | fail))) hb
  have q1_a_0 : w1.cell? ⟨p_a, 0, none⟩ = some (.int .i64 a.shape) := V1_a.c 0 _ rfl
  have q1_a_1 : w1.cell? ⟨p_a, 1, none⟩ = some (.int .i64 a.sx) := V1_a.c 1 _ rfl
  have q1_a_2 : w1.cell? ⟨p_a, 2, none⟩ = some (.int .i64 a.sy) := V1_a.c 2 _ rfl
  have q1_a_3 : w1.cell? ⟨p_a, 3, none⟩ = some (.int .i64 a.mass) := V1_a.c 3 _ rfl
  have q1_a_4 : w1.cell? ⟨p_a, 4, none⟩ = some (.int .i64 a.px) := V1_a.c 4 _ rfl
  have q1_a_5 : w1.cell? ⟨p_a, 5, none⟩ = some (.int .i64 a.py) := V1_a.c 5 _ rfl
  have q1_a_6 : w1.cell? ⟨p_a, 6, none⟩ = some (.int .i64 a.mx) := V1_a.c 6 _ rfl
  have q1_a_7 : w1.cell? ⟨p_a, 7, none⟩ = some (.int .i64 a.my) := V1_a.c 7 _ rfl
  have f1_a := V1_a.2.2; have L1_a := V1_a.lt
  have HV1_a := Lib.hid V1_a
  have q1_b_0 : w1.cell? ⟨p_b, 0, none⟩ = some (.int .i64 b.shape) := V1_b.c 0 _ rfl
  have q1_b_1 : w1.cell? ⟨p_b, 1, none⟩ = some (.int .i64 b.sx) := V1_b.c 1 _ rfl
  have q1_b_2 : w1.cell? ⟨p_b, 2, none⟩ = some (.int .i64 b.sy) := V1_b.c 2 _ rfl
  have q1_b_3 : w1.cell? ⟨p_b, 3, none⟩ = some (.int .i64 b.mass) := V1_b.c 3 _ rfl
  have q1_b_4 : w1.cell? ⟨p_b, 4, none⟩ = some (.int .i64 b.px) := V1_b.c 4 _ rfl
  have q1_b_5 : w1.cell? ⟨p_b, 5, none⟩ = some (.int .i64 b.py) := V1_b.c 5 _ rfl
  have q1_b_6 : w1.cell? ⟨p_b, 6, none⟩ = some (.int .i64 b.mx) := V1_b.c 6 _ rfl
  have q1_b_7 : w1.cell? ⟨p_b, 7, none⟩ = some (.int .i64 b.my) := V1_b.c 7 _ rfl
  have f1_b := V1_b.2.2; have L1_b := V1_b.lt
  have HV1_b := Lib.hid V1_b
  have q1_h_0 : w1.cell? ⟨p_h, 0, none⟩ = some (.int .i64 0) := V1_h.c 0 _ rfl
  have q1_h_1 : w1.cell? ⟨p_h, 1, none⟩ = some (.int .i64 0) := V1_h.c 1 _ rfl
  have q1_h_2 : w1.cell? ⟨p_h, 2, none⟩ = some (.int .i64 0) := V1_h.c 2 _ rfl
  have f1_h := V1_h.2.2; have L1_h := V1_h.lt
  have HV1_h := Lib.hid V1_h
  have q1_p_0 : w1.cell? ⟨p_p, 0, none⟩ = some (.bool false) := V1_p.c 0 _ rfl
  have f1_p := V1_p.2.2; have L1_p := V1_p.lt
  have HV1_p := Lib.hid V1_p
  have q1_g_0 : w1.cell? ⟨p_g, 0, none⟩ = some (.int .i64 0) := V1_g.c 0 _ rfl
  have q1_g_1 : w1.cell? ⟨p_g, 1, none⟩ = some (.int .i64 0) := V1_g.c 1 _ rfl
  have q1_g_2 : w1.cell? ⟨p_g, 2, none⟩ = some (.int .i64 0) := V1_g.c 2 _ rfl
  have f1_g := V1_g.2.2; have L1_g := V1_g.lt
  have HV1_g := Lib.hid V1_g
  have q1_q_0 : w1.cell? ⟨p_q, 0, none⟩ = some (.bool false) := V1_q.c 0 _ rfl
  have f1_q := V1_q.2.2; have L1_q := V1_q.lt
  have HV1_q := Lib.hid V1_q
  have HG1 := Lib.hid G1; clear hb G1
  go_wp2_with fail
  (with_reducible refine (C2.out _).mono ?_); rintro en w2 ⟨rfl, hb⟩
  obtain ⟨T2, hT2⟩ : ∃ T, T = M.sets T1 (usHt p_h (.ok q1) ++ usB p_p (.ok t1)) := ⟨_, rfl⟩
  have TS2 : T2.heap.size = w.heap.size := by rw [hT2, M.sets_size]; exact TS1
  have G2 : Below w.heap.size T2 w2 := by rw [hT2]; exact Below.trans (by (try simp only [M.sets_append]); (try simp only [M.usV, M.usI, M.usHt, M.usB, M.usBd, M.usBx, M.fstX, M.sndX, M.sets]); (repeat (first | (with_reducible exact HG1.out) | (with_reducible refine M.Below.drewN ?_ _) | (with_reducible refine M.Below.drew ?_) | (with_reducible refine M.below_setCell_both ?_ _ (by assumption) _) | (with_reducible refine Below.alloc ?_ (by go_size) _) | (with_reducible refine Below.setCell ?_ (by dsimp only; go_size) _) | fail))) (hb.mono (by go_size))
  have S2 : w.heap.size ≤ w2.heap.size := by have := G2.size; omega
  have V2_a : M.Var w2 (p_a) #[.int .i64 a.shape, .int .i64 a.sx, .int .i64 a.sy, .int .i64 a.mass, .int .i64 a.px, .int .i64 a.py, .int .i64 a.mx, .int .i64 a.my] := M.Var.mono (b := p_a) (cs := #[.int .i64 a.shape, .int .i64 a.sx, .int .i64 a.sy, .int .i64 a.mass, .int .i64 a.px, .int .i64 a.py, .int .i64 a.mx, .int .i64 a.my]) (by (repeat (first | (with_reducible assumption) | (with_reducible apply M.var_setV) | (with_reducible apply M.var_setI) | (with_reducible apply M.var_setB) | (with_reducible apply M.var_setHt) | (with_reducible apply M.var_setBd) | (with_reducible apply M.var_set2) | (with_reducible apply M.var_set3) | (with_reducible apply M.var_set4) | (with_reducible apply M.var_set45) | (with_reducible apply M.var_set67) | (with_reducible apply M.var_setF) | (with_reducible refine M.var_alloc' _ _ _ ?_; first | rfl | (focus (simp [go_sem]; done))) | (with_reducible refine M.Var.alloc ?_ _) | (with_reducible refine M.Var.drewN ?_ _) | (with_reducible refine M.Var.drew ?_) | (with_reducible refine M.Var.far ?_ _ _ ?hFar; case hFar => (first | omega | ((try simp [go_sem]) <;> omega))) | fail))) hb
  have V2_b : M.Var w2 (p_b) #[.int .i64 b.shape, .int .i64 b.sx, .int .i64 b.sy, .int .i64 b.mass, .int .i64 b.px, .int .i64 b.py, .int .i64 b.mx, .int .i64 b.my] := M.Var.mono (b := p_b) (cs := #[.int .i64 b.shape, .int .i64 b.sx, .int .i64 b.sy, .int .i64 b.mass, .int .i64 b.px, .int .i64 b.py, .int .i64 b.mx, .int .i64 b.my]) (by (repeat (first | (with_reducible assumption) | (with_reducible apply M.var_setV) | (with_reducible apply M.var_setI) | (with_reducible apply M.var_setB) | (with_reducible apply M.var_setHt) | (with_reducible apply M.var_setBd) | (with_reducible apply M.var_set2) | (with_reducible apply M.var_set3) | (with_reducible apply M.var_set4) | (with_reducible apply M.var_set45) | (with_reducible apply M.var_set67) | (with_reducible apply M.var_setF) | (with_reducible refine M.var_alloc' _ _ _ ?_; first | rfl | (focus (simp [go_sem]; done))) | (with_reducible refine M.Var.alloc ?_ _) | (with_reducible refine M.Var.drewN ?_ _) | (with_reducible refine M.Var.drew ?_) | (with_reducible refine M.Var.far ?_ _ _ ?hFar; case hFar => (first | omega | ((try simp [go_sem]) <;> omega))) | fail))) hb
  have V2_h : M.Var w2 (p_h) #[.int .i64 q1.nx, .int .i64 q1.ny, .int .i64 q1.d] := M.Var.mono (b := p_h) (cs := #[.int .i64 q1.nx, .int .i64 q1.ny, .int .i64 q1.d]) (by (repeat (first | (with_reducible assumption) | (with_reducible apply M.var_setV) | (with_reducible apply M.var_setI) | (with_reducible apply M.var_setB) | (with_reducible apply M.var_setHt) | (with_reducible apply M.var_setBd) | (with_reducible apply M.var_set2) | (with_reducible apply M.var_set3) | (with_reducible apply M.var_set4) | (with_reducible apply M.var_set45) | (with_reducible apply M.var_set67) | (with_reducible apply M.var_setF) | (with_reducible refine M.var_alloc' _ _ _ ?_; first | rfl | (focus (simp [go_sem]; done))) | (with_reducible refine M.Var.alloc ?_ _) | (with_reducible refine M.Var.drewN ?_ _) | (with_reducible refine M.Var.drew ?_) | (with_reducible refine M.Var.far ?_ _ _ ?hFar; case hFar => (first | omega | ((try simp [go_sem]) <;> omega))) | fail))) hb
  have V2_p : M.Var w2 (p_p) #[.bool t1] := M.Var.mono (b := p_p) (cs := #[.bool t1]) (by (repeat (first | (with_reducible assumption) | (with_reducible apply M.var_setV) | (with_reducible apply M.var_setI) | (with_reducible apply M.var_setB) | (with_reducible apply M.var_setHt) | (with_reducible apply M.var_setBd) | (with_reducible apply M.var_set2) | (with_reducible apply M.var_set3) | (with_reducible apply M.var_set4) | (with_reducible apply M.var_set45) | (with_reducible apply M.var_set67) | (with_reducible apply M.var_setF) | (with_reducible refine M.var_alloc' _ _ _ ?_; first | rfl | (focus (simp [go_sem]; done))) | (with_reducible refine M.Var.alloc ?_ _) | (with_reducible refine M.Var.drewN ?_ _) | (with_reducible refine M.Var.drew ?_) | (with_reducible refine M.Var.far ?_ _ _ ?hFar; case hFar => (first | omega | ((try simp [go_sem]) <;> omega))) | fail))) hb
  have V2_g : M.Var w2 (p_g) #[.int .i64 0, .int .i64 0, .int .i64 0] := M.Var.mono (b := p_g) (cs := #[.int .i64 0, .int .i64 0, .int .i64 0]) (by (repeat (first | (with_reducible assumption) | (with_reducible apply M.var_setV) | (with_reducible apply M.var_setI) | (with_reducible apply M.var_setB) | (with_reducible apply M.var_setHt) | (with_reducible apply M.var_setBd) | (with_reducible apply M.var_set2) | (with_reducible apply M.var_set3) | (with_reducible apply M.var_set4) | (with_reducible apply M.var_set45) | (with_reducible apply M.var_set67) | (with_reducible apply M.var_setF) | (with_reducible refine M.var_alloc' _ _ _ ?_; first | rfl | (focus (simp [go_sem]; done))) | (with_reducible refine M.Var.alloc ?_ _) | (with_reducible refine M.Var.drewN ?_ _) | (with_reducible refine M.Var.drew ?_) | (with_reducible refine M.Var.far ?_ _ _ ?hFar; case hFar => (first | omega | ((try simp [go_sem]) <;> omega))) | fail))) hb
  have V2_q : M.Var w2 (p_q) #[.bool false] := M.Var.mono (b := p_q) (cs := #[.bool false]) (by (repeat (first | (with_reducible assumption) | (with_reducible apply M.var_setV) | (with_reducible apply M.var_setI) | (with_reducible apply M.var_setB) | (with_reducible apply M.var_setHt) | (with_reducible apply M.var_setBd) | (with_reducible apply M.var_set2) | (with_reducible apply M.var_set3) | (with_reducible apply M.var_set4) | (with_reducible apply M.var_set45) | (with_reducible apply M.var_set67) | (with_reducible apply M.var_setF) | (with_reducible refine M.var_alloc' _ _ _ ?_; first | rfl | (focus (simp [go_sem]; done))) | (with_reducible refine M.Var.alloc ?_ _) | (with_reducible refine M.Var.drewN ?_ _) | (with_reducible refine M.Var.drew ?_) | (with_reducible refine M.Var.far ?_ _ _ ?hFar; case hFar => (first | omega | ((try simp [go_sem]) <;> omega))) | fail))) hb
  have q2_a_0 : w2.cell? ⟨p_a, 0, none⟩ = some (.int .i64 a.shape) := V2_a.c 0 _ rfl
  have q2_a_1 : w2.cell? ⟨p_a, 1, none⟩ = some (.int .i64 a.sx) := V2_a.c 1 _ rfl
  have q2_a_2 : w2.cell? ⟨p_a, 2, none⟩ = some (.int .i64 a.sy) := V2_a.c 2 _ rfl
  have q2_a_3 : w2.cell? ⟨p_a, 3, none⟩ = some (.int .i64 a.mass) := V2_a.c 3 _ rfl
  have q2_a_4 : w2.cell? ⟨p_a, 4, none⟩ = some (.int .i64 a.px) := V2_a.c 4 _ rfl
  have q2_a_5 : w2.cell? ⟨p_a, 5, none⟩ = some (.int .i64 a.py) := V2_a.c 5 _ rfl
  have q2_a_6 : w2.cell? ⟨p_a, 6, none⟩ = some (.int .i64 a.mx) := V2_a.c 6 _ rfl
  have q2_a_7 : w2.cell? ⟨p_a, 7, none⟩ = some (.int .i64 a.my) := V2_a.c 7 _ rfl
  have f2_a := V2_a.2.2; have L2_a := V2_a.lt
  have HV2_a := Lib.hid V2_a
  have q2_b_0 : w2.cell? ⟨p_b, 0, none⟩ = some (.int .i64 b.shape) := V2_b.c 0 _ rfl
  have q2_b_1 : w2.cell? ⟨p_b, 1, none⟩ = some (.int .i64 b.sx) := V2_b.c 1 _ rfl
  have q2_b_2 : w2.cell? ⟨p_b, 2, none⟩ = some (.int .i64 b.sy) := V2_b.c 2 _ rfl
  have q2_b_3 : w2.cell? ⟨p_b, 3, none⟩ = some (.int .i64 b.mass) := V2_b.c 3 _ rfl
  have q2_b_4 : w2.cell? ⟨p_b, 4, none⟩ = some (.int .i64 b.px) := V2_b.c 4 _ rfl
  have q2_b_5 : w2.cell? ⟨p_b, 5, none⟩ = some (.int .i64 b.py) := V2_b.c 5 _ rfl
  have q2_b_6 : w2.cell? ⟨p_b, 6, none⟩ = some (.int .i64 b.mx) := V2_b.c 6 _ rfl
  have q2_b_7 : w2.cell? ⟨p_b, 7, none⟩ = some (.int .i64 b.my) := V2_b.c 7 _ rfl
  have f2_b := V2_b.2.2; have L2_b := V2_b.lt
  have HV2_b := Lib.hid V2_b
  have q2_h_0 : w2.cell? ⟨p_h, 0, none⟩ = some (.int .i64 q1.nx) := V2_h.c 0 _ rfl
  have q2_h_1 : w2.cell? ⟨p_h, 1, none⟩ = some (.int .i64 q1.ny) := V2_h.c 1 _ rfl
  have q2_h_2 : w2.cell? ⟨p_h, 2, none⟩ = some (.int .i64 q1.d) := V2_h.c 2 _ rfl
  have f2_h := V2_h.2.2; have L2_h := V2_h.lt
  have HV2_h := Lib.hid V2_h
  have q2_p_0 : w2.cell? ⟨p_p, 0, none⟩ = some (.bool t1) := V2_p.c 0 _ rfl
  have f2_p := V2_p.2.2; have L2_p := V2_p.lt
  have HV2_p := Lib.hid V2_p
  have q2_g_0 : w2.cell? ⟨p_g, 0, none⟩ = some (.int .i64 0) := V2_g.c 0 _ rfl
  have q2_g_1 : w2.cell? ⟨p_g, 1, none⟩ = some (.int .i64 0) := V2_g.c 1 _ rfl
  have q2_g_2 : w2.cell? ⟨p_g, 2, none⟩ = some (.int .i64 0) := V2_g.c 2 _ rfl
  have f2_g := V2_g.2.2; have L2_g := V2_g.lt
  have HV2_g := Lib.hid V2_g
  have q2_q_0 : w2.cell? ⟨p_q, 0, none⟩ = some (.bool false) := V2_q.c 0 _ rfl
  have f2_q := V2_q.2.2; have L2_q := V2_q.lt
  have HV2_q := Lib.hid V2_q
  have HG2 := Lib.hid G2; clear hb G2
  go_wp2_with fail
  (try refine M.Stop.mk ?_)
  refine bodyPost_end (v := .tuple #[]) (by first | rfl | kernel_rfl | simp [results, go_sem]) rfl ⟨rfl, ?_⟩
  suffices GE : ∀ W', Below w.heap.size (M.sets T2 (usHt p_g (.ok q2) ++ usB p_q (.ok t2))) W' → Below w.heap.size (M.sets w _) W' from GE _ (by (try simp only [M.sets_append]); (try simp only [M.usV, M.usI, M.usHt, M.usB, M.usBd, M.usBx, M.fstX, M.sndX, M.sets]); (repeat (first | (with_reducible exact HG2.out) | (with_reducible refine M.Below.drewN ?_ _) | (with_reducible refine M.Below.drew ?_) | (with_reducible refine M.below_setCell_both ?_ _ (by assumption) _) | (with_reducible refine Below.alloc ?_ (by go_size) _) | (with_reducible refine Below.setCell ?_ (by dsimp only; go_size) _) | fail)))
  intro W' GE; subst hT2; subst hT1; (try simp only [M.sets_append]); (try simp only [M.sets_append] at GE); exact GE
end Go.Proofs.Ytcaibieaobhheaa
