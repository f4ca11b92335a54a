/- What the closures of chapter 6's laws do that set more than one variable. -/
import Derived.Test.YtaagpkacningdaaVar3
import Derived.Test.YtaagpkacningdaaVec
import Derived.Test.YtaagpkacningdaaVecMath
namespace Go.Proofs.Ytaagpkacningdaa
open Go.RowKit M
set_option maxRecDepth 100000
set_option maxHeartbeats 4000000
set_option linter.unusedVariables false
set_option linter.unusedSimpArgs false
theorem cloShares (p_a p_n p_p p_q : Nat) (a1 a2 n x y : Int) (ha1 : I64 a1) (ha2 : I64 a2) (hn : 1 ≤ n) (hn2 : n ≤ 1000) (e1 : shareV (a1, a2) n = .ok (x, y)) (e2 : shareV (a1, a2) (-n) = .ok (-x, -y)) (w : World)
    (h_a : Var w p_a #[.int .i64 a1, .int .i64 a2]) (h_n : Var w p_n #[.int .i64 n]) (h_p : Var w p_p #[.int .i64 0, .int .i64 0]) (h_q : Var w p_q #[.int .i64 0, .int .i64 0])
    (d1 : p_p ≠ p_a) (d2 : p_p ≠ p_n) (d3 : p_q ≠ p_p) (d4 : p_p ≠ p_q) (d5 : p_q ≠ p_a) (d6 : p_q ≠ p_n) :
    Calls Try.prog 94 #[.pointer (some ⟨p_a, 0, none⟩), .pointer (some ⟨p_n, 0, none⟩), .pointer (some ⟨p_p, 0, none⟩), .pointer (some ⟨p_q, 0, none⟩)] w fun e w' => e = outU 0 ∧ Below w.heap.size (sets w (usV p_p (.ok (x, y)) ++ usV p_q (.ok (-x, -y)))) w' := by
  have C1 := Lib.hid (fun w => (vecShare_x a1 a2 n ha1 ha2 (by unfold I64; omega) w).mono fun e w' h => (⟨ret_V e1 h.1, h.2⟩ : e = .returned (.agg #[.int .i64 x, .int .i64 y]) ∧ Bw w w'))
  have C2 := Lib.hid (fun w => (vecShare_x a1 a2 (-n) ha1 ha2 (by unfold I64; omega) w).mono fun e w' h => (⟨ret_V e2 h.1, h.2⟩ : e = .returned (.agg #[.int .i64 (-x), .int .i64 (-y)]) ∧ Bw w w'))
  clear e1 e2
  have q0_a_0 := h_a.c 0 _ rfl
  have q0_a_1 := h_a.c 1 _ rfl
  have f0_a := h_a.2.2; have L0_a := h_a.lt
  have HV0_a := Lib.hid h_a
  have q0_n_0 := h_n.c 0 _ rfl
  have f0_n := h_n.2.2; have L0_n := h_n.lt
  have HV0_n := Lib.hid h_n
  have q0_p_0 := h_p.c 0 _ rfl
  have q0_p_1 := h_p.c 1 _ rfl
  have f0_p := h_p.2.2; have L0_p := h_p.lt
  have HV0_p := Lib.hid h_p
  have q0_q_0 := h_q.c 0 _ rfl
  have q0_q_1 := h_q.c 1 _ rfl
  have f0_q := h_q.2.2; have L0_q := h_q.lt
  have HV0_q := Lib.hid h_q
  have HG0 := Lib.hid (Below.refl w.heap.size w); have TS0 : w.heap.size = w.heap.size := rfl
  go_enter Try.func94, Try.ntmps94
  go_wp2_with fail
  (with_reducible refine (C1.out _).mono ?_); rintro en w1 ⟨rfl, hb⟩
  obtain ⟨T1, hT1⟩ : ∃ T, T = M.sets w ([]) := ⟨_, rfl⟩
  have TS1 : T1.heap.size = w.heap.size := by rw [hT1, M.sets_size]
  have G1 : Below w.heap.size T1 w1 := by rw [hT1]; exact Below.trans (by (try simp only [M.sets_append]); (try simp only [M.usV, M.usI, M.usHt, M.usB, M.usBd, M.usBx, M.fstX, M.sndX, M.sets]); (repeat (first | (with_reducible exact HG0.out) | (with_reducible refine M.Below.drewN ?_ _) | (with_reducible refine M.below_setCell_both ?_ _ (by assumption) _) | (with_reducible refine Below.alloc ?_ (by go_size) _) | (with_reducible refine Below.setCell ?_ (by dsimp only; go_size) _) | fail))) (hb.mono (by go_size))
  have S1 : w.heap.size ≤ w1.heap.size := by have := G1.size; omega
  have V1_a : M.Var w1 (p_a) #[.int .i64 a1, .int .i64 a2] := M.Var.mono (b := p_a) (cs := #[.int .i64 a1, .int .i64 a2]) (by (repeat (first | (with_reducible assumption) | (with_reducible apply M.var_setV) | (with_reducible apply M.var_setI) | (with_reducible apply M.var_setB) | (with_reducible apply M.var_setHt) | (with_reducible apply M.var_setBd) | (with_reducible apply M.var_set2) | (with_reducible apply M.var_set3) | (with_reducible apply M.var_set4) | (with_reducible apply M.var_set45) | (with_reducible apply M.var_set67) | (with_reducible apply M.var_setF) | (with_reducible refine M.var_alloc' _ _ _ ?_; first | rfl | (focus (simp [go_sem]; done))) | (with_reducible refine M.Var.alloc ?_ _) | (with_reducible refine M.Var.drewN ?_ _) | (with_reducible refine M.Var.drew ?_) | (with_reducible refine M.Var.far ?_ _ _ ?hFar; case hFar => (first | omega | ((try simp [go_sem]) <;> omega))) | fail))) hb
  have V1_n : M.Var w1 (p_n) #[.int .i64 n] := M.Var.mono (b := p_n) (cs := #[.int .i64 n]) (by (repeat (first | (with_reducible assumption) | (with_reducible apply M.var_setV) | (with_reducible apply M.var_setI) | (with_reducible apply M.var_setB) | (with_reducible apply M.var_setHt) | (with_reducible apply M.var_setBd) | (with_reducible apply M.var_set2) | (with_reducible apply M.var_set3) | (with_reducible apply M.var_set4) | (with_reducible apply M.var_set45) | (with_reducible apply M.var_set67) | (with_reducible apply M.var_setF) | (with_reducible refine M.var_alloc' _ _ _ ?_; first | rfl | (focus (simp [go_sem]; done))) | (with_reducible refine M.Var.alloc ?_ _) | (with_reducible refine M.Var.drewN ?_ _) | (with_reducible refine M.Var.drew ?_) | (with_reducible refine M.Var.far ?_ _ _ ?hFar; case hFar => (first | omega | ((try simp [go_sem]) <;> omega))) | fail))) hb
  have V1_p : M.Var w1 (p_p) #[.int .i64 0, .int .i64 0] := M.Var.mono (b := p_p) (cs := #[.int .i64 0, .int .i64 0]) (by (repeat (first | (with_reducible assumption) | (with_reducible apply M.var_setV) | (with_reducible apply M.var_setI) | (with_reducible apply M.var_setB) | (with_reducible apply M.var_setHt) | (with_reducible apply M.var_setBd) | (with_reducible apply M.var_set2) | (with_reducible apply M.var_set3) | (with_reducible apply M.var_set4) | (with_reducible apply M.var_set45) | (with_reducible apply M.var_set67) | (with_reducible apply M.var_setF) | (with_reducible refine M.var_alloc' _ _ _ ?_; first | rfl | (focus (simp [go_sem]; done))) | (with_reducible refine M.Var.alloc ?_ _) | (with_reducible refine M.Var.drewN ?_ _) | (with_reducible refine M.Var.drew ?_) | (with_reducible refine M.Var.far ?_ _ _ ?hFar; case hFar => (first | omega | ((try simp [go_sem]) <;> omega))) | fail))) hb
  have V1_q : M.Var w1 (p_q) #[.int .i64 0, .int .i64 0] := M.Var.mono (b := p_q) (cs := #[.int .i64 0, .int .i64 0]) (by (repeat (first | (with_reducible assumption) | (with_reducible apply M.var_setV) | (with_reducible apply M.var_setI) | (with_reducible apply M.var_setB) | (with_reducible apply M.var_setHt) | (with_reducible apply M.var_setBd) | (with_reducible apply M.var_set2) | (with_reducible apply M.var_set3) | (with_reducible apply M.var_set4) | (with_reducible apply M.var_set45) | (with_reducible apply M.var_set67) | (with_reducible apply M.var_setF) | (with_reducible refine M.var_alloc' _ _ _ ?_; first | rfl | (focus (simp [go_sem]; done))) | (with_reducible refine M.Var.alloc ?_ _) | (with_reducible refine M.Var.drewN ?_ _) | (with_reducible refine M.Var.drew ?_) | (with_reducible refine M.Var.far ?_ _ _ ?hFar; case hFar => (first | omega | ((try simp [go_sem]) <;> omega))) | fail))) hb
  have q1_a_0 := V1_a.c 0 _ rfl
  have q1_a_1 := V1_a.c 1 _ rfl
  have f1_a := V1_a.2.2; have L1_a := V1_a.lt
  have HV1_a := Lib.hid V1_a
  have q1_n_0 := V1_n.c 0 _ rfl
  have f1_n := V1_n.2.2; have L1_n := V1_n.lt
  have HV1_n := Lib.hid V1_n
  have q1_p_0 := V1_p.c 0 _ rfl
  have q1_p_1 := V1_p.c 1 _ rfl
  have f1_p := V1_p.2.2; have L1_p := V1_p.lt
  have HV1_p := Lib.hid V1_p
  have q1_q_0 := V1_q.c 0 _ rfl
  have q1_q_1 := V1_q.c 1 _ rfl
  have f1_q := V1_q.2.2; have L1_q := V1_q.lt
  have HV1_q := Lib.hid V1_q
  have HG1 := Lib.hid G1; clear hb G1
  go_wp2_with fail
  (with_reducible refine (C2.out _).mono ?_); rintro en w2 ⟨rfl, hb⟩
  obtain ⟨T2, hT2⟩ : ∃ T, T = M.sets T1 (usV p_p (.ok (x, y))) := ⟨_, rfl⟩
  have TS2 : T2.heap.size = w.heap.size := by rw [hT2, M.sets_size]; exact TS1
  have G2 : Below w.heap.size T2 w2 := by rw [hT2]; exact Below.trans (by (try simp only [M.sets_append]); (try simp only [M.usV, M.usI, M.usHt, M.usB, M.usBd, M.usBx, M.fstX, M.sndX, M.sets]); (repeat (first | (with_reducible exact HG1.out) | (with_reducible refine M.Below.drewN ?_ _) | (with_reducible refine M.below_setCell_both ?_ _ (by assumption) _) | (with_reducible refine Below.alloc ?_ (by go_size) _) | (with_reducible refine Below.setCell ?_ (by dsimp only; go_size) _) | fail))) (hb.mono (by go_size))
  have S2 : w.heap.size ≤ w2.heap.size := by have := G2.size; omega
  have V2_a : M.Var w2 (p_a) #[.int .i64 a1, .int .i64 a2] := M.Var.mono (b := p_a) (cs := #[.int .i64 a1, .int .i64 a2]) (by (repeat (first | (with_reducible assumption) | (with_reducible apply M.var_setV) | (with_reducible apply M.var_setI) | (with_reducible apply M.var_setB) | (with_reducible apply M.var_setHt) | (with_reducible apply M.var_setBd) | (with_reducible apply M.var_set2) | (with_reducible apply M.var_set3) | (with_reducible apply M.var_set4) | (with_reducible apply M.var_set45) | (with_reducible apply M.var_set67) | (with_reducible apply M.var_setF) | (with_reducible refine M.var_alloc' _ _ _ ?_; first | rfl | (focus (simp [go_sem]; done))) | (with_reducible refine M.Var.alloc ?_ _) | (with_reducible refine M.Var.drewN ?_ _) | (with_reducible refine M.Var.drew ?_) | (with_reducible refine M.Var.far ?_ _ _ ?hFar; case hFar => (first | omega | ((try simp [go_sem]) <;> omega))) | fail))) hb
  have V2_n : M.Var w2 (p_n) #[.int .i64 n] := M.Var.mono (b := p_n) (cs := #[.int .i64 n]) (by (repeat (first | (with_reducible assumption) | (with_reducible apply M.var_setV) | (with_reducible apply M.var_setI) | (with_reducible apply M.var_setB) | (with_reducible apply M.var_setHt) | (with_reducible apply M.var_setBd) | (with_reducible apply M.var_set2) | (with_reducible apply M.var_set3) | (with_reducible apply M.var_set4) | (with_reducible apply M.var_set45) | (with_reducible apply M.var_set67) | (with_reducible apply M.var_setF) | (with_reducible refine M.var_alloc' _ _ _ ?_; first | rfl | (focus (simp [go_sem]; done))) | (with_reducible refine M.Var.alloc ?_ _) | (with_reducible refine M.Var.drewN ?_ _) | (with_reducible refine M.Var.drew ?_) | (with_reducible refine M.Var.far ?_ _ _ ?hFar; case hFar => (first | omega | ((try simp [go_sem]) <;> omega))) | fail))) hb
  have V2_p : M.Var w2 (p_p) #[.int .i64 x, .int .i64 y] := M.Var.mono (b := p_p) (cs := #[.int .i64 x, .int .i64 y]) (by (repeat (first | (with_reducible assumption) | (with_reducible apply M.var_setV) | (with_reducible apply M.var_setI) | (with_reducible apply M.var_setB) | (with_reducible apply M.var_setHt) | (with_reducible apply M.var_setBd) | (with_reducible apply M.var_set2) | (with_reducible apply M.var_set3) | (with_reducible apply M.var_set4) | (with_reducible apply M.var_set45) | (with_reducible apply M.var_set67) | (with_reducible apply M.var_setF) | (with_reducible refine M.var_alloc' _ _ _ ?_; first | rfl | (focus (simp [go_sem]; done))) | (with_reducible refine M.Var.alloc ?_ _) | (with_reducible refine M.Var.drewN ?_ _) | (with_reducible refine M.Var.drew ?_) | (with_reducible refine M.Var.far ?_ _ _ ?hFar; case hFar => (first | omega | ((try simp [go_sem]) <;> omega))) | fail))) hb
  have V2_q : M.Var w2 (p_q) #[.int .i64 0, .int .i64 0] := M.Var.mono (b := p_q) (cs := #[.int .i64 0, .int .i64 0]) (by (repeat (first | (with_reducible assumption) | (with_reducible apply M.var_setV) | (with_reducible apply M.var_setI) | (with_reducible apply M.var_setB) | (with_reducible apply M.var_setHt) | (with_reducible apply M.var_setBd) | (with_reducible apply M.var_set2) | (with_reducible apply M.var_set3) | (with_reducible apply M.var_set4) | (with_reducible apply M.var_set45) | (with_reducible apply M.var_set67) | (with_reducible apply M.var_setF) | (with_reducible refine M.var_alloc' _ _ _ ?_; first | rfl | (focus (simp [go_sem]; done))) | (with_reducible refine M.Var.alloc ?_ _) | (with_reducible refine M.Var.drewN ?_ _) | (with_reducible refine M.Var.drew ?_) | (with_reducible refine M.Var.far ?_ _ _ ?hFar; case hFar => (first | omega | ((try simp [go_sem]) <;> omega))) | fail))) hb
  have q2_a_0 := V2_a.c 0 _ rfl
  have q2_a_1 := V2_a.c 1 _ rfl
  have f2_a := V2_a.2.2; have L2_a := V2_a.lt
  have HV2_a := Lib.hid V2_a
  have q2_n_0 := V2_n.c 0 _ rfl
  have f2_n := V2_n.2.2; have L2_n := V2_n.lt
  have HV2_n := Lib.hid V2_n
  have q2_p_0 := V2_p.c 0 _ rfl
  have q2_p_1 := V2_p.c 1 _ rfl
  have f2_p := V2_p.2.2; have L2_p := V2_p.lt
  have HV2_p := Lib.hid V2_p
  have q2_q_0 := V2_q.c 0 _ rfl
  have q2_q_1 := V2_q.c 1 _ rfl
  have f2_q := V2_q.2.2; have L2_q := V2_q.lt
  have HV2_q := Lib.hid V2_q
  have HG2 := Lib.hid G2; clear hb G2
  go_wp2_with fail
  refine bodyPost_end (v := .tuple #[]) (by first | rfl | kernel_rfl | simp [results, go_sem]) rfl ⟨rfl, ?_⟩
  suffices GE : ∀ W', Below w.heap.size (M.sets T2 (usV p_q (.ok (-x, -y)))) W' → Below w.heap.size (M.sets w _) W' from GE _ (by (try simp only [M.sets_append]); (try simp only [M.usV, M.usI, M.usHt, M.usB, M.usBd, M.usBx, M.fstX, M.sndX, M.sets]); (repeat (first | (with_reducible exact HG2.out) | (with_reducible refine M.Below.drewN ?_ _) | (with_reducible refine M.below_setCell_both ?_ _ (by assumption) _) | (with_reducible refine Below.alloc ?_ (by go_size) _) | (with_reducible refine Below.setCell ?_ (by dsimp only; go_size) _) | fail)))
  intro W' GE; subst hT2; subst hT1; (try simp only [M.sets_append]); (try simp only [M.sets_append] at GE); exact GE
theorem cloUnits (p_a p_u p_n p_l : Nat) (a1 a2 x y n l : Int) (ha1 : I64 a1) (ha2 : I64 a2) (hx : I64 x) (hy : I64 y) (e1 : unitX (a1, a2) = .ok ((x, y), n)) (e2 : lenX x y = .ok l) (w : World)
    (h_a : Var w p_a #[.int .i64 a1, .int .i64 a2]) (h_u : Var w p_u #[.int .i64 0, .int .i64 0]) (h_n : Var w p_n #[.int .i64 0]) (h_l : Var w p_l #[.int .i64 0])
    (d1 : p_u ≠ p_a) (d2 : p_n ≠ p_a) (d3 : p_l ≠ p_a) (d4 : p_n ≠ p_u) (d5 : p_u ≠ p_n) (d6 : p_l ≠ p_u) (d7 : p_u ≠ p_l) (d8 : p_n ≠ p_l) (d9 : p_l ≠ p_n) :
    Calls Try.prog 89 #[.pointer (some ⟨p_a, 0, none⟩), .pointer (some ⟨p_u, 0, none⟩), .pointer (some ⟨p_n, 0, none⟩), .pointer (some ⟨p_l, 0, none⟩)] w fun e w' => e = outU 0 ∧ Below w.heap.size (sets w (usV p_u (.ok (x, y)) ++ usI p_n (.ok n) ++ usI p_l (.ok l))) w' := by
  have C1 := Lib.hid (fun w => (vecUnit_x a1 a2 ha1 ha2 w).mono fun e w' h => (⟨ret_VI e1 h.1, h.2⟩ : e = .returned (.tuple #[.agg #[.int .i64 x, .int .i64 y], .int .i64 n]) ∧ Bw w w'))
  have C2 := Lib.hid (fun w => (vecLen_x x y hx hy w).mono fun e w' h => (⟨ret_I e2 h.1, h.2⟩ : e = .returned (.int .i64 l) ∧ Bw w w'))
  clear e1 e2
  have q0_a_0 := h_a.c 0 _ rfl
  have q0_a_1 := h_a.c 1 _ rfl
  have f0_a := h_a.2.2; have L0_a := h_a.lt
  have HV0_a := Lib.hid h_a
  have q0_u_0 := h_u.c 0 _ rfl
  have q0_u_1 := h_u.c 1 _ rfl
  have f0_u := h_u.2.2; have L0_u := h_u.lt
  have HV0_u := Lib.hid h_u
  have q0_n_0 := h_n.c 0 _ rfl
  have f0_n := h_n.2.2; have L0_n := h_n.lt
  have HV0_n := Lib.hid h_n
  have q0_l_0 := h_l.c 0 _ rfl
  have f0_l := h_l.2.2; have L0_l := h_l.lt
  have HV0_l := Lib.hid h_l
  have HG0 := Lib.hid (Below.refl w.heap.size w); have TS0 : w.heap.size = w.heap.size := rfl
  go_enter Try.func89, Try.ntmps89
  go_wp2_with fail
  (with_reducible refine (C1.out _).mono ?_); rintro en w1 ⟨rfl, hb⟩
  obtain ⟨T1, hT1⟩ : ∃ T, T = M.sets w ([]) := ⟨_, rfl⟩
  have TS1 : T1.heap.size = w.heap.size := by rw [hT1, M.sets_size]
  have G1 : Below w.heap.size T1 w1 := by rw [hT1]; exact Below.trans (by (try simp only [M.sets_append]); (try simp only [M.usV, M.usI, M.usHt, M.usB, M.usBd, M.usBx, M.fstX, M.sndX, M.sets]); (repeat (first | (with_reducible exact HG0.out) | (with_reducible refine M.Below.drewN ?_ _) | (with_reducible refine M.below_setCell_both ?_ _ (by assumption) _) | (with_reducible refine Below.alloc ?_ (by go_size) _) | (with_reducible refine Below.setCell ?_ (by dsimp only; go_size) _) | fail))) (hb.mono (by go_size))
  have S1 : w.heap.size ≤ w1.heap.size := by have := G1.size; omega
  have V1_a : M.Var w1 (p_a) #[.int .i64 a1, .int .i64 a2] := M.Var.mono (b := p_a) (cs := #[.int .i64 a1, .int .i64 a2]) (by (repeat (first | (with_reducible assumption) | (with_reducible apply M.var_setV) | (with_reducible apply M.var_setI) | (with_reducible apply M.var_setB) | (with_reducible apply M.var_setHt) | (with_reducible apply M.var_setBd) | (with_reducible apply M.var_set2) | (with_reducible apply M.var_set3) | (with_reducible apply M.var_set4) | (with_reducible apply M.var_set45) | (with_reducible apply M.var_set67) | (with_reducible apply M.var_setF) | (with_reducible refine M.var_alloc' _ _ _ ?_; first | rfl | (focus (simp [go_sem]; done))) | (with_reducible refine M.Var.alloc ?_ _) | (with_reducible refine M.Var.drewN ?_ _) | (with_reducible refine M.Var.drew ?_) | (with_reducible refine M.Var.far ?_ _ _ ?hFar; case hFar => (first | omega | ((try simp [go_sem]) <;> omega))) | fail))) hb
  have V1_u : M.Var w1 (p_u) #[.int .i64 0, .int .i64 0] := M.Var.mono (b := p_u) (cs := #[.int .i64 0, .int .i64 0]) (by (repeat (first | (with_reducible assumption) | (with_reducible apply M.var_setV) | (with_reducible apply M.var_setI) | (with_reducible apply M.var_setB) | (with_reducible apply M.var_setHt) | (with_reducible apply M.var_setBd) | (with_reducible apply M.var_set2) | (with_reducible apply M.var_set3) | (with_reducible apply M.var_set4) | (with_reducible apply M.var_set45) | (with_reducible apply M.var_set67) | (with_reducible apply M.var_setF) | (with_reducible refine M.var_alloc' _ _ _ ?_; first | rfl | (focus (simp [go_sem]; done))) | (with_reducible refine M.Var.alloc ?_ _) | (with_reducible refine M.Var.drewN ?_ _) | (with_reducible refine M.Var.drew ?_) | (with_reducible refine M.Var.far ?_ _ _ ?hFar; case hFar => (first | omega | ((try simp [go_sem]) <;> omega))) | fail))) hb
  have V1_n : M.Var w1 (p_n) #[.int .i64 0] := M.Var.mono (b := p_n) (cs := #[.int .i64 0]) (by (repeat (first | (with_reducible assumption) | (with_reducible apply M.var_setV) | (with_reducible apply M.var_setI) | (with_reducible apply M.var_setB) | (with_reducible apply M.var_setHt) | (with_reducible apply M.var_setBd) | (with_reducible apply M.var_set2) | (with_reducible apply M.var_set3) | (with_reducible apply M.var_set4) | (with_reducible apply M.var_set45) | (with_reducible apply M.var_set67) | (with_reducible apply M.var_setF) | (with_reducible refine M.var_alloc' _ _ _ ?_; first | rfl | (focus (simp [go_sem]; done))) | (with_reducible refine M.Var.alloc ?_ _) | (with_reducible refine M.Var.drewN ?_ _) | (with_reducible refine M.Var.drew ?_) | (with_reducible refine M.Var.far ?_ _ _ ?hFar; case hFar => (first | omega | ((try simp [go_sem]) <;> omega))) | fail))) hb
  have V1_l : M.Var w1 (p_l) #[.int .i64 0] := M.Var.mono (b := p_l) (cs := #[.int .i64 0]) (by (repeat (first | (with_reducible assumption) | (with_reducible apply M.var_setV) | (with_reducible apply M.var_setI) | (with_reducible apply M.var_setB) | (with_reducible apply M.var_setHt) | (with_reducible apply M.var_setBd) | (with_reducible apply M.var_set2) | (with_reducible apply M.var_set3) | (with_reducible apply M.var_set4) | (with_reducible apply M.var_set45) | (with_reducible apply M.var_set67) | (with_reducible apply M.var_setF) | (with_reducible refine M.var_alloc' _ _ _ ?_; first | rfl | (focus (simp [go_sem]; done))) | (with_reducible refine M.Var.alloc ?_ _) | (with_reducible refine M.Var.drewN ?_ _) | (with_reducible refine M.Var.drew ?_) | (with_reducible refine M.Var.far ?_ _ _ ?hFar; case hFar => (first | omega | ((try simp [go_sem]) <;> omega))) | fail))) hb
  have q1_a_0 := V1_a.c 0 _ rfl
  have q1_a_1 := V1_a.c 1 _ rfl
  have f1_a := V1_a.2.2; have L1_a := V1_a.lt
  have HV1_a := Lib.hid V1_a
  have q1_u_0 := V1_u.c 0 _ rfl
  have q1_u_1 := V1_u.c 1 _ rfl
  have f1_u := V1_u.2.2; have L1_u := V1_u.lt
  have HV1_u := Lib.hid V1_u
  have q1_n_0 := V1_n.c 0 _ rfl
  have f1_n := V1_n.2.2; have L1_n := V1_n.lt
  have HV1_n := Lib.hid V1_n
  have q1_l_0 := V1_l.c 0 _ rfl
  have f1_l := V1_l.2.2; have L1_l := V1_l.lt
  have HV1_l := Lib.hid V1_l
  have HG1 := Lib.hid G1; clear hb G1
  go_wp2_with fail
  (with_reducible refine (C2.out _).mono ?_); rintro en w2 ⟨rfl, hb⟩
  obtain ⟨T2, hT2⟩ : ∃ T, T = M.sets T1 (usV p_u (.ok (x, y)) ++ usI p_n (.ok n)) := ⟨_, rfl⟩
  have TS2 : T2.heap.size = w.heap.size := by rw [hT2, M.sets_size]; exact TS1
  have G2 : Below w.heap.size T2 w2 := by rw [hT2]; exact Below.trans (by (try simp only [M.sets_append]); (try simp only [M.usV, M.usI, M.usHt, M.usB, M.usBd, M.usBx, M.fstX, M.sndX, M.sets]); (repeat (first | (with_reducible exact HG1.out) | (with_reducible refine M.Below.drewN ?_ _) | (with_reducible refine M.below_setCell_both ?_ _ (by assumption) _) | (with_reducible refine Below.alloc ?_ (by go_size) _) | (with_reducible refine Below.setCell ?_ (by dsimp only; go_size) _) | fail))) (hb.mono (by go_size))
  have S2 : w.heap.size ≤ w2.heap.size := by have := G2.size; omega
  have V2_a : M.Var w2 (p_a) #[.int .i64 a1, .int .i64 a2] := M.Var.mono (b := p_a) (cs := #[.int .i64 a1, .int .i64 a2]) (by (repeat (first | (with_reducible assumption) | (with_reducible apply M.var_setV) | (with_reducible apply M.var_setI) | (with_reducible apply M.var_setB) | (with_reducible apply M.var_setHt) | (with_reducible apply M.var_setBd) | (with_reducible apply M.var_set2) | (with_reducible apply M.var_set3) | (with_reducible apply M.var_set4) | (with_reducible apply M.var_set45) | (with_reducible apply M.var_set67) | (with_reducible apply M.var_setF) | (with_reducible refine M.var_alloc' _ _ _ ?_; first | rfl | (focus (simp [go_sem]; done))) | (with_reducible refine M.Var.alloc ?_ _) | (with_reducible refine M.Var.drewN ?_ _) | (with_reducible refine M.Var.drew ?_) | (with_reducible refine M.Var.far ?_ _ _ ?hFar; case hFar => (first | omega | ((try simp [go_sem]) <;> omega))) | fail))) hb
  have V2_u : M.Var w2 (p_u) #[.int .i64 x, .int .i64 y] := M.Var.mono (b := p_u) (cs := #[.int .i64 x, .int .i64 y]) (by (repeat (first | (with_reducible assumption) | (with_reducible apply M.var_setV) | (with_reducible apply M.var_setI) | (with_reducible apply M.var_setB) | (with_reducible apply M.var_setHt) | (with_reducible apply M.var_setBd) | (with_reducible apply M.var_set2) | (with_reducible apply M.var_set3) | (with_reducible apply M.var_set4) | (with_reducible apply M.var_set45) | (with_reducible apply M.var_set67) | (with_reducible apply M.var_setF) | (with_reducible refine M.var_alloc' _ _ _ ?_; first | rfl | (focus (simp [go_sem]; done))) | (with_reducible refine M.Var.alloc ?_ _) | (with_reducible refine M.Var.drewN ?_ _) | (with_reducible refine M.Var.drew ?_) | (with_reducible refine M.Var.far ?_ _ _ ?hFar; case hFar => (first | omega | ((try simp [go_sem]) <;> omega))) | fail))) hb
  have V2_n : M.Var w2 (p_n) #[.int .i64 n] := M.Var.mono (b := p_n) (cs := #[.int .i64 n]) (by (repeat (first | (with_reducible assumption) | (with_reducible apply M.var_setV) | (with_reducible apply M.var_setI) | (with_reducible apply M.var_setB) | (with_reducible apply M.var_setHt) | (with_reducible apply M.var_setBd) | (with_reducible apply M.var_set2) | (with_reducible apply M.var_set3) | (with_reducible apply M.var_set4) | (with_reducible apply M.var_set45) | (with_reducible apply M.var_set67) | (with_reducible apply M.var_setF) | (with_reducible refine M.var_alloc' _ _ _ ?_; first | rfl | (focus (simp [go_sem]; done))) | (with_reducible refine M.Var.alloc ?_ _) | (with_reducible refine M.Var.drewN ?_ _) | (with_reducible refine M.Var.drew ?_) | (with_reducible refine M.Var.far ?_ _ _ ?hFar; case hFar => (first | omega | ((try simp [go_sem]) <;> omega))) | fail))) hb
  have V2_l : M.Var w2 (p_l) #[.int .i64 0] := M.Var.mono (b := p_l) (cs := #[.int .i64 0]) (by (repeat (first | (with_reducible assumption) | (with_reducible apply M.var_setV) | (with_reducible apply M.var_setI) | (with_reducible apply M.var_setB) | (with_reducible apply M.var_setHt) | (with_reducible apply M.var_setBd) | (with_reducible apply M.var_set2) | (with_reducible apply M.var_set3) | (with_reducible apply M.var_set4) | (with_reducible apply M.var_set45) | (with_reducible apply M.var_set67) | (with_reducible apply M.var_setF) | (with_reducible refine M.var_alloc' _ _ _ ?_; first | rfl | (focus (simp [go_sem]; done))) | (with_reducible refine M.Var.alloc ?_ _) | (with_reducible refine M.Var.drewN ?_ _) | (with_reducible refine M.Var.drew ?_) | (with_reducible refine M.Var.far ?_ _ _ ?hFar; case hFar => (first | omega | ((try simp [go_sem]) <;> omega))) | fail))) hb
  have q2_a_0 := V2_a.c 0 _ rfl
  have q2_a_1 := V2_a.c 1 _ rfl
  have f2_a := V2_a.2.2; have L2_a := V2_a.lt
  have HV2_a := Lib.hid V2_a
  have q2_u_0 := V2_u.c 0 _ rfl
  have q2_u_1 := V2_u.c 1 _ rfl
  have f2_u := V2_u.2.2; have L2_u := V2_u.lt
  have HV2_u := Lib.hid V2_u
  have q2_n_0 := V2_n.c 0 _ rfl
  have f2_n := V2_n.2.2; have L2_n := V2_n.lt
  have HV2_n := Lib.hid V2_n
  have q2_l_0 := V2_l.c 0 _ rfl
  have f2_l := V2_l.2.2; have L2_l := V2_l.lt
  have HV2_l := Lib.hid V2_l
  have HG2 := Lib.hid G2; clear hb G2
  go_wp2_with fail
  refine bodyPost_end (v := .tuple #[]) (by first | rfl | kernel_rfl | simp [results, go_sem]) rfl ⟨rfl, ?_⟩
  suffices GE : ∀ W', Below w.heap.size (M.sets T2 (usI p_l (.ok l))) W' → Below w.heap.size (M.sets w _) W' from GE _ (by (try simp only [M.sets_append]); (try simp only [M.usV, M.usI, M.usHt, M.usB, M.usBd, M.usBx, M.fstX, M.sndX, M.sets]); (repeat (first | (with_reducible exact HG2.out) | (with_reducible refine M.Below.drewN ?_ _) | (with_reducible refine M.below_setCell_both ?_ _ (by assumption) _) | (with_reducible refine Below.alloc ?_ (by go_size) _) | (with_reducible refine Below.setCell ?_ (by dsimp only; go_size) _) | fail)))
  intro W' GE; subst hT2; subst hT1; (try simp only [M.sets_append]); (try simp only [M.sets_append] at GE); exact GE
theorem cloSums1 (p_a p_b p_s p_d : Nat) (a1 a2 b1 b2 x y : Int) (ha1 : I64 a1) (ha2 : I64 a2) (hb1 : I64 b1) (hb2 : I64 b2) (hx : I64 x) (hy : I64 y) (e1 : addV (a1, a2) (b1, b2) = .ok (x, y)) (e2 : subV (x, y) (b1, b2) = .ok (a1, a2)) (w : World)
    (h_a : Var w p_a #[.int .i64 a1, .int .i64 a2]) (h_b : Var w p_b #[.int .i64 b1, .int .i64 b2]) (h_s : Var w p_s #[.int .i64 0, .int .i64 0]) (h_d : Var w p_d #[.int .i64 0, .int .i64 0])
    (d1 : p_s ≠ p_a) (d2 : p_s ≠ p_b) (d3 : p_d ≠ p_a) (d4 : p_d ≠ p_b) (d5 : p_s ≠ p_d) (d6 : p_d ≠ p_s) :
    Calls Try.prog 104 #[.pointer (some ⟨p_a, 0, none⟩), .pointer (some ⟨p_b, 0, none⟩), .pointer (some ⟨p_s, 0, none⟩), .pointer (some ⟨p_d, 0, none⟩)] w fun e w' => e = outU 0 ∧ Below w.heap.size (sets w (usV p_s (.ok (x, y)) ++ usV p_d (.ok (a1, a2)))) w' := by
  have C1 := Lib.hid (fun w => (vecAdd_x a1 a2 b1 b2 ha1 ha2 hb1 hb2 w).mono fun e w' h => (⟨ret_V e1 h.1, h.2⟩ : e = .returned (.agg #[.int .i64 x, .int .i64 y]) ∧ Bw w w'))
  have C2 := Lib.hid (fun w => (vecSub_x x y b1 b2 hx hy hb1 hb2 w).mono fun e w' h => (⟨ret_V e2 h.1, h.2⟩ : e = .returned (.agg #[.int .i64 a1, .int .i64 a2]) ∧ Bw w w'))
  clear e1 e2
  have q0_a_0 := h_a.c 0 _ rfl
  have q0_a_1 := h_a.c 1 _ rfl
  have f0_a := h_a.2.2; have L0_a := h_a.lt
  have HV0_a := Lib.hid h_a
  have q0_b_0 := h_b.c 0 _ rfl
  have q0_b_1 := h_b.c 1 _ rfl
  have f0_b := h_b.2.2; have L0_b := h_b.lt
  have HV0_b := Lib.hid h_b
  have q0_s_0 := h_s.c 0 _ rfl
  have q0_s_1 := h_s.c 1 _ rfl
  have f0_s := h_s.2.2; have L0_s := h_s.lt
  have HV0_s := Lib.hid h_s
  have q0_d_0 := h_d.c 0 _ rfl
  have q0_d_1 := h_d.c 1 _ rfl
  have f0_d := h_d.2.2; have L0_d := h_d.lt
  have HV0_d := Lib.hid h_d
  have HG0 := Lib.hid (Below.refl w.heap.size w); have TS0 : w.heap.size = w.heap.size := rfl
  go_enter Try.func104, Try.ntmps104
  go_wp2_with fail
  (with_reducible refine (C1.out _).mono ?_); rintro en w1 ⟨rfl, hb⟩
  obtain ⟨T1, hT1⟩ : ∃ T, T = M.sets w ([]) := ⟨_, rfl⟩
  have TS1 : T1.heap.size = w.heap.size := by rw [hT1, M.sets_size]
  have G1 : Below w.heap.size T1 w1 := by rw [hT1]; exact Below.trans (by (try simp only [M.sets_append]); (try simp only [M.usV, M.usI, M.usHt, M.usB, M.usBd, M.usBx, M.fstX, M.sndX, M.sets]); (repeat (first | (with_reducible exact HG0.out) | (with_reducible refine M.Below.drewN ?_ _) | (with_reducible refine M.below_setCell_both ?_ _ (by assumption) _) | (with_reducible refine Below.alloc ?_ (by go_size) _) | (with_reducible refine Below.setCell ?_ (by dsimp only; go_size) _) | fail))) (hb.mono (by go_size))
  have S1 : w.heap.size ≤ w1.heap.size := by have := G1.size; omega
  have V1_a : M.Var w1 (p_a) #[.int .i64 a1, .int .i64 a2] := M.Var.mono (b := p_a) (cs := #[.int .i64 a1, .int .i64 a2]) (by (repeat (first | (with_reducible assumption) | (with_reducible apply M.var_setV) | (with_reducible apply M.var_setI) | (with_reducible apply M.var_setB) | (with_reducible apply M.var_setHt) | (with_reducible apply M.var_setBd) | (with_reducible apply M.var_set2) | (with_reducible apply M.var_set3) | (with_reducible apply M.var_set4) | (with_reducible apply M.var_set45) | (with_reducible apply M.var_set67) | (with_reducible apply M.var_setF) | (with_reducible refine M.var_alloc' _ _ _ ?_; first | rfl | (focus (simp [go_sem]; done))) | (with_reducible refine M.Var.alloc ?_ _) | (with_reducible refine M.Var.drewN ?_ _) | (with_reducible refine M.Var.drew ?_) | (with_reducible refine M.Var.far ?_ _ _ ?hFar; case hFar => (first | omega | ((try simp [go_sem]) <;> omega))) | fail))) hb
  have V1_b : M.Var w1 (p_b) #[.int .i64 b1, .int .i64 b2] := M.Var.mono (b := p_b) (cs := #[.int .i64 b1, .int .i64 b2]) (by (repeat (first | (with_reducible assumption) | (with_reducible apply M.var_setV) | (with_reducible apply M.var_setI) | (with_reducible apply M.var_setB) | (with_reducible apply M.var_setHt) | (with_reducible apply M.var_setBd) | (with_reducible apply M.var_set2) | (with_reducible apply M.var_set3) | (with_reducible apply M.var_set4) | (with_reducible apply M.var_set45) | (with_reducible apply M.var_set67) | (with_reducible apply M.var_setF) | (with_reducible refine M.var_alloc' _ _ _ ?_; first | rfl | (focus (simp [go_sem]; done))) | (with_reducible refine M.Var.alloc ?_ _) | (with_reducible refine M.Var.drewN ?_ _) | (with_reducible refine M.Var.drew ?_) | (with_reducible refine M.Var.far ?_ _ _ ?hFar; case hFar => (first | omega | ((try simp [go_sem]) <;> omega))) | fail))) hb
  have V1_s : M.Var w1 (p_s) #[.int .i64 0, .int .i64 0] := M.Var.mono (b := p_s) (cs := #[.int .i64 0, .int .i64 0]) (by (repeat (first | (with_reducible assumption) | (with_reducible apply M.var_setV) | (with_reducible apply M.var_setI) | (with_reducible apply M.var_setB) | (with_reducible apply M.var_setHt) | (with_reducible apply M.var_setBd) | (with_reducible apply M.var_set2) | (with_reducible apply M.var_set3) | (with_reducible apply M.var_set4) | (with_reducible apply M.var_set45) | (with_reducible apply M.var_set67) | (with_reducible apply M.var_setF) | (with_reducible refine M.var_alloc' _ _ _ ?_; first | rfl | (focus (simp [go_sem]; done))) | (with_reducible refine M.Var.alloc ?_ _) | (with_reducible refine M.Var.drewN ?_ _) | (with_reducible refine M.Var.drew ?_) | (with_reducible refine M.Var.far ?_ _ _ ?hFar; case hFar => (first | omega | ((try simp [go_sem]) <;> omega))) | fail))) hb
  have V1_d : M.Var w1 (p_d) #[.int .i64 0, .int .i64 0] := M.Var.mono (b := p_d) (cs := #[.int .i64 0, .int .i64 0]) (by (repeat (first | (with_reducible assumption) | (with_reducible apply M.var_setV) | (with_reducible apply M.var_setI) | (with_reducible apply M.var_setB) | (with_reducible apply M.var_setHt) | (with_reducible apply M.var_setBd) | (with_reducible apply M.var_set2) | (with_reducible apply M.var_set3) | (with_reducible apply M.var_set4) | (with_reducible apply M.var_set45) | (with_reducible apply M.var_set67) | (with_reducible apply M.var_setF) | (with_reducible refine M.var_alloc' _ _ _ ?_; first | rfl | (focus (simp [go_sem]; done))) | (with_reducible refine M.Var.alloc ?_ _) | (with_reducible refine M.Var.drewN ?_ _) | (with_reducible refine M.Var.drew ?_) | (with_reducible refine M.Var.far ?_ _ _ ?hFar; case hFar => (first | omega | ((try simp [go_sem]) <;> omega))) | fail))) hb
  have q1_a_0 := V1_a.c 0 _ rfl
  have q1_a_1 := V1_a.c 1 _ rfl
  have f1_a := V1_a.2.2; have L1_a := V1_a.lt
  have HV1_a := Lib.hid V1_a
  have q1_b_0 := V1_b.c 0 _ rfl
  have q1_b_1 := V1_b.c 1 _ rfl
  have f1_b := V1_b.2.2; have L1_b := V1_b.lt
  have HV1_b := Lib.hid V1_b
  have q1_s_0 := V1_s.c 0 _ rfl
  have q1_s_1 := V1_s.c 1 _ rfl
  have f1_s := V1_s.2.2; have L1_s := V1_s.lt
  have HV1_s := Lib.hid V1_s
  have q1_d_0 := V1_d.c 0 _ rfl
  have q1_d_1 := V1_d.c 1 _ rfl
  have f1_d := V1_d.2.2; have L1_d := V1_d.lt
  have HV1_d := Lib.hid V1_d
  have HG1 := Lib.hid G1; clear hb G1
  go_wp2_with fail
  (with_reducible refine (C2.out _).mono ?_); rintro en w2 ⟨rfl, hb⟩
  obtain ⟨T2, hT2⟩ : ∃ T, T = M.sets T1 (usV p_s (.ok (x, y))) := ⟨_, rfl⟩
  have TS2 : T2.heap.size = w.heap.size := by rw [hT2, M.sets_size]; exact TS1
  have G2 : Below w.heap.size T2 w2 := by rw [hT2]; exact Below.trans (by (try simp only [M.sets_append]); (try simp only [M.usV, M.usI, M.usHt, M.usB, M.usBd, M.usBx, M.fstX, M.sndX, M.sets]); (repeat (first | (with_reducible exact HG1.out) | (with_reducible refine M.Below.drewN ?_ _) | (with_reducible refine M.below_setCell_both ?_ _ (by assumption) _) | (with_reducible refine Below.alloc ?_ (by go_size) _) | (with_reducible refine Below.setCell ?_ (by dsimp only; go_size) _) | fail))) (hb.mono (by go_size))
  have S2 : w.heap.size ≤ w2.heap.size := by have := G2.size; omega
  have V2_a : M.Var w2 (p_a) #[.int .i64 a1, .int .i64 a2] := M.Var.mono (b := p_a) (cs := #[.int .i64 a1, .int .i64 a2]) (by (repeat (first | (with_reducible assumption) | (with_reducible apply M.var_setV) | (with_reducible apply M.var_setI) | (with_reducible apply M.var_setB) | (with_reducible apply M.var_setHt) | (with_reducible apply M.var_setBd) | (with_reducible apply M.var_set2) | (with_reducible apply M.var_set3) | (with_reducible apply M.var_set4) | (with_reducible apply M.var_set45) | (with_reducible apply M.var_set67) | (with_reducible apply M.var_setF) | (with_reducible refine M.var_alloc' _ _ _ ?_; first | rfl | (focus (simp [go_sem]; done))) | (with_reducible refine M.Var.alloc ?_ _) | (with_reducible refine M.Var.drewN ?_ _) | (with_reducible refine M.Var.drew ?_) | (with_reducible refine M.Var.far ?_ _ _ ?hFar; case hFar => (first | omega | ((try simp [go_sem]) <;> omega))) | fail))) hb
  have V2_b : M.Var w2 (p_b) #[.int .i64 b1, .int .i64 b2] := M.Var.mono (b := p_b) (cs := #[.int .i64 b1, .int .i64 b2]) (by (repeat (first | (with_reducible assumption) | (with_reducible apply M.var_setV) | (with_reducible apply M.var_setI) | (with_reducible apply M.var_setB) | (with_reducible apply M.var_setHt) | (with_reducible apply M.var_setBd) | (with_reducible apply M.var_set2) | (with_reducible apply M.var_set3) | (with_reducible apply M.var_set4) | (with_reducible apply M.var_set45) | (with_reducible apply M.var_set67) | (with_reducible apply M.var_setF) | (with_reducible refine M.var_alloc' _ _ _ ?_; first | rfl | (focus (simp [go_sem]; done))) | (with_reducible refine M.Var.alloc ?_ _) | (with_reducible refine M.Var.drewN ?_ _) | (with_reducible refine M.Var.drew ?_) | (with_reducible refine M.Var.far ?_ _ _ ?hFar; case hFar => (first | omega | ((try simp [go_sem]) <;> omega))) | fail))) hb
  have V2_s : M.Var w2 (p_s) #[.int .i64 x, .int .i64 y] := M.Var.mono (b := p_s) (cs := #[.int .i64 x, .int .i64 y]) (by (repeat (first | (with_reducible assumption) | (with_reducible apply M.var_setV) | (with_reducible apply M.var_setI) | (with_reducible apply M.var_setB) | (with_reducible apply M.var_setHt) | (with_reducible apply M.var_setBd) | (with_reducible apply M.var_set2) | (with_reducible apply M.var_set3) | (with_reducible apply M.var_set4) | (with_reducible apply M.var_set45) | (with_reducible apply M.var_set67) | (with_reducible apply M.var_setF) | (with_reducible refine M.var_alloc' _ _ _ ?_; first | rfl | (focus (simp [go_sem]; done))) | (with_reducible refine M.Var.alloc ?_ _) | (with_reducible refine M.Var.drewN ?_ _) | (with_reducible refine M.Var.drew ?_) | (with_reducible refine M.Var.far ?_ _ _ ?hFar; case hFar => (first | omega | ((try simp [go_sem]) <;> omega))) | fail))) hb
  have V2_d : M.Var w2 (p_d) #[.int .i64 0, .int .i64 0] := M.Var.mono (b := p_d) (cs := #[.int .i64 0, .int .i64 0]) (by (repeat (first | (with_reducible assumption) | (with_reducible apply M.var_setV) | (with_reducible apply M.var_setI) | (with_reducible apply M.var_setB) | (with_reducible apply M.var_setHt) | (with_reducible apply M.var_setBd) | (with_reducible apply M.var_set2) | (with_reducible apply M.var_set3) | (with_reducible apply M.var_set4) | (with_reducible apply M.var_set45) | (with_reducible apply M.var_set67) | (with_reducible apply M.var_setF) | (with_reducible refine M.var_alloc' _ _ _ ?_; first | rfl | (focus (simp [go_sem]; done))) | (with_reducible refine M.Var.alloc ?_ _) | (with_reducible refine M.Var.drewN ?_ _) | (with_reducible refine M.Var.drew ?_) | (with_reducible refine M.Var.far ?_ _ _ ?hFar; case hFar => (first | omega | ((try simp [go_sem]) <;> omega))) | fail))) hb
  have q2_a_0 := V2_a.c 0 _ rfl
  have q2_a_1 := V2_a.c 1 _ rfl
  have f2_a := V2_a.2.2; have L2_a := V2_a.lt
  have HV2_a := Lib.hid V2_a
  have q2_b_0 := V2_b.c 0 _ rfl
  have q2_b_1 := V2_b.c 1 _ rfl
  have f2_b := V2_b.2.2; have L2_b := V2_b.lt
  have HV2_b := Lib.hid V2_b
  have q2_s_0 := V2_s.c 0 _ rfl
  have q2_s_1 := V2_s.c 1 _ rfl
  have f2_s := V2_s.2.2; have L2_s := V2_s.lt
  have HV2_s := Lib.hid V2_s
  have q2_d_0 := V2_d.c 0 _ rfl
  have q2_d_1 := V2_d.c 1 _ rfl
  have f2_d := V2_d.2.2; have L2_d := V2_d.lt
  have HV2_d := Lib.hid V2_d
  have HG2 := Lib.hid G2; clear hb G2
  go_wp2_with fail
  refine bodyPost_end (v := .tuple #[]) (by first | rfl | kernel_rfl | simp [results, go_sem]) rfl ⟨rfl, ?_⟩
  suffices GE : ∀ W', Below w.heap.size (M.sets T2 (usV p_d (.ok (a1, a2)))) W' → Below w.heap.size (M.sets w _) W' from GE _ (by (try simp only [M.sets_append]); (try simp only [M.usV, M.usI, M.usHt, M.usB, M.usBd, M.usBx, M.fstX, M.sndX, M.sets]); (repeat (first | (with_reducible exact HG2.out) | (with_reducible refine M.Below.drewN ?_ _) | (with_reducible refine M.below_setCell_both ?_ _ (by assumption) _) | (with_reducible refine Below.alloc ?_ (by go_size) _) | (with_reducible refine Below.setCell ?_ (by dsimp only; go_size) _) | fail)))
  intro W' GE; subst hT2; subst hT1; (try simp only [M.sets_append]); (try simp only [M.sets_append] at GE); exact GE
theorem cloSums1e (p_a p_b p_s p_d : Nat) (a1 a2 b1 b2 n : Int) (ha1 : I64 a1) (ha2 : I64 a2) (hb1 : I64 b1) (hb2 : I64 b2) (e1 : addV (a1, a2) (b1, b2) = .error n) (w : World)
    (h_a : Var w p_a #[.int .i64 a1, .int .i64 a2]) (h_b : Var w p_b #[.int .i64 b1, .int .i64 b2]) :
    Calls Try.prog 104 #[.pointer (some ⟨p_a, 0, none⟩), .pointer (some ⟨p_b, 0, none⟩), .pointer (some ⟨p_s, 0, none⟩), .pointer (some ⟨p_d, 0, none⟩)] w fun e w' => e = outU n ∧ Below w.heap.size (sets w []) w' := by
  have C1 := Lib.hid (fun w => (vecAdd_x a1 a2 b1 b2 ha1 ha2 hb1 hb2 w).mono fun e w' h => (⟨err_V e1 h.1, h.2⟩ : (n ≠ 0 ∧ e = panics n) ∧ Bw w w'))
  clear e1
  have q0_a_0 := h_a.c 0 _ rfl
  have q0_a_1 := h_a.c 1 _ rfl
  have f0_a := h_a.2.2; have L0_a := h_a.lt
  have HV0_a := Lib.hid h_a
  have q0_b_0 := h_b.c 0 _ rfl
  have q0_b_1 := h_b.c 1 _ rfl
  have f0_b := h_b.2.2; have L0_b := h_b.lt
  have HV0_b := Lib.hid h_b
  have HG0 := Lib.hid (Below.refl w.heap.size w); have TS0 : w.heap.size = w.heap.size := rfl
  go_enter Try.func104, Try.ntmps104
  go_wp2_with fail
  (with_reducible refine (C1.out _).mono ?_); rintro en w1 ⟨⟨hz, rfl⟩, hb⟩
  exact ⟨rfl, (outU_n hz).symm, hb⟩
theorem cloSums2 (p_a p_o p_p : Nat) (a1 a2 : Int) (ha1 : I64 a1) (ha2 : I64 a2) (w : World)
    (h_a : Var w p_a #[.int .i64 a1, .int .i64 a2]) (h_o : Var w p_o #[.int .i64 0, .int .i64 0]) (h_p : Var w p_p #[.int .i64 0, .int .i64 0])
    (d1 : p_o ≠ p_a) (d2 : p_p ≠ p_a) (d5 : p_o ≠ p_p) (d6 : p_p ≠ p_o) :
    Calls Try.prog 107 #[.pointer (some ⟨p_a, 0, none⟩), .pointer (some ⟨p_o, 0, none⟩), .pointer (some ⟨p_p, 0, none⟩)] w fun e w' => e = outU 0 ∧ Below w.heap.size (sets w (usV p_o (.ok (a1, a2)) ++ usV p_p (.ok (a1, a2)))) w' := by
  have e1 : scaleV (a1, a2) 4294967296 = .ok (a1, a2) := scale_by_one ha1 ha2
  have e2 : shareV (a1, a2) 1 = .ok (a1, a2) := share_by_one _
  have C1 := Lib.hid (fun w => (vecScale_x a1 a2 4294967296 ha1 ha2 (i64_lit (by decide)) w).mono fun e w' h => (⟨ret_V e1 h.1, h.2⟩ : e = .returned (.agg #[.int .i64 a1, .int .i64 a2]) ∧ Bw w w'))
  have C2 := Lib.hid (fun w => (vecShare_x a1 a2 1 ha1 ha2 (i64_lit (by decide)) w).mono fun e w' h => (⟨ret_V e2 h.1, h.2⟩ : e = .returned (.agg #[.int .i64 a1, .int .i64 a2]) ∧ Bw w w'))
  clear e1 e2
  have q0_a_0 := h_a.c 0 _ rfl
  have q0_a_1 := h_a.c 1 _ rfl
  have f0_a := h_a.2.2; have L0_a := h_a.lt
  have HV0_a := Lib.hid h_a
  have q0_o_0 := h_o.c 0 _ rfl
  have q0_o_1 := h_o.c 1 _ rfl
  have f0_o := h_o.2.2; have L0_o := h_o.lt
  have HV0_o := Lib.hid h_o
  have q0_p_0 := h_p.c 0 _ rfl
  have q0_p_1 := h_p.c 1 _ rfl
  have f0_p := h_p.2.2; have L0_p := h_p.lt
  have HV0_p := Lib.hid h_p
  have HG0 := Lib.hid (Below.refl w.heap.size w); have TS0 : w.heap.size = w.heap.size := rfl
  go_enter Try.func107, Try.ntmps107
  go_wp2_with fail
  (with_reducible refine (C1.out _).mono ?_); rintro en w1 ⟨rfl, hb⟩
  obtain ⟨T1, hT1⟩ : ∃ T, T = M.sets w ([]) := ⟨_, rfl⟩
  have TS1 : T1.heap.size = w.heap.size := by rw [hT1, M.sets_size]
  have G1 : Below w.heap.size T1 w1 := by rw [hT1]; exact Below.trans (by (try simp only [M.sets_append]); (try simp only [M.usV, M.usI, M.usHt, M.usB, M.usBd, M.usBx, M.fstX, M.sndX, M.sets]); (repeat (first | (with_reducible exact HG0.out) | (with_reducible refine M.Below.drewN ?_ _) | (with_reducible refine M.below_setCell_both ?_ _ (by assumption) _) | (with_reducible refine Below.alloc ?_ (by go_size) _) | (with_reducible refine Below.setCell ?_ (by dsimp only; go_size) _) | fail))) (hb.mono (by go_size))
  have S1 : w.heap.size ≤ w1.heap.size := by have := G1.size; omega
  have V1_a : M.Var w1 (p_a) #[.int .i64 a1, .int .i64 a2] := M.Var.mono (b := p_a) (cs := #[.int .i64 a1, .int .i64 a2]) (by (repeat (first | (with_reducible assumption) | (with_reducible apply M.var_setV) | (with_reducible apply M.var_setI) | (with_reducible apply M.var_setB) | (with_reducible apply M.var_setHt) | (with_reducible apply M.var_setBd) | (with_reducible apply M.var_set2) | (with_reducible apply M.var_set3) | (with_reducible apply M.var_set4) | (with_reducible apply M.var_set45) | (with_reducible apply M.var_set67) | (with_reducible apply M.var_setF) | (with_reducible refine M.var_alloc' _ _ _ ?_; first | rfl | (focus (simp [go_sem]; done))) | (with_reducible refine M.Var.alloc ?_ _) | (with_reducible refine M.Var.drewN ?_ _) | (with_reducible refine M.Var.drew ?_) | (with_reducible refine M.Var.far ?_ _ _ ?hFar; case hFar => (first | omega | ((try simp [go_sem]) <;> omega))) | fail))) hb
  have V1_o : M.Var w1 (p_o) #[.int .i64 0, .int .i64 0] := M.Var.mono (b := p_o) (cs := #[.int .i64 0, .int .i64 0]) (by (repeat (first | (with_reducible assumption) | (with_reducible apply M.var_setV) | (with_reducible apply M.var_setI) | (with_reducible apply M.var_setB) | (with_reducible apply M.var_setHt) | (with_reducible apply M.var_setBd) | (with_reducible apply M.var_set2) | (with_reducible apply M.var_set3) | (with_reducible apply M.var_set4) | (with_reducible apply M.var_set45) | (with_reducible apply M.var_set67) | (with_reducible apply M.var_setF) | (with_reducible refine M.var_alloc' _ _ _ ?_; first | rfl | (focus (simp [go_sem]; done))) | (with_reducible refine M.Var.alloc ?_ _) | (with_reducible refine M.Var.drewN ?_ _) | (with_reducible refine M.Var.drew ?_) | (with_reducible refine M.Var.far ?_ _ _ ?hFar; case hFar => (first | omega | ((try simp [go_sem]) <;> omega))) | fail))) hb
  have V1_p : M.Var w1 (p_p) #[.int .i64 0, .int .i64 0] := M.Var.mono (b := p_p) (cs := #[.int .i64 0, .int .i64 0]) (by (repeat (first | (with_reducible assumption) | (with_reducible apply M.var_setV) | (with_reducible apply M.var_setI) | (with_reducible apply M.var_setB) | (with_reducible apply M.var_setHt) | (with_reducible apply M.var_setBd) | (with_reducible apply M.var_set2) | (with_reducible apply M.var_set3) | (with_reducible apply M.var_set4) | (with_reducible apply M.var_set45) | (with_reducible apply M.var_set67) | (with_reducible apply M.var_setF) | (with_reducible refine M.var_alloc' _ _ _ ?_; first | rfl | (focus (simp [go_sem]; done))) | (with_reducible refine M.Var.alloc ?_ _) | (with_reducible refine M.Var.drewN ?_ _) | (with_reducible refine M.Var.drew ?_) | (with_reducible refine M.Var.far ?_ _ _ ?hFar; case hFar => (first | omega | ((try simp [go_sem]) <;> omega))) | fail))) hb
  have q1_a_0 := V1_a.c 0 _ rfl
  have q1_a_1 := V1_a.c 1 _ rfl
  have f1_a := V1_a.2.2; have L1_a := V1_a.lt
  have HV1_a := Lib.hid V1_a
  have q1_o_0 := V1_o.c 0 _ rfl
  have q1_o_1 := V1_o.c 1 _ rfl
  have f1_o := V1_o.2.2; have L1_o := V1_o.lt
  have HV1_o := Lib.hid V1_o
  have q1_p_0 := V1_p.c 0 _ rfl
  have q1_p_1 := V1_p.c 1 _ rfl
  have f1_p := V1_p.2.2; have L1_p := V1_p.lt
  have HV1_p := Lib.hid V1_p
  have HG1 := Lib.hid G1; clear hb G1
  go_wp2_with fail
  (with_reducible refine (C2.out _).mono ?_); rintro en w2 ⟨rfl, hb⟩
  obtain ⟨T2, hT2⟩ : ∃ T, T = M.sets T1 (usV p_o (.ok (a1, a2))) := ⟨_, rfl⟩
  have TS2 : T2.heap.size = w.heap.size := by rw [hT2, M.sets_size]; exact TS1
  have G2 : Below w.heap.size T2 w2 := by rw [hT2]; exact Below.trans (by (try simp only [M.sets_append]); (try simp only [M.usV, M.usI, M.usHt, M.usB, M.usBd, M.usBx, M.fstX, M.sndX, M.sets]); (repeat (first | (with_reducible exact HG1.out) | (with_reducible refine M.Below.drewN ?_ _) | (with_reducible refine M.below_setCell_both ?_ _ (by assumption) _) | (with_reducible refine Below.alloc ?_ (by go_size) _) | (with_reducible refine Below.setCell ?_ (by dsimp only; go_size) _) | fail))) (hb.mono (by go_size))
  have S2 : w.heap.size ≤ w2.heap.size := by have := G2.size; omega
  have V2_a : M.Var w2 (p_a) #[.int .i64 a1, .int .i64 a2] := M.Var.mono (b := p_a) (cs := #[.int .i64 a1, .int .i64 a2]) (by (repeat (first | (with_reducible assumption) | (with_reducible apply M.var_setV) | (with_reducible apply M.var_setI) | (with_reducible apply M.var_setB) | (with_reducible apply M.var_setHt) | (with_reducible apply M.var_setBd) | (with_reducible apply M.var_set2) | (with_reducible apply M.var_set3) | (with_reducible apply M.var_set4) | (with_reducible apply M.var_set45) | (with_reducible apply M.var_set67) | (with_reducible apply M.var_setF) | (with_reducible refine M.var_alloc' _ _ _ ?_; first | rfl | (focus (simp [go_sem]; done))) | (with_reducible refine M.Var.alloc ?_ _) | (with_reducible refine M.Var.drewN ?_ _) | (with_reducible refine M.Var.drew ?_) | (with_reducible refine M.Var.far ?_ _ _ ?hFar; case hFar => (first | omega | ((try simp [go_sem]) <;> omega))) | fail))) hb
  have V2_o : M.Var w2 (p_o) #[.int .i64 a1, .int .i64 a2] := M.Var.mono (b := p_o) (cs := #[.int .i64 a1, .int .i64 a2]) (by (repeat (first | (with_reducible assumption) | (with_reducible apply M.var_setV) | (with_reducible apply M.var_setI) | (with_reducible apply M.var_setB) | (with_reducible apply M.var_setHt) | (with_reducible apply M.var_setBd) | (with_reducible apply M.var_set2) | (with_reducible apply M.var_set3) | (with_reducible apply M.var_set4) | (with_reducible apply M.var_set45) | (with_reducible apply M.var_set67) | (with_reducible apply M.var_setF) | (with_reducible refine M.var_alloc' _ _ _ ?_; first | rfl | (focus (simp [go_sem]; done))) | (with_reducible refine M.Var.alloc ?_ _) | (with_reducible refine M.Var.drewN ?_ _) | (with_reducible refine M.Var.drew ?_) | (with_reducible refine M.Var.far ?_ _ _ ?hFar; case hFar => (first | omega | ((try simp [go_sem]) <;> omega))) | fail))) hb
  have V2_p : M.Var w2 (p_p) #[.int .i64 0, .int .i64 0] := M.Var.mono (b := p_p) (cs := #[.int .i64 0, .int .i64 0]) (by (repeat (first | (with_reducible assumption) | (with_reducible apply M.var_setV) | (with_reducible apply M.var_setI) | (with_reducible apply M.var_setB) | (with_reducible apply M.var_setHt) | (with_reducible apply M.var_setBd) | (with_reducible apply M.var_set2) | (with_reducible apply M.var_set3) | (with_reducible apply M.var_set4) | (with_reducible apply M.var_set45) | (with_reducible apply M.var_set67) | (with_reducible apply M.var_setF) | (with_reducible refine M.var_alloc' _ _ _ ?_; first | rfl | (focus (simp [go_sem]; done))) | (with_reducible refine M.Var.alloc ?_ _) | (with_reducible refine M.Var.drewN ?_ _) | (with_reducible refine M.Var.drew ?_) | (with_reducible refine M.Var.far ?_ _ _ ?hFar; case hFar => (first | omega | ((try simp [go_sem]) <;> omega))) | fail))) hb
  have q2_a_0 := V2_a.c 0 _ rfl
  have q2_a_1 := V2_a.c 1 _ rfl
  have f2_a := V2_a.2.2; have L2_a := V2_a.lt
  have HV2_a := Lib.hid V2_a
  have q2_o_0 := V2_o.c 0 _ rfl
  have q2_o_1 := V2_o.c 1 _ rfl
  have f2_o := V2_o.2.2; have L2_o := V2_o.lt
  have HV2_o := Lib.hid V2_o
  have q2_p_0 := V2_p.c 0 _ rfl
  have q2_p_1 := V2_p.c 1 _ rfl
  have f2_p := V2_p.2.2; have L2_p := V2_p.lt
  have HV2_p := Lib.hid V2_p
  have HG2 := Lib.hid G2; clear hb G2
  go_wp2_with fail
  refine bodyPost_end (v := .tuple #[]) (by first | rfl | kernel_rfl | simp [results, go_sem]) rfl ⟨rfl, ?_⟩
  suffices GE : ∀ W', Below w.heap.size (M.sets T2 (usV p_p (.ok (a1, a2)))) W' → Below w.heap.size (M.sets w _) W' from GE _ (by (try simp only [M.sets_append]); (try simp only [M.usV, M.usI, M.usHt, M.usB, M.usBd, M.usBx, M.fstX, M.sndX, M.sets]); (repeat (first | (with_reducible exact HG2.out) | (with_reducible refine M.Below.drewN ?_ _) | (with_reducible refine M.below_setCell_both ?_ _ (by assumption) _) | (with_reducible refine Below.alloc ?_ (by go_size) _) | (with_reducible refine Below.setCell ?_ (by dsimp only; go_size) _) | fail)))
  intro W' GE; subst hT2; subst hT1; (try simp only [M.sets_append]); (try simp only [M.sets_append] at GE); exact GE
theorem cloSums3 (p_a : Nat) (a1 a2 : Int) (ha1 : I64 a1) (ha2 : I64 a2) (w : World) (h_a : Var w p_a #[.int .i64 a1, .int .i64 a2]) :
    Calls Try.prog 109 #[.pointer (some ⟨p_a, 0, none⟩)] w fun e w' => e = outU 4 ∧ Below w.heap.size (sets w []) w' := by
  have C1 := Lib.hid (fun w => (vecShare_x a1 a2 0 ha1 ha2 (i64_lit (by decide)) w).mono fun e w' h => (⟨err_V (share_by_0 _) h.1, h.2⟩ : ((4 : Int) ≠ 0 ∧ e = panics 4) ∧ Bw w w'))
  have q0_a_0 := h_a.c 0 _ rfl
  have q0_a_1 := h_a.c 1 _ rfl
  have f0_a := h_a.2.2; have L0_a := h_a.lt
  have HV0_a := Lib.hid h_a
  have HG0 := Lib.hid (Below.refl w.heap.size w); have TS0 : w.heap.size = w.heap.size := rfl
  go_enter Try.func109, Try.ntmps109
  go_wp2_with fail
  (with_reducible refine (C1.out _).mono ?_); rintro en w1 ⟨⟨hz, rfl⟩, hb⟩
  exact ⟨rfl, (outU_n hz).symm, hb⟩
end Go.Proofs.Ytaagpkacningdaa
