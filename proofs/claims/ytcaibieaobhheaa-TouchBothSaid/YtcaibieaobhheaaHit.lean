/- What touch.Hit computes. -/
import Derived.Test.YtcaibieaobhheaaHit2
namespace Go.Proofs.Ytcaibieaobhheaa
open Go.RowKit M
set_option maxRecDepth 100000
set_option maxHeartbeats 4000000
set_option linter.unusedVariables false
set_option linter.unusedSimpArgs false
attribute [local go_sem ↓] Go.wp_at_zero Go.wp_at_succ
theorem hit_x (a b : Bd) (ha : a.ok) (hb : b.ok) (w : World) :
    Calls Try.prog 19 #[.agg #[.int .i64 a.shape, .int .i64 a.sx, .int .i64 a.sy, .int .i64 a.mass, .int .i64 a.px, .int .i64 a.py, .int .i64 a.mx, .int .i64 a.my], .agg #[.int .i64 b.shape, .int .i64 b.sx, .int .i64 b.sy, .int .i64 b.mass, .int .i64 b.px, .int .i64 b.py, .int .i64 b.mx, .int .i64 b.my]] w fun en w' => OutHb (hitX a b) en ∧ Bw w w' := by
  have C1 := Lib.hid (balls_x a b ha hb)
  have C2 := Lib.hid (crates_x a b ha hb)
  have C3 := Lib.hid (both_x a b ha hb)
  have C4 := Lib.hid (both_x b a hb ha)
  have C5 := Lib.hid flip_x
  have z : I64 0 := by unfold I64; omega
  by_cases a1 : a.shape = 1
  · have A1 := beq_iff_eq.2 a1
    have A2 : (a.shape == 2) = false := beq_eq_false_iff_ne.2 (by omega)
    by_cases b1 : b.shape = 1
    · have B1 := beq_iff_eq.2 b1
      have E := Lib.hid (show hitX a b = ballsX a b by unfold hitX; rw [if_pos ⟨a1, b1⟩])
      clear a1 b1
      go_enter Try.func19, Try.ntmps19
      go_wp2_with (with_reducible refine M.stopPost ?_)
      (with_reducible refine (C1.out _).mono ?_); rintro en w1 ⟨ho, hb⟩
      have G1 : Below w.heap.size w w1 := Below.trans (by (repeat (with_reducible refine M.Below.drewN ?_ _)); go_grown) (hb.mono (by go_size))
      have V1_r : M.Var w1 (w.heap.size + 1 + 1) #[.int .i64 0, .int .i64 0, .int .i64 0] := M.Var.mono (b := w.heap.size + 1 + 1) (cs := #[.int .i64 0, .int .i64 0, .int .i64 0]) (by (repeat (first | (with_reducible assumption) | (with_reducible apply M.var_setV) | (with_reducible apply M.var_setI) | (with_reducible apply M.var_setB) | (with_reducible apply M.var_setHt) | (with_reducible apply M.var_setBd) | (with_reducible apply M.var_set2) | (with_reducible apply M.var_set3) | (with_reducible apply M.var_set4) | (with_reducible apply M.var_set45) | (with_reducible apply M.var_set67) | (with_reducible apply M.var_setF) | (with_reducible refine M.var_alloc' _ _ _ ?_; first | rfl | (focus (simp [go_sem]; done))) | (with_reducible refine M.Var.alloc ?_ _) | (with_reducible refine M.Var.drewN ?_ _) | (with_reducible refine M.Var.drew ?_) | (with_reducible refine M.Var.far ?_ _ _ ?hFar; case hFar => (first | omega | ((try simp [go_sem]) <;> omega))) | fail))) hb
      have q1_r_0 : w1.cell? ⟨w.heap.size + 1 + 1, 0, none⟩ = some (.int .i64 0) := V1_r.c 0 _ rfl
      have q1_r_1 : w1.cell? ⟨w.heap.size + 1 + 1, 1, none⟩ = some (.int .i64 0) := V1_r.c 1 _ rfl
      have q1_r_2 : w1.cell? ⟨w.heap.size + 1 + 1, 2, none⟩ = some (.int .i64 0) := V1_r.c 2 _ rfl
      have f1_r := V1_r.2.2
      have L1_r := V1_r.lt
      have N1_r := Nat.ne_of_gt L1_r
      have M1_r := Nat.ne_of_lt L1_r
      have S1 := G1.size
      have HG1 := Lib.hid G1; clear G1 hb
      rcases ho with ⟨n1, hn1, hz1, rfl⟩ | ⟨q, t, hq, iq, rfl⟩
      · exact ⟨rfl, .inl ⟨n1, by simp only [E.out, hn1, andThen_ok, andThen_err], hz1, rfl⟩, HG1.out⟩
      have Hhq := Lib.hid hq; clear hq
      go_wp2_with (with_reducible refine M.stopPost ?_)
      all_goals (try refine M.Stop.mk ?_)
      all_goals refine bodyPost_ret (v := .tuple #[.agg #[.int .i64 q.nx, .int .i64 q.ny, .int .i64 q.d], .bool t]) (by first | (simp [results, Try.results19, go_sem, q1_r_0, q1_r_1, q1_r_2, f1_r, L1_r, N1_r, M1_r]; done) | (simp [results, Try.results19, go_sem, *]; done)) rfl ⟨.inr ⟨q, t, by simp only [E.out, Hhq.out, andThen_ok, andThen_err], iq, rfl⟩, by have G := HG1.out; (repeat (with_reducible refine M.Below.drewN ?_ _)); go_grown⟩
    · have B1 := beq_eq_false_iff_ne.2 b1
      by_cases b2 : b.shape = 2
      · have B2 := beq_iff_eq.2 b2
        have E := Lib.hid (show hitX a b = bothX a b by unfold hitX; rw [if_neg (by omega), if_neg (by omega), if_pos ⟨a1, b2⟩])
        clear a1 b1 b2
        go_enter Try.func19, Try.ntmps19
        go_wp2_with (with_reducible refine M.stopPost ?_)
        (with_reducible refine (C3.out _).mono ?_); rintro en w1 ⟨ho, hb⟩
        have G1 : Below w.heap.size w w1 := Below.trans (by (repeat (with_reducible refine M.Below.drewN ?_ _)); go_grown) (hb.mono (by go_size))
        have V1_r : M.Var w1 (w.heap.size + 1 + 1) #[.int .i64 0, .int .i64 0, .int .i64 0] := M.Var.mono (b := w.heap.size + 1 + 1) (cs := #[.int .i64 0, .int .i64 0, .int .i64 0]) (by (repeat (first | (with_reducible assumption) | (with_reducible apply M.var_setV) | (with_reducible apply M.var_setI) | (with_reducible apply M.var_setB) | (with_reducible apply M.var_setHt) | (with_reducible apply M.var_setBd) | (with_reducible apply M.var_set2) | (with_reducible apply M.var_set3) | (with_reducible apply M.var_set4) | (with_reducible apply M.var_set45) | (with_reducible apply M.var_set67) | (with_reducible apply M.var_setF) | (with_reducible refine M.var_alloc' _ _ _ ?_; first | rfl | (focus (simp [go_sem]; done))) | (with_reducible refine M.Var.alloc ?_ _) | (with_reducible refine M.Var.drewN ?_ _) | (with_reducible refine M.Var.drew ?_) | (with_reducible refine M.Var.far ?_ _ _ ?hFar; case hFar => (first | omega | ((try simp [go_sem]) <;> omega))) | fail))) hb
        have q1_r_0 : w1.cell? ⟨w.heap.size + 1 + 1, 0, none⟩ = some (.int .i64 0) := V1_r.c 0 _ rfl
        have q1_r_1 : w1.cell? ⟨w.heap.size + 1 + 1, 1, none⟩ = some (.int .i64 0) := V1_r.c 1 _ rfl
        have q1_r_2 : w1.cell? ⟨w.heap.size + 1 + 1, 2, none⟩ = some (.int .i64 0) := V1_r.c 2 _ rfl
        have f1_r := V1_r.2.2
        have L1_r := V1_r.lt
        have N1_r := Nat.ne_of_gt L1_r
        have M1_r := Nat.ne_of_lt L1_r
        have S1 := G1.size
        have HG1 := Lib.hid G1; clear G1 hb
        rcases ho with ⟨n1, hn1, hz1, rfl⟩ | ⟨q, t, hq, iq, rfl⟩
        · exact ⟨rfl, .inl ⟨n1, by simp only [E.out, hn1, andThen_ok, andThen_err], hz1, rfl⟩, HG1.out⟩
        have Hhq := Lib.hid hq; clear hq
        go_wp2_with (with_reducible refine M.stopPost ?_)
        all_goals (try refine M.Stop.mk ?_)
        all_goals refine bodyPost_ret (v := .tuple #[.agg #[.int .i64 q.nx, .int .i64 q.ny, .int .i64 q.d], .bool t]) (by first | (simp [results, Try.results19, go_sem, q1_r_0, q1_r_1, q1_r_2, f1_r, L1_r, N1_r, M1_r]; done) | (simp [results, Try.results19, go_sem, *]; done)) rfl ⟨.inr ⟨q, t, by simp only [E.out, Hhq.out, andThen_ok, andThen_err], iq, rfl⟩, by have G := HG1.out; (repeat (with_reducible refine M.Below.drewN ?_ _)); go_grown⟩
      · have B2 := beq_eq_false_iff_ne.2 b2
        have E := Lib.hid (show hitX a b = .ok (⟨0, 0, 0⟩, false) by unfold hitX; rw [if_neg (by omega), if_neg (by omega), if_neg (by omega), if_neg (by omega)])
        clear a1 b1 b2
        go_enter Try.func19, Try.ntmps19
        go_wp2_with (with_reducible refine M.stopPost ?_)
        all_goals (try refine M.Stop.mk ?_)
        all_goals refine bodyPost_ret (v := .tuple #[.agg #[.int .i64 0, .int .i64 0, .int .i64 0], .bool false]) (by first | (simp [results, Try.results19, go_sem]; done) | (simp [results, Try.results19, go_sem, *]; done)) rfl ⟨.inr ⟨⟨0, 0, 0⟩, false, by simp only [E.out, andThen_ok, andThen_err], ⟨z, z, z⟩, rfl⟩, by (repeat (with_reducible refine M.Below.drewN ?_ _)); go_grown⟩
  · have A1 := beq_eq_false_iff_ne.2 a1
    by_cases a2 : a.shape = 2
    · have A2 := beq_iff_eq.2 a2
      by_cases b2 : b.shape = 2
      · have B2 := beq_iff_eq.2 b2
        have E := Lib.hid (show hitX a b = cratesX a b by unfold hitX; rw [if_neg (by omega), if_pos ⟨a2, b2⟩])
        clear a1 a2 b2
        go_enter Try.func19, Try.ntmps19
        go_wp2_with (with_reducible refine M.stopPost ?_)
        (with_reducible refine (C2.out _).mono ?_); rintro en w1 ⟨ho, hb⟩
        have G1 : Below w.heap.size w w1 := Below.trans (by (repeat (with_reducible refine M.Below.drewN ?_ _)); go_grown) (hb.mono (by go_size))
        have V1_r : M.Var w1 (w.heap.size + 1 + 1) #[.int .i64 0, .int .i64 0, .int .i64 0] := M.Var.mono (b := w.heap.size + 1 + 1) (cs := #[.int .i64 0, .int .i64 0, .int .i64 0]) (by (repeat (first | (with_reducible assumption) | (with_reducible apply M.var_setV) | (with_reducible apply M.var_setI) | (with_reducible apply M.var_setB) | (with_reducible apply M.var_setHt) | (with_reducible apply M.var_setBd) | (with_reducible apply M.var_set2) | (with_reducible apply M.var_set3) | (with_reducible apply M.var_set4) | (with_reducible apply M.var_set45) | (with_reducible apply M.var_set67) | (with_reducible apply M.var_setF) | (with_reducible refine M.var_alloc' _ _ _ ?_; first | rfl | (focus (simp [go_sem]; done))) | (with_reducible refine M.Var.alloc ?_ _) | (with_reducible refine M.Var.drewN ?_ _) | (with_reducible refine M.Var.drew ?_) | (with_reducible refine M.Var.far ?_ _ _ ?hFar; case hFar => (first | omega | ((try simp [go_sem]) <;> omega))) | fail))) hb
        have q1_r_0 : w1.cell? ⟨w.heap.size + 1 + 1, 0, none⟩ = some (.int .i64 0) := V1_r.c 0 _ rfl
        have q1_r_1 : w1.cell? ⟨w.heap.size + 1 + 1, 1, none⟩ = some (.int .i64 0) := V1_r.c 1 _ rfl
        have q1_r_2 : w1.cell? ⟨w.heap.size + 1 + 1, 2, none⟩ = some (.int .i64 0) := V1_r.c 2 _ rfl
        have f1_r := V1_r.2.2
        have L1_r := V1_r.lt
        have N1_r := Nat.ne_of_gt L1_r
        have M1_r := Nat.ne_of_lt L1_r
        have S1 := G1.size
        have HG1 := Lib.hid G1; clear G1 hb
        rcases ho with ⟨n1, hn1, hz1, rfl⟩ | ⟨q, t, hq, iq, rfl⟩
        · exact ⟨rfl, .inl ⟨n1, by simp only [E.out, hn1, andThen_ok, andThen_err], hz1, rfl⟩, HG1.out⟩
        have Hhq := Lib.hid hq; clear hq
        go_wp2_with (with_reducible refine M.stopPost ?_)
        all_goals (try refine M.Stop.mk ?_)
        all_goals refine bodyPost_ret (v := .tuple #[.agg #[.int .i64 q.nx, .int .i64 q.ny, .int .i64 q.d], .bool t]) (by first | (simp [results, Try.results19, go_sem, q1_r_0, q1_r_1, q1_r_2, f1_r, L1_r, N1_r, M1_r]; done) | (simp [results, Try.results19, go_sem, *]; done)) rfl ⟨.inr ⟨q, t, by simp only [E.out, Hhq.out, andThen_ok, andThen_err], iq, rfl⟩, by have G := HG1.out; (repeat (with_reducible refine M.Below.drewN ?_ _)); go_grown⟩
      · have B2 := beq_eq_false_iff_ne.2 b2
        by_cases b1 : b.shape = 1
        · have B1 := beq_iff_eq.2 b1
          have E := Lib.hid (show hitX a b = andThen (bothX b a) fun h => andThen (flipX h.1) fun f => .ok (f, h.2) by unfold hitX; rw [if_neg (by omega), if_neg (by omega), if_neg (by omega), if_pos ⟨a2, b1⟩])
          clear a1 a2 b1 b2
          go_enter Try.func19, Try.ntmps19
          go_wp2_with (with_reducible refine M.stopPost ?_)
          (with_reducible refine (C4.out _).mono ?_); rintro en w1 ⟨ho, hb⟩
          have G1 : Below w.heap.size w w1 := Below.trans (by (repeat (with_reducible refine M.Below.drewN ?_ _)); go_grown) (hb.mono (by go_size))
          have V1_r : M.Var w1 (w.heap.size + 1 + 1) #[.int .i64 0, .int .i64 0, .int .i64 0] := M.Var.mono (b := w.heap.size + 1 + 1) (cs := #[.int .i64 0, .int .i64 0, .int .i64 0]) (by (repeat (first | (with_reducible assumption) | (with_reducible apply M.var_setV) | (with_reducible apply M.var_setI) | (with_reducible apply M.var_setB) | (with_reducible apply M.var_setHt) | (with_reducible apply M.var_setBd) | (with_reducible apply M.var_set2) | (with_reducible apply M.var_set3) | (with_reducible apply M.var_set4) | (with_reducible apply M.var_set45) | (with_reducible apply M.var_set67) | (with_reducible apply M.var_setF) | (with_reducible refine M.var_alloc' _ _ _ ?_; first | rfl | (focus (simp [go_sem]; done))) | (with_reducible refine M.Var.alloc ?_ _) | (with_reducible refine M.Var.drewN ?_ _) | (with_reducible refine M.Var.drew ?_) | (with_reducible refine M.Var.far ?_ _ _ ?hFar; case hFar => (first | omega | ((try simp [go_sem]) <;> omega))) | fail))) hb
          have q1_r_0 : w1.cell? ⟨w.heap.size + 1 + 1, 0, none⟩ = some (.int .i64 0) := V1_r.c 0 _ rfl
          have q1_r_1 : w1.cell? ⟨w.heap.size + 1 + 1, 1, none⟩ = some (.int .i64 0) := V1_r.c 1 _ rfl
          have q1_r_2 : w1.cell? ⟨w.heap.size + 1 + 1, 2, none⟩ = some (.int .i64 0) := V1_r.c 2 _ rfl
          have f1_r := V1_r.2.2
          have L1_r := V1_r.lt
          have N1_r := Nat.ne_of_gt L1_r
          have M1_r := Nat.ne_of_lt L1_r
          have S1 := G1.size
          have HG1 := Lib.hid G1; clear G1 hb
          rcases ho with ⟨n1, hn1, hz1, rfl⟩ | ⟨q, t, hq, iq, rfl⟩
          · exact ⟨rfl, .inl ⟨n1, by simp only [E.out, hn1, andThen_ok, andThen_err], hz1, rfl⟩, HG1.out⟩
          have Hhq := Lib.hid hq; clear hq
          go_wp2_with (with_reducible refine M.stopPost ?_)
          (with_reducible refine ((C5.out _ iq) _).mono ?_); rintro en w2 ⟨ho, hb⟩
          have G2 : Below w.heap.size w w2 := Below.trans (by have G := HG1.out; (repeat (with_reducible refine M.Below.drewN ?_ _)); go_grown) (hb.mono (by go_size))
          have V2_r : M.Var w2 (w.heap.size + 1 + 1) #[.int .i64 0, .int .i64 0, .int .i64 0] := M.Var.mono (b := w.heap.size + 1 + 1) (cs := #[.int .i64 0, .int .i64 0, .int .i64 0]) (by (repeat (first | (with_reducible assumption) | (with_reducible apply M.var_setV) | (with_reducible apply M.var_setI) | (with_reducible apply M.var_setB) | (with_reducible apply M.var_setHt) | (with_reducible apply M.var_setBd) | (with_reducible apply M.var_set2) | (with_reducible apply M.var_set3) | (with_reducible apply M.var_set4) | (with_reducible apply M.var_set45) | (with_reducible apply M.var_set67) | (with_reducible apply M.var_setF) | (with_reducible refine M.var_alloc' _ _ _ ?_; first | rfl | (focus (simp [go_sem]; done))) | (with_reducible refine M.Var.alloc ?_ _) | (with_reducible refine M.Var.drewN ?_ _) | (with_reducible refine M.Var.drew ?_) | (with_reducible refine M.Var.far ?_ _ _ ?hFar; case hFar => (first | omega | ((try simp [go_sem]) <;> omega))) | fail))) hb
          have q2_r_0 : w2.cell? ⟨w.heap.size + 1 + 1, 0, none⟩ = some (.int .i64 0) := V2_r.c 0 _ rfl
          have q2_r_1 : w2.cell? ⟨w.heap.size + 1 + 1, 1, none⟩ = some (.int .i64 0) := V2_r.c 1 _ rfl
          have q2_r_2 : w2.cell? ⟨w.heap.size + 1 + 1, 2, none⟩ = some (.int .i64 0) := V2_r.c 2 _ rfl
          have f2_r := V2_r.2.2
          have L2_r := V2_r.lt
          have N2_r := Nat.ne_of_gt L2_r
          have M2_r := Nat.ne_of_lt L2_r
          have V2_h : M.Var w2 (w1.heap.size) #[.int .i64 q.nx, .int .i64 q.ny, .int .i64 q.d] := M.Var.mono (b := w1.heap.size) (cs := #[.int .i64 q.nx, .int .i64 q.ny, .int .i64 q.d]) (by (repeat (first | (with_reducible assumption) | (with_reducible apply M.var_setV) | (with_reducible apply M.var_setI) | (with_reducible apply M.var_setB) | (with_reducible apply M.var_setHt) | (with_reducible apply M.var_setBd) | (with_reducible apply M.var_set2) | (with_reducible apply M.var_set3) | (with_reducible apply M.var_set4) | (with_reducible apply M.var_set45) | (with_reducible apply M.var_set67) | (with_reducible apply M.var_setF) | (with_reducible refine M.var_alloc' _ _ _ ?_; first | rfl | (focus (simp [go_sem]; done))) | (with_reducible refine M.Var.alloc ?_ _) | (with_reducible refine M.Var.drewN ?_ _) | (with_reducible refine M.Var.drew ?_) | (with_reducible refine M.Var.far ?_ _ _ ?hFar; case hFar => (first | omega | ((try simp [go_sem]) <;> omega))) | fail))) hb
          have q2_h_0 : w2.cell? ⟨w1.heap.size, 0, none⟩ = some (.int .i64 q.nx) := V2_h.c 0 _ rfl
          have q2_h_1 : w2.cell? ⟨w1.heap.size, 1, none⟩ = some (.int .i64 q.ny) := V2_h.c 1 _ rfl
          have q2_h_2 : w2.cell? ⟨w1.heap.size, 2, none⟩ = some (.int .i64 q.d) := V2_h.c 2 _ rfl
          have f2_h := V2_h.2.2
          have L2_h := V2_h.lt
          have N2_h := Nat.ne_of_gt L2_h
          have M2_h := Nat.ne_of_lt L2_h
          clear V1_r f1_r q1_r_0 q1_r_1 q1_r_2
          have S2 := G2.size
          have HG2 := Lib.hid G2; clear G2 hb
          rcases ho with ⟨n2, hn2, hz2, rfl⟩ | ⟨f, hf, i1, rfl⟩
          · exact ⟨rfl, .inl ⟨n2, by simp only [E.out, Hhq.out, hn2, andThen_ok, andThen_err], hz2, rfl⟩, HG2.out⟩
          have Hhf := Lib.hid hf; clear hf
          go_wp2_with (with_reducible refine M.stopPost ?_)
          all_goals (try refine M.Stop.mk ?_)
          all_goals refine bodyPost_ret (v := .tuple #[.agg #[.int .i64 f.nx, .int .i64 f.ny, .int .i64 f.d], .bool t]) (by first | (simp [results, Try.results19, go_sem, q2_r_0, q2_r_1, q2_r_2, f2_r, L2_r, N2_r, M2_r]; done) | (simp [results, Try.results19, go_sem, *]; done)) rfl ⟨.inr ⟨f, t, by simp only [E.out, Hhq.out, Hhf.out, andThen_ok, andThen_err], i1, rfl⟩, by have G := HG2.out; (repeat (with_reducible refine M.Below.drewN ?_ _)); go_grown⟩
        · have B1 := beq_eq_false_iff_ne.2 b1
          have E := Lib.hid (show hitX a b = .ok (⟨0, 0, 0⟩, false) by unfold hitX; rw [if_neg (by omega), if_neg (by omega), if_neg (by omega), if_neg (by omega)])
          clear a1 a2 b1 b2
          go_enter Try.func19, Try.ntmps19
          go_wp2_with (with_reducible refine M.stopPost ?_)
          all_goals (try refine M.Stop.mk ?_)
          all_goals refine bodyPost_ret (v := .tuple #[.agg #[.int .i64 0, .int .i64 0, .int .i64 0], .bool false]) (by first | (simp [results, Try.results19, go_sem]; done) | (simp [results, Try.results19, go_sem, *]; done)) rfl ⟨.inr ⟨⟨0, 0, 0⟩, false, by simp only [E.out, andThen_ok, andThen_err], ⟨z, z, z⟩, rfl⟩, by (repeat (with_reducible refine M.Below.drewN ?_ _)); go_grown⟩
    · have A2 := beq_eq_false_iff_ne.2 a2
      have E := Lib.hid (show hitX a b = .ok (⟨0, 0, 0⟩, false) by unfold hitX; rw [if_neg (by omega), if_neg (by omega), if_neg (by omega), if_neg (by omega)])
      clear a1 a2
      go_enter Try.func19, Try.ntmps19
      go_wp2_with (with_reducible refine M.stopPost ?_)
      all_goals (try refine M.Stop.mk ?_)
      all_goals refine bodyPost_ret (v := .tuple #[.agg #[.int .i64 0, .int .i64 0, .int .i64 0], .bool false]) (by first | (simp [results, Try.results19, go_sem]; done) | (simp [results, Try.results19, go_sem, *]; done)) rfl ⟨.inr ⟨⟨0, 0, 0⟩, false, by simp only [E.out, andThen_ok, andThen_err], ⟨z, z, z⟩, rfl⟩, by (repeat (with_reducible refine M.Below.drewN ?_ _)); go_grown⟩
end Go.Proofs.Ytcaibieaobhheaa
