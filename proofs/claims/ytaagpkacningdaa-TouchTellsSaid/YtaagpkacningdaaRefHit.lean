/- The contact of two bodies, as the reference reckons it: whole. -/
import Derived.Test.YtaagpkacningdaaRefHit3
namespace Go.Proofs.Ytaagpkacningdaa
open Go.RowKit M
set_option maxRecDepth 100000
set_option maxHeartbeats 4000000
set_option linter.unusedVariables false
set_option linter.unusedSimpArgs false
attribute [local go_sem ↓] Go.wp_at_zero Go.wp_at_succ
theorem refHit_x (pb : Nat) (e : Int) (a b : Bd) (ha : a.ok) (hb : b.ok) (w : World) (hp : PCell w pb e) :
    Calls Try.prog 133 #[.pointer (some ⟨pb, 0, none⟩), .agg #[.int .i64 a.shape, .int .i64 a.sx, .int .i64 a.sy, .int .i64 a.mass, .int .i64 a.px, .int .i64 a.py, .int .i64 a.mx, .int .i64 a.my], .agg #[.int .i64 b.shape, .int .i64 b.sx, .int .i64 b.sy, .int .i64 b.mass, .int .i64 b.px, .int .i64 b.py, .int .i64 b.mx, .int .i64 b.my]] w (RelHb pb e (hitX a b) w) := by
  have z : I64 0 := by unfold I64; omega
  have C2 := Lib.hid (fun e => refCrates_x pb e a b ha hb)
  have C5 := Lib.hid (refFlip_x pb)
  by_cases a1 : a.shape = 1
  · have A1 := beq_iff_eq.2 a1
    have A2 : (a.shape == 2) = false := beq_eq_false_iff_ne.2 (by omega)
    by_cases b1 : b.shape = 1
    · rw [show hitX a b = ballsX a b by unfold hitX; rw [if_pos ⟨a1, b1⟩]]
      exact refBalls_x pb e a b ha hb a1 b1 w hp
    · have B1 := beq_eq_false_iff_ne.2 b1
      by_cases b2 : b.shape = 2
      · rw [show hitX a b = bothX a b by unfold hitX; rw [if_neg (by omega), if_neg (by omega), if_pos ⟨a1, b2⟩]]
        exact refBoth_x pb e a b ha hb a1 b2 w hp
      · have B2 := beq_eq_false_iff_ne.2 b2
        have E := Lib.hid (show hitX a b = .ok (⟨0, 0, 0⟩, false) by unfold hitX; rw [if_neg (by omega), if_neg (by omega), if_neg (by omega), if_neg (by omega)])
        clear a1 b1 b2
        have hpb : pb < w.heap.size := hp.1; have c0_pb := hp.2.1; have f0_pb := hp.2.2; have PC0 := hp
        have HG0 := Lib.hid (M.rw_refl hp)
        go_enter Try.func133, Try.ntmps133
        go_wp2_with (with_reducible refine M.stopPost ?_)
        (try refine M.Stop.mk ?_)
        refine bodyPost_ret (v := .tuple #[.agg #[.int .i64 0, .int .i64 0, .int .i64 0], .bool false]) (by first | (simp [results, Try.results133, go_sem]; done) | (simp [results, Try.results133, go_sem, *]; done)) rfl ?_
        (try unfold M.RelHb); (try unfold M.RelBB); (try unfold M.RelI); (try unfold M.RelV); exact ⟨⟨0, 0, 0⟩, false, e, rfl, ⟨z, z, z⟩, (by rw [E.out]; exact rel_ok _ _), by have G := HG0.out; (repeat (with_reducible refine M.Below.drewN ?_ _)); go_grown⟩
  · have A1 := beq_eq_false_iff_ne.2 a1
    by_cases a2 : a.shape = 2
    · have A2 := beq_iff_eq.2 a2
      by_cases b2 : b.shape = 2
      · have B2 := beq_iff_eq.2 b2
        have E := Lib.hid (show hitX a b = cratesX a b by unfold hitX; rw [if_neg (by omega), if_pos ⟨a2, b2⟩])
        clear a1 a2 b2
        have hpb : pb < w.heap.size := hp.1; have c0_pb := hp.2.1; have f0_pb := hp.2.2; have PC0 := hp
        have HG0 := Lib.hid (M.rw_refl hp)
        go_enter Try.func133, Try.ntmps133
        go_wp2_with (with_reducible refine M.stopPost ?_)
        (with_reducible refine (C2.out e _ (by (repeat (first | (with_reducible assumption) | (with_reducible refine M.pcell_alloc ?_ _) | (with_reducible refine M.pcell_drewN ?_ _) | (with_reducible refine M.pcell_drew ?_) | (with_reducible refine M.pcell_far ?_ _ _ ?hFar; case hFar => (first | omega | ((try simp [go_sem]) <;> omega))) | fail)))).mono ?_); rintro en w1 ⟨q, t, e1, rfl, iq, hr, hb⟩
        have G1 : M.RW pb e1 w w1 := M.rw_step (by have G := HG0.out; (repeat (with_reducible refine M.Below.drewN ?_ _)); go_grown) hb hpb
        have S1 : w.heap.size ≤ w1.heap.size := by have := G1.size; rwa [M.setCell_size] at this
        have PC1 : M.PCell w1 pb e1 := M.pcell_behind hb (e := e) (by (repeat (first | (with_reducible assumption) | (with_reducible refine M.pcell_alloc ?_ _) | (with_reducible refine M.pcell_drewN ?_ _) | (with_reducible refine M.pcell_drew ?_) | (with_reducible refine M.pcell_far ?_ _ _ ?hFar; case hFar => (first | omega | ((try simp [go_sem]) <;> omega))) | fail)))
        have V1_r : M.Var w1 (w.heap.size + 1 + 1) #[.int .i64 0, .int .i64 0, .int .i64 0] := M.var_rw (by (repeat (first | (with_reducible assumption) | (with_reducible apply M.var_setV) | (with_reducible apply M.var_setI) | (with_reducible apply M.var_setB) | (with_reducible apply M.var_setHt) | (with_reducible apply M.var_setBd) | (with_reducible apply M.var_set2) | (with_reducible apply M.var_set3) | (with_reducible apply M.var_set4) | (with_reducible apply M.var_set45) | (with_reducible apply M.var_set67) | (with_reducible apply M.var_setF) | (with_reducible refine M.var_alloc' _ _ _ ?_; first | rfl | (focus (simp [go_sem]; done))) | (with_reducible refine M.Var.alloc ?_ _) | (with_reducible refine M.Var.drewN ?_ _) | (with_reducible refine M.Var.drew ?_) | (with_reducible refine M.Var.far ?_ _ _ ?hFar; case hFar => (first | omega | ((try simp [go_sem]) <;> omega))) | fail))) (by omega) hb
        have q1_r_0 : w1.cell? ⟨w.heap.size + 1 + 1, 0, none⟩ = some (.int .i64 0) := V1_r.c 0 _ rfl
        have q1_r_1 : w1.cell? ⟨w.heap.size + 1 + 1, 1, none⟩ = some (.int .i64 0) := V1_r.c 1 _ rfl
        have q1_r_2 : w1.cell? ⟨w.heap.size + 1 + 1, 2, none⟩ = some (.int .i64 0) := V1_r.c 2 _ rfl
        have f1_r := V1_r.2.2
        have L1_r := V1_r.lt
        have N1_r := Nat.ne_of_gt L1_r
        have M1_r := Nat.ne_of_lt L1_r
        have HR1 := Lib.hid hr; clear hr
        have c1_pb := PC1.2.1; have f1_pb := PC1.2.2; have L1_pb := PC1.1; have N1_pb := Nat.ne_of_gt L1_pb; have M1_pb := Nat.ne_of_lt L1_pb
        have HG1 := Lib.hid G1; clear G1 hb
        go_wp2_with (with_reducible refine M.stopPost ?_)
        (try refine M.Stop.mk ?_)
        refine bodyPost_ret (v := .tuple #[.agg #[.int .i64 q.nx, .int .i64 q.ny, .int .i64 q.d], .bool t]) (by first | (simp [results, Try.results133, go_sem, q1_r_0, q1_r_1, q1_r_2, f1_r, L1_r, N1_r, M1_r]; done) | (simp [results, Try.results133, go_sem, *]; done)) rfl ?_
        (try unfold M.RelHb); (try unfold M.RelBB); (try unfold M.RelI); (try unfold M.RelV); exact ⟨q, t, e1, rfl, iq, (by rw [E.out]; exact HR1.out), by have G := HG1.out; (repeat (with_reducible refine M.Below.drewN ?_ _)); go_grown⟩
      · have B2 := beq_eq_false_iff_ne.2 b2
        by_cases b1 : b.shape = 1
        · have B1 := beq_iff_eq.2 b1
          have C4 := Lib.hid (fun e => refBoth_x pb e b a hb ha b1 a2)
          have E := Lib.hid (show hitX a b = andThen (bothX b a) fun h => andThen (flipX h.1) fun f => .ok (f, h.2) by unfold hitX; rw [if_neg (by omega), if_neg (by omega), if_neg (by omega), if_pos ⟨a2, b1⟩])
          clear a1 a2 b1 b2
          have hpb : pb < w.heap.size := hp.1; have c0_pb := hp.2.1; have f0_pb := hp.2.2; have PC0 := hp
          have HG0 := Lib.hid (M.rw_refl hp)
          go_enter Try.func133, Try.ntmps133
          go_wp2_with (with_reducible refine M.stopPost ?_)
          (with_reducible refine (C4.out e _ (by (repeat (first | (with_reducible assumption) | (with_reducible refine M.pcell_alloc ?_ _) | (with_reducible refine M.pcell_drewN ?_ _) | (with_reducible refine M.pcell_drew ?_) | (with_reducible refine M.pcell_far ?_ _ _ ?hFar; case hFar => (first | omega | ((try simp [go_sem]) <;> omega))) | fail)))).mono ?_); rintro en w1 ⟨q, t, e1, rfl, iq, hr, hb⟩
          have G1 : M.RW pb e1 w w1 := M.rw_step (by have G := HG0.out; (repeat (with_reducible refine M.Below.drewN ?_ _)); go_grown) hb hpb
          have S1 : w.heap.size ≤ w1.heap.size := by have := G1.size; rwa [M.setCell_size] at this
          have PC1 : M.PCell w1 pb e1 := M.pcell_behind hb (e := e) (by (repeat (first | (with_reducible assumption) | (with_reducible refine M.pcell_alloc ?_ _) | (with_reducible refine M.pcell_drewN ?_ _) | (with_reducible refine M.pcell_drew ?_) | (with_reducible refine M.pcell_far ?_ _ _ ?hFar; case hFar => (first | omega | ((try simp [go_sem]) <;> omega))) | fail)))
          have V1_r : M.Var w1 (w.heap.size + 1 + 1) #[.int .i64 0, .int .i64 0, .int .i64 0] := M.var_rw (by (repeat (first | (with_reducible assumption) | (with_reducible apply M.var_setV) | (with_reducible apply M.var_setI) | (with_reducible apply M.var_setB) | (with_reducible apply M.var_setHt) | (with_reducible apply M.var_setBd) | (with_reducible apply M.var_set2) | (with_reducible apply M.var_set3) | (with_reducible apply M.var_set4) | (with_reducible apply M.var_set45) | (with_reducible apply M.var_set67) | (with_reducible apply M.var_setF) | (with_reducible refine M.var_alloc' _ _ _ ?_; first | rfl | (focus (simp [go_sem]; done))) | (with_reducible refine M.Var.alloc ?_ _) | (with_reducible refine M.Var.drewN ?_ _) | (with_reducible refine M.Var.drew ?_) | (with_reducible refine M.Var.far ?_ _ _ ?hFar; case hFar => (first | omega | ((try simp [go_sem]) <;> omega))) | fail))) (by omega) hb
          have q1_r_0 : w1.cell? ⟨w.heap.size + 1 + 1, 0, none⟩ = some (.int .i64 0) := V1_r.c 0 _ rfl
          have q1_r_1 : w1.cell? ⟨w.heap.size + 1 + 1, 1, none⟩ = some (.int .i64 0) := V1_r.c 1 _ rfl
          have q1_r_2 : w1.cell? ⟨w.heap.size + 1 + 1, 2, none⟩ = some (.int .i64 0) := V1_r.c 2 _ rfl
          have f1_r := V1_r.2.2
          have L1_r := V1_r.lt
          have N1_r := Nat.ne_of_gt L1_r
          have M1_r := Nat.ne_of_lt L1_r
          have HR1 := Lib.hid hr; clear hr
          have c1_pb := PC1.2.1; have f1_pb := PC1.2.2; have L1_pb := PC1.1; have N1_pb := Nat.ne_of_gt L1_pb; have M1_pb := Nat.ne_of_lt L1_pb
          have HG1 := Lib.hid G1; clear G1 hb
          go_wp2_with (with_reducible refine M.stopPost ?_)
          · have ht : t = false := by first | assumption | (have h : (!t) = true := (by assumption); simpa using h) | (have h : (!t) = false := (by assumption); simpa using h)
            subst ht
            have fin : Rel e (hitX a b) (⟨0, 0, 0⟩, false) e1 := by
              rw [E.out]
              by_cases h1 : e1 = 0
              · obtain ⟨_, p1⟩ := rel_zero HR1.out h1
                obtain rfl := both_false p1
                exact rel_bind HR1.out (by rw [show flipX ⟨0, 0, 0⟩ = .ok ⟨0, 0, 0⟩ by rfl]; exact rel_ok _ _)
              · exact rel_bind HR1.out (.inl ⟨h1, rfl⟩)
            have FIN := Lib.hid fin
            clear fin
            (try refine M.Stop.mk ?_)
            refine bodyPost_ret (v := .tuple #[.agg #[.int .i64 0, .int .i64 0, .int .i64 0], .bool false]) (by first | (simp [results, Try.results133, go_sem, q1_r_0, q1_r_1, q1_r_2, f1_r, L1_r, N1_r, M1_r]; done) | (simp [results, Try.results133, go_sem, *]; done)) rfl ?_
            (try unfold M.RelHb); (try unfold M.RelBB); (try unfold M.RelI); (try unfold M.RelV); exact ⟨⟨0, 0, 0⟩, false, e1, rfl, ⟨z, z, z⟩, FIN.out, by have G := HG1.out; (repeat (with_reducible refine M.Below.drewN ?_ _)); go_grown⟩
          · have ht : t = true := by first | assumption | (have h : (!t) = true := (by assumption); simpa using h) | (have h : (!t) = false := (by assumption); simpa using h)
            subst ht
            (with_reducible refine (C5.out e1 _ iq _ (by (repeat (first | (with_reducible assumption) | (with_reducible refine M.pcell_alloc ?_ _) | (with_reducible refine M.pcell_drewN ?_ _) | (with_reducible refine M.pcell_drew ?_) | (with_reducible refine M.pcell_far ?_ _ _ ?hFar; case hFar => (first | omega | ((try simp [go_sem]) <;> omega))) | fail)))).mono ?_); rintro en w2 ⟨f, e2, rfl, i1, hr, hb⟩
            have G2 : M.RW pb e2 w w2 := M.rw_step (by have G := HG1.out; (repeat (with_reducible refine M.Below.drewN ?_ _)); go_grown) hb hpb
            have S2 : w.heap.size ≤ w2.heap.size := by have := G2.size; rwa [M.setCell_size] at this
            have PC2 : M.PCell w2 pb e2 := M.pcell_behind hb (e := e1) (by (repeat (first | (with_reducible assumption) | (with_reducible refine M.pcell_alloc ?_ _) | (with_reducible refine M.pcell_drewN ?_ _) | (with_reducible refine M.pcell_drew ?_) | (with_reducible refine M.pcell_far ?_ _ _ ?hFar; case hFar => (first | omega | ((try simp [go_sem]) <;> omega))) | fail)))
            have V2_r : M.Var w2 (w.heap.size + 1 + 1) #[.int .i64 0, .int .i64 0, .int .i64 0] := M.var_rw (by (repeat (first | (with_reducible assumption) | (with_reducible apply M.var_setV) | (with_reducible apply M.var_setI) | (with_reducible apply M.var_setB) | (with_reducible apply M.var_setHt) | (with_reducible apply M.var_setBd) | (with_reducible apply M.var_set2) | (with_reducible apply M.var_set3) | (with_reducible apply M.var_set4) | (with_reducible apply M.var_set45) | (with_reducible apply M.var_set67) | (with_reducible apply M.var_setF) | (with_reducible refine M.var_alloc' _ _ _ ?_; first | rfl | (focus (simp [go_sem]; done))) | (with_reducible refine M.Var.alloc ?_ _) | (with_reducible refine M.Var.drewN ?_ _) | (with_reducible refine M.Var.drew ?_) | (with_reducible refine M.Var.far ?_ _ _ ?hFar; case hFar => (first | omega | ((try simp [go_sem]) <;> omega))) | fail))) (by omega) hb
            have q2_r_0 : w2.cell? ⟨w.heap.size + 1 + 1, 0, none⟩ = some (.int .i64 0) := V2_r.c 0 _ rfl
            have q2_r_1 : w2.cell? ⟨w.heap.size + 1 + 1, 1, none⟩ = some (.int .i64 0) := V2_r.c 1 _ rfl
            have q2_r_2 : w2.cell? ⟨w.heap.size + 1 + 1, 2, none⟩ = some (.int .i64 0) := V2_r.c 2 _ rfl
            have f2_r := V2_r.2.2
            have L2_r := V2_r.lt
            have N2_r := Nat.ne_of_gt L2_r
            have M2_r := Nat.ne_of_lt L2_r
            have V2_h : M.Var w2 (w1.heap.size) #[.int .i64 q.nx, .int .i64 q.ny, .int .i64 q.d] := M.var_rw (by (repeat (first | (with_reducible assumption) | (with_reducible apply M.var_setV) | (with_reducible apply M.var_setI) | (with_reducible apply M.var_setB) | (with_reducible apply M.var_setHt) | (with_reducible apply M.var_setBd) | (with_reducible apply M.var_set2) | (with_reducible apply M.var_set3) | (with_reducible apply M.var_set4) | (with_reducible apply M.var_set45) | (with_reducible apply M.var_set67) | (with_reducible apply M.var_setF) | (with_reducible refine M.var_alloc' _ _ _ ?_; first | rfl | (focus (simp [go_sem]; done))) | (with_reducible refine M.Var.alloc ?_ _) | (with_reducible refine M.Var.drewN ?_ _) | (with_reducible refine M.Var.drew ?_) | (with_reducible refine M.Var.far ?_ _ _ ?hFar; case hFar => (first | omega | ((try simp [go_sem]) <;> omega))) | fail))) (by omega) hb
            have q2_h_0 : w2.cell? ⟨w1.heap.size, 0, none⟩ = some (.int .i64 q.nx) := V2_h.c 0 _ rfl
            have q2_h_1 : w2.cell? ⟨w1.heap.size, 1, none⟩ = some (.int .i64 q.ny) := V2_h.c 1 _ rfl
            have q2_h_2 : w2.cell? ⟨w1.heap.size, 2, none⟩ = some (.int .i64 q.d) := V2_h.c 2 _ rfl
            have f2_h := V2_h.2.2
            have L2_h := V2_h.lt
            have N2_h := Nat.ne_of_gt L2_h
            have M2_h := Nat.ne_of_lt L2_h
            clear V1_r f1_r q1_r_0 q1_r_1 q1_r_2 PC1 c1_pb f1_pb
            have HR2 := Lib.hid hr; clear hr
            have c2_pb := PC2.2.1; have f2_pb := PC2.2.2; have L2_pb := PC2.1; have N2_pb := Nat.ne_of_gt L2_pb; have M2_pb := Nat.ne_of_lt L2_pb
            have HG2 := Lib.hid G2; clear G2 hb
            go_wp2_with (with_reducible refine M.stopPost ?_)
            (try refine M.Stop.mk ?_)
            refine bodyPost_ret (v := .tuple #[.agg #[.int .i64 f.nx, .int .i64 f.ny, .int .i64 f.d], .bool true]) (by first | (simp [results, Try.results133, go_sem, q2_r_0, q2_r_1, q2_r_2, f2_r, L2_r, N2_r, M2_r]; done) | (simp [results, Try.results133, go_sem, *]; done)) rfl ?_
            (try unfold M.RelHb); (try unfold M.RelBB); (try unfold M.RelI); (try unfold M.RelV); exact ⟨f, true, e2, rfl, i1, (by rw [E.out]; exact rel_bind HR1.out (rel_bind HR2.out (rel_ok _ _))), by have G := HG2.out; (repeat (with_reducible refine M.Below.drewN ?_ _)); go_grown⟩
        · have B1 := beq_eq_false_iff_ne.2 b1
          have E := Lib.hid (show hitX a b = .ok (⟨0, 0, 0⟩, false) by unfold hitX; rw [if_neg (by omega), if_neg (by omega), if_neg (by omega), if_neg (by omega)])
          clear a1 a2 b1 b2
          have hpb : pb < w.heap.size := hp.1; have c0_pb := hp.2.1; have f0_pb := hp.2.2; have PC0 := hp
          have HG0 := Lib.hid (M.rw_refl hp)
          go_enter Try.func133, Try.ntmps133
          go_wp2_with (with_reducible refine M.stopPost ?_)
          (try refine M.Stop.mk ?_)
          refine bodyPost_ret (v := .tuple #[.agg #[.int .i64 0, .int .i64 0, .int .i64 0], .bool false]) (by first | (simp [results, Try.results133, go_sem]; done) | (simp [results, Try.results133, go_sem, *]; done)) rfl ?_
          (try unfold M.RelHb); (try unfold M.RelBB); (try unfold M.RelI); (try unfold M.RelV); exact ⟨⟨0, 0, 0⟩, false, e, rfl, ⟨z, z, z⟩, (by rw [E.out]; exact rel_ok _ _), by have G := HG0.out; (repeat (with_reducible refine M.Below.drewN ?_ _)); go_grown⟩
    · have A2 := beq_eq_false_iff_ne.2 a2
      have E := Lib.hid (show hitX a b = .ok (⟨0, 0, 0⟩, false) by unfold hitX; rw [if_neg (by omega), if_neg (by omega), if_neg (by omega), if_neg (by omega)])
      clear a1 a2
      have hpb : pb < w.heap.size := hp.1; have c0_pb := hp.2.1; have f0_pb := hp.2.2; have PC0 := hp
      have HG0 := Lib.hid (M.rw_refl hp)
      go_enter Try.func133, Try.ntmps133
      go_wp2_with (with_reducible refine M.stopPost ?_)
      (try refine M.Stop.mk ?_)
      refine bodyPost_ret (v := .tuple #[.agg #[.int .i64 0, .int .i64 0, .int .i64 0], .bool false]) (by first | (simp [results, Try.results133, go_sem]; done) | (simp [results, Try.results133, go_sem, *]; done)) rfl ?_
      (try unfold M.RelHb); (try unfold M.RelBB); (try unfold M.RelI); (try unfold M.RelV); exact ⟨⟨0, 0, 0⟩, false, e, rfl, ⟨z, z, z⟩, (by rw [E.out]; exact rel_ok _ _), by have G := HG0.out; (repeat (with_reducible refine M.Below.drewN ?_ _)); go_grown⟩
end Go.Proofs.Ytaagpkacningdaa
