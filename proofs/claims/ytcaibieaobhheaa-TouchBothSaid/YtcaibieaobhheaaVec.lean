/- What the functions of package vec compute. -/
import Derived.Test.YtcaibieaobhheaaOut
namespace Go.Proofs.Ytcaibieaobhheaa
open Go.RowKit M
set_option maxRecDepth 100000
set_option maxHeartbeats 2000000
set_option linter.unusedVariables false
set_option linter.unusedSimpArgs false

theorem vecAdd_x (ax ay bx by_ : Int) (h1 : I64 ax) (h2 : I64 ay) (h3 : I64 bx) (h4 : I64 by_) (w : World) :
    Calls Try.prog 75 #[.agg #[.int .i64 ax, .int .i64 ay], .agg #[.int .i64 bx, .int .i64 by_]] w fun en w' => OutV (addV (ax, ay) (bx, by_)) en ∧ Bw w w' := by
  have C1 := Lib.hid (calcAdd_x ax bx h1 h3)
  have C2 := Lib.hid (calcAdd_x ay by_ h2 h4)
  go_enter Try.func75, Try.ntmps75
  go_wp2_with fail
  (with_reducible refine (C1.out _).mono ?_); rintro en w' ⟨⟨n1, hn1, hz1, rfl⟩ | ⟨x, hx, ix, rfl⟩, d1, rfl⟩
  · exact ⟨rfl, .inl ⟨n1, by unfold addV; simp only [hn1, andThen_ok, andThen_err], hz1, rfl⟩, by (repeat (with_reducible refine M.Below.drewN ?_ _)); go_grown⟩
  have Hhx := Lib.hid hx; clear hx
  go_wp2_with fail
  (with_reducible refine (C2.out _).mono ?_); rintro en w' ⟨⟨n2, hn2, hz2, rfl⟩ | ⟨y, hy, iy, rfl⟩, d2, rfl⟩
  · exact ⟨rfl, .inl ⟨n2, by unfold addV; simp only [Hhx.out, hn2, andThen_ok, andThen_err], hz2, rfl⟩, by (repeat (with_reducible refine M.Below.drewN ?_ _)); go_grown⟩
  have Hhy := Lib.hid hy; clear hy
  go_wp2_with fail
  refine bodyPost_ret (v := .agg #[.int .i64 x, .int .i64 y]) (by simp [results, Try.results75, go_sem]) rfl ⟨.inr ⟨x, y, by unfold addV; simp only [Hhx.out, Hhy.out, andThen_ok, andThen_err], ix, iy, rfl⟩, by (repeat (with_reducible refine M.Below.drewN ?_ _)); go_grown⟩
theorem vecSub_x (ax ay bx by_ : Int) (h1 : I64 ax) (h2 : I64 ay) (h3 : I64 bx) (h4 : I64 by_) (w : World) :
    Calls Try.prog 73 #[.agg #[.int .i64 ax, .int .i64 ay], .agg #[.int .i64 bx, .int .i64 by_]] w fun en w' => OutV (subV (ax, ay) (bx, by_)) en ∧ Bw w w' := by
  have C1 := Lib.hid (calcSub_x ax bx h1 h3)
  have C2 := Lib.hid (calcSub_x ay by_ h2 h4)
  go_enter Try.func73, Try.ntmps73
  go_wp2_with fail
  (with_reducible refine (C1.out _).mono ?_); rintro en w' ⟨⟨n1, hn1, hz1, rfl⟩ | ⟨x, hx, ix, rfl⟩, d1, rfl⟩
  · exact ⟨rfl, .inl ⟨n1, by unfold subV; simp only [hn1, andThen_ok, andThen_err], hz1, rfl⟩, by (repeat (with_reducible refine M.Below.drewN ?_ _)); go_grown⟩
  have Hhx := Lib.hid hx; clear hx
  go_wp2_with fail
  (with_reducible refine (C2.out _).mono ?_); rintro en w' ⟨⟨n2, hn2, hz2, rfl⟩ | ⟨y, hy, iy, rfl⟩, d2, rfl⟩
  · exact ⟨rfl, .inl ⟨n2, by unfold subV; simp only [Hhx.out, hn2, andThen_ok, andThen_err], hz2, rfl⟩, by (repeat (with_reducible refine M.Below.drewN ?_ _)); go_grown⟩
  have Hhy := Lib.hid hy; clear hy
  go_wp2_with fail
  refine bodyPost_ret (v := .agg #[.int .i64 x, .int .i64 y]) (by simp [results, Try.results73, go_sem]) rfl ⟨.inr ⟨x, y, by unfold subV; simp only [Hhx.out, Hhy.out, andThen_ok, andThen_err], ix, iy, rfl⟩, by (repeat (with_reducible refine M.Below.drewN ?_ _)); go_grown⟩
theorem vecScale_x (ax ay k : Int) (h1 : I64 ax) (h2 : I64 ay) (h3 : I64 k) (w : World) :
    Calls Try.prog 72 #[.agg #[.int .i64 ax, .int .i64 ay], .int .i64 k] w fun en w' => OutV (scaleV (ax, ay) k) en ∧ Bw w w' := by
  have C1 := Lib.hid (calcMul_x ax k h1 h3)
  have C2 := Lib.hid (calcMul_x ay k h2 h3)
  go_enter Try.func72, Try.ntmps72
  go_wp2_with fail
  (with_reducible refine (C1.out _).mono ?_); rintro en w' ⟨⟨n1, hn1, hz1, rfl⟩ | ⟨x, hx, ix, rfl⟩, d1, rfl⟩
  · exact ⟨rfl, .inl ⟨n1, by unfold scaleV; simp only [hn1, andThen_ok, andThen_err], hz1, rfl⟩, by (repeat (with_reducible refine M.Below.drewN ?_ _)); go_grown⟩
  have Hhx := Lib.hid hx; clear hx
  go_wp2_with fail
  (with_reducible refine (C2.out _).mono ?_); rintro en w' ⟨⟨n2, hn2, hz2, rfl⟩ | ⟨y, hy, iy, rfl⟩, d2, rfl⟩
  · exact ⟨rfl, .inl ⟨n2, by unfold scaleV; simp only [Hhx.out, hn2, andThen_ok, andThen_err], hz2, rfl⟩, by (repeat (with_reducible refine M.Below.drewN ?_ _)); go_grown⟩
  have Hhy := Lib.hid hy; clear hy
  go_wp2_with fail
  refine bodyPost_ret (v := .agg #[.int .i64 x, .int .i64 y]) (by simp [results, Try.results72, go_sem]) rfl ⟨.inr ⟨x, y, by unfold scaleV; simp only [Hhx.out, Hhy.out, andThen_ok, andThen_err], ix, iy, rfl⟩, by (repeat (with_reducible refine M.Below.drewN ?_ _)); go_grown⟩
theorem vecOver_x (ax ay k : Int) (h1 : I64 ax) (h2 : I64 ay) (h3 : I64 k) (w : World) :
    Calls Try.prog 99 #[.agg #[.int .i64 ax, .int .i64 ay], .int .i64 k] w fun en w' => OutV (overV (ax, ay) k) en ∧ Bw w w' := by
  have C1 := Lib.hid (calcDiv_x ax k h1 h3)
  have C2 := Lib.hid (calcDiv_x ay k h2 h3)
  go_enter Try.func99, Try.ntmps99
  go_wp2_with fail
  (with_reducible refine (C1.out _).mono ?_); rintro en w' ⟨⟨n1, hn1, hz1, rfl⟩ | ⟨x, hx, ix, rfl⟩, d1, rfl⟩
  · exact ⟨rfl, .inl ⟨n1, by unfold overV; simp only [hn1, andThen_ok, andThen_err], hz1, rfl⟩, by (repeat (with_reducible refine M.Below.drewN ?_ _)); go_grown⟩
  have Hhx := Lib.hid hx; clear hx
  go_wp2_with fail
  (with_reducible refine (C2.out _).mono ?_); rintro en w' ⟨⟨n2, hn2, hz2, rfl⟩ | ⟨y, hy, iy, rfl⟩, d2, rfl⟩
  · exact ⟨rfl, .inl ⟨n2, by unfold overV; simp only [Hhx.out, hn2, andThen_ok, andThen_err], hz2, rfl⟩, by (repeat (with_reducible refine M.Below.drewN ?_ _)); go_grown⟩
  have Hhy := Lib.hid hy; clear hy
  go_wp2_with fail
  refine bodyPost_ret (v := .agg #[.int .i64 x, .int .i64 y]) (by simp [results, Try.results99, go_sem]) rfl ⟨.inr ⟨x, y, by unfold overV; simp only [Hhx.out, Hhy.out, andThen_ok, andThen_err], ix, iy, rfl⟩, by (repeat (with_reducible refine M.Below.drewN ?_ _)); go_grown⟩
theorem vecDot_x (ax ay bx by_ : Int) (h1 : I64 ax) (h2 : I64 ay) (h3 : I64 bx) (h4 : I64 by_) (w : World) :
    Calls Try.prog 103 #[.agg #[.int .i64 ax, .int .i64 ay], .agg #[.int .i64 bx, .int .i64 by_]] w fun en w' => OutI (dotX (ax, ay) (bx, by_)) en ∧ Bw w w' := by
  have C1 := Lib.hid (calcMul_x ax bx h1 h3)
  have C2 := Lib.hid (calcMul_x ay by_ h2 h4)
  have C3 := Lib.hid calcAdd_x
  go_enter Try.func103, Try.ntmps103
  go_wp2_with fail
  (with_reducible refine (C1.out _).mono ?_); rintro en w' ⟨⟨n1, hn1, hz1, rfl⟩ | ⟨x, hx, ix, rfl⟩, d1, rfl⟩
  · exact ⟨rfl, .inl ⟨n1, by unfold dotX; simp only [hn1, andThen_ok, andThen_err], hz1, rfl⟩, by (repeat (with_reducible refine M.Below.drewN ?_ _)); go_grown⟩
  have Hhx := Lib.hid hx; clear hx
  go_wp2_with fail
  (with_reducible refine (C2.out _).mono ?_); rintro en w' ⟨⟨n2, hn2, hz2, rfl⟩ | ⟨y, hy, iy, rfl⟩, d2, rfl⟩
  · exact ⟨rfl, .inl ⟨n2, by unfold dotX; simp only [Hhx.out, hn2, andThen_ok, andThen_err], hz2, rfl⟩, by (repeat (with_reducible refine M.Below.drewN ?_ _)); go_grown⟩
  have Hhy := Lib.hid hy; clear hy
  go_wp2_with fail
  (with_reducible refine (C3.out _ _ ix iy _).mono ?_); rintro en w' ⟨⟨n3, hn3, hz3, rfl⟩ | ⟨z, hz, iz, rfl⟩, d3, rfl⟩
  · exact ⟨rfl, .inl ⟨n3, by unfold dotX; simp only [Hhx.out, Hhy.out, hn3, andThen_ok, andThen_err], hz3, rfl⟩, by (repeat (with_reducible refine M.Below.drewN ?_ _)); go_grown⟩
  have Hhz := Lib.hid hz; clear hz
  go_wp2_with fail
  go_ret
  exact ⟨.inr ⟨z, by unfold dotX; simp only [Hhx.out, Hhy.out, Hhz.out, andThen_ok], iz, rfl⟩, by (repeat (with_reducible refine M.Below.drewN ?_ _)); go_grown⟩
theorem vecLen_x (x y : Int) (h1 : I64 x) (h2 : I64 y) (w : World) :
    Calls Try.prog 109 #[.agg #[.int .i64 x, .int .i64 y]] w fun en w' => OutI (lenX x y) en ∧ Bw w w' := by
  have c := rootLen_c x y h1 h2
  have bl := lenR_i64 h1 h2
  unfold lenX
  generalize lenR x y = r at *
  obtain ⟨l, e⟩ := r
  dsimp only at *
  have C := Lib.hid c
  clear c
  go_enter Try.func109, Try.ntmps109
  go_wp2_with fail
  (with_reducible refine (C.out _).mono ?_); rintro en w' ⟨rfl, d1, rfl⟩
  go_wp2_with fail
  · have he : ¬ e = 0 := bne_iff_ne.1 (by assumption)
    exact ⟨rfl, .inl ⟨e, by unfold liftR; dsimp only; rw [if_neg he], he, rfl⟩, by (repeat (with_reducible refine M.Below.drewN ?_ _)); go_grown⟩
  · obtain rfl : e = 0 := bne_eq_false_iff_eq.1 (by assumption)
    go_ret
    exact ⟨.inr ⟨l, rfl, bl, rfl⟩, by (repeat (with_reducible refine M.Below.drewN ?_ _)); go_grown⟩
theorem vecUnit_x (x y : Int) (h1 : I64 x) (h2 : I64 y) (w : World) :
    Calls Try.prog 76 #[.agg #[.int .i64 x, .int .i64 y]] w fun en w' => OutVI (unitX (x, y)) en ∧ Bw w w' := by
  have C1 := Lib.hid (vecLen_x x y h1 h2)
  have C2 := Lib.hid vecOver_x
  go_enter Try.func76, Try.ntmps76
  go_wp2_with fail
  (with_reducible refine (C1.out _).mono ?_); rintro en w1 ⟨ho, hb⟩
  have G1 : Below w.heap.size w w1 := Below.trans (by (repeat (with_reducible refine M.Below.drewN ?_ _)); go_grown) (hb.mono (by go_size))
  have S1 := G1.size
  have hz1 := hb.size
  obtain ⟨hc1, hf1⟩ := M.bcell hb
  have L1_0 : w.heap.size < w1.heap.size := by have := hz1; (try simp only [World.size_alloc, World.size_setCell, World.size_drew, World.heap_drewN] at this); omega
  have N1_0 : w1.heap.size ≠ w.heap.size := Nat.ne_of_gt L1_0
  have M1_0 : w.heap.size ≠ w1.heap.size := Nat.ne_of_lt L1_0
  have q1_0_0 : w1.cell? ⟨w.heap.size, 0, none⟩ = some (.int .i64 x) := by rw [hc1 _ _ (by (try simp [go_sem]) <;> omega)]; simp [go_sem]
  have q1_0_1 : w1.cell? ⟨w.heap.size, 1, none⟩ = some (.int .i64 y) := by rw [hc1 _ _ (by (try simp [go_sem]) <;> omega)]; simp [go_sem]
  have f1_0 : ∀ o, w1.frozen? ⟨w.heap.size, o, none⟩ = false := fun o => by rw [hf1 _ _ (by (try simp [go_sem]) <;> omega)]; simp [go_sem]
  have L1_1 : w.heap.size + 1 < w1.heap.size := by have := hz1; (try simp only [World.size_alloc, World.size_setCell, World.size_drew, World.heap_drewN] at this); omega
  have N1_1 : w1.heap.size ≠ w.heap.size + 1 := Nat.ne_of_gt L1_1
  have M1_1 : w.heap.size + 1 ≠ w1.heap.size := Nat.ne_of_lt L1_1
  have q1_1_0 : w1.cell? ⟨w.heap.size + 1, 0, none⟩ = some (.int .i64 0) := by rw [hc1 _ _ (by (try simp [go_sem]) <;> omega)]; simp [go_sem]
  have q1_1_1 : w1.cell? ⟨w.heap.size + 1, 1, none⟩ = some (.int .i64 0) := by rw [hc1 _ _ (by (try simp [go_sem]) <;> omega)]; simp [go_sem]
  have f1_1 : ∀ o, w1.frozen? ⟨w.heap.size + 1, o, none⟩ = false := fun o => by rw [hf1 _ _ (by (try simp [go_sem]) <;> omega)]; simp [go_sem]
  have HG1 := Lib.hid G1; clear G1 hb hc1 hf1 hz1
  rcases ho with ⟨n1, hn1, hz1, rfl⟩ | ⟨l, hl, bl, rfl⟩
  · exact ⟨rfl, .inl ⟨n1, by unfold unitX; simp only [hn1, andThen_ok, andThen_err], hz1, rfl⟩, HG1.out⟩
  have Hhl := Lib.hid hl; clear hl
  go_wp2_with fail
  · obtain rfl : l = 0 := beq_iff_eq.1 (by assumption)
    refine bodyPost_ret (v := .tuple #[.agg #[.int .i64 0, .int .i64 0], .int .i64 0]) (by simp [results, Try.results76, go_sem, L1_0, f1_0, N1_0, M1_0, q1_0_0, q1_0_1, L1_1, f1_1, N1_1, M1_1, q1_1_0, q1_1_1, S1]) rfl ⟨.inr ⟨0, 0, 0, by unfold unitX; simp only [Hhl.out, andThen_ok, if_true], by unfold I64; omega, by unfold I64; omega, by unfold I64; omega, rfl⟩, by have G := HG1.out; (repeat (with_reducible refine M.Below.drewN ?_ _)); go_grown⟩
  · have h0 : ¬ l = 0 := beq_eq_false_iff_ne.1 (by assumption)
    (with_reducible refine ((C2.out _ _ _ h1 h2 bl) _).mono ?_); rintro en w2 ⟨ho, hb⟩
    have G2 : Below w.heap.size w w2 := Below.trans (by have G := HG1.out; (repeat (with_reducible refine M.Below.drewN ?_ _)); go_grown) (hb.mono (by go_size))
    have S2 := G2.size
    have hz2 := hb.size
    obtain ⟨hc2, hf2⟩ := M.bcell hb
    have L2_1 : w.heap.size + 1 < w2.heap.size := by have := hz2; (try simp only [World.size_alloc, World.size_setCell, World.size_drew, World.heap_drewN] at this); omega
    have N2_1 : w2.heap.size ≠ w.heap.size + 1 := Nat.ne_of_gt L2_1
    have M2_1 : w.heap.size + 1 ≠ w2.heap.size := Nat.ne_of_lt L2_1
    have q2_1_0 : w2.cell? ⟨w.heap.size + 1, 0, none⟩ = some (.int .i64 0) := by rw [hc2 _ _ (by (try simp [go_sem]) <;> omega)]; simp [go_sem, L1_0, f1_0, N1_0, M1_0, q1_0_0, q1_0_1, L1_1, f1_1, N1_1, M1_1, q1_1_0, q1_1_1, S1]
    have q2_1_1 : w2.cell? ⟨w.heap.size + 1, 1, none⟩ = some (.int .i64 0) := by rw [hc2 _ _ (by (try simp [go_sem]) <;> omega)]; simp [go_sem, L1_0, f1_0, N1_0, M1_0, q1_0_0, q1_0_1, L1_1, f1_1, N1_1, M1_1, q1_1_0, q1_1_1, S1]
    have f2_1 : ∀ o, w2.frozen? ⟨w.heap.size + 1, o, none⟩ = false := fun o => by rw [hf2 _ _ (by (try simp [go_sem]) <;> omega)]; simp [go_sem, L1_0, f1_0, N1_0, M1_0, q1_0_0, q1_0_1, L1_1, f1_1, N1_1, M1_1, q1_1_0, q1_1_1, S1]
    have HG2 := Lib.hid G2; clear G2 hb hc2 hf2 hz2
    rcases ho with ⟨n2, hn2, hz2, rfl⟩ | ⟨u, v, hu, bu, bv, rfl⟩
    · exact ⟨rfl, .inl ⟨n2, by unfold unitX; simp only [Hhl.out, if_neg h0, hn2, andThen_ok, andThen_err], hz2, rfl⟩, HG2.out⟩
    have Hhu := Lib.hid hu; clear hu
    go_wp2_with fail
    refine bodyPost_ret (v := .tuple #[.agg #[.int .i64 u, .int .i64 v], .int .i64 l]) (by simp [results, Try.results76, go_sem, L1_0, f1_0, N1_0, M1_0, q1_0_0, q1_0_1, L1_1, f1_1, N1_1, M1_1, q1_1_0, q1_1_1, S1, L2_1, f2_1, N2_1, M2_1, q2_1_0, q2_1_1, S2]) rfl ⟨.inr ⟨u, v, l, by unfold unitX; simp only [Hhl.out, if_neg h0, Hhu.out, andThen_ok, andThen_err], bu, bv, bl, rfl⟩, by have G := HG2.out; (repeat (with_reducible refine M.Below.drewN ?_ _)); go_grown⟩
end Go.Proofs.Ytcaibieaobhheaa
