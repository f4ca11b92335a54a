/- What the functions of package touch compute: Flip, hit, overlap, one, crates. -/
import Derived.Test.YtcaibieaobhheaaBounds
import Derived.Deep.RegionHeld2
import Derived.Deep.DrawnRows
namespace Go.Proofs.Ytcaibieaobhheaa
open Go.RowKit M
set_option maxRecDepth 100000
set_option maxHeartbeats 4000000
set_option linter.unusedVariables false
set_option linter.unusedSimpArgs false
attribute [local go_sem ↓] Go.wp_at_zero Go.wp_at_succ
theorem flip_x (h : Ht) (hh : h.ok) (w : World) :
    Calls Try.prog 63 #[.agg #[.int .i64 h.nx, .int .i64 h.ny, .int .i64 h.d]] w fun en w' => OutHt (flipX h) en ∧ Bw w w' := by
  have C := Lib.hid (vecSub_x 0 0 h.nx h.ny (by unfold I64; omega) (by unfold I64; omega) hh.nx hh.ny)
  go_enter Try.func63, Try.ntmps63
  go_wp2_with fail
  (with_reducible refine (C.out _).mono ?_); rintro en w1 ⟨ho, hb⟩
  have G1 : Below w.heap.size w w1 := Below.trans (by (repeat (with_reducible refine M.Below.drewN ?_ _)); go_grown) (hb.mono (by go_size))
  have S1 := G1.size
  have hz1 := hb.size
  obtain ⟨hc1, hf1⟩ := M.bcell hb
  have L1_0 : w.heap.size < w1.heap.size := by have := hz1; (try simp only [World.size_alloc, World.size_setCell, World.size_drew, World.heap_drewN] at this); omega
  have N1_0 : w1.heap.size ≠ w.heap.size := Nat.ne_of_gt L1_0
  have M1_0 : w.heap.size ≠ w1.heap.size := Nat.ne_of_lt L1_0
  have q1_0_0 : w1.cell? ⟨w.heap.size, 0, none⟩ = some (.int .i64 h.nx) := by rw [hc1 _ _ (by (try simp [go_sem]) <;> omega)]; simp [go_sem]
  have q1_0_1 : w1.cell? ⟨w.heap.size, 1, none⟩ = some (.int .i64 h.ny) := by rw [hc1 _ _ (by (try simp [go_sem]) <;> omega)]; simp [go_sem]
  have q1_0_2 : w1.cell? ⟨w.heap.size, 2, none⟩ = some (.int .i64 h.d) := by rw [hc1 _ _ (by (try simp [go_sem]) <;> omega)]; simp [go_sem]
  have f1_0 : ∀ o, w1.frozen? ⟨w.heap.size, o, none⟩ = false := fun o => by rw [hf1 _ _ (by (try simp [go_sem]) <;> omega)]; simp [go_sem]
  have L1_1 : w.heap.size + 1 < w1.heap.size := by have := hz1; (try simp only [World.size_alloc, World.size_setCell, World.size_drew, World.heap_drewN] at this); omega
  have N1_1 : w1.heap.size ≠ w.heap.size + 1 := Nat.ne_of_gt L1_1
  have M1_1 : w.heap.size + 1 ≠ w1.heap.size := Nat.ne_of_lt L1_1
  have q1_1_0 : w1.cell? ⟨w.heap.size + 1, 0, none⟩ = some (.int .i64 0) := by rw [hc1 _ _ (by (try simp [go_sem]) <;> omega)]; simp [go_sem]
  have q1_1_1 : w1.cell? ⟨w.heap.size + 1, 1, none⟩ = some (.int .i64 0) := by rw [hc1 _ _ (by (try simp [go_sem]) <;> omega)]; simp [go_sem]
  have q1_1_2 : w1.cell? ⟨w.heap.size + 1, 2, none⟩ = some (.int .i64 0) := by rw [hc1 _ _ (by (try simp [go_sem]) <;> omega)]; simp [go_sem]
  have f1_1 : ∀ o, w1.frozen? ⟨w.heap.size + 1, o, none⟩ = false := fun o => by rw [hf1 _ _ (by (try simp [go_sem]) <;> omega)]; simp [go_sem]
  have HG1 := Lib.hid G1; clear G1 hb hc1 hf1 hz1
  rcases ho with ⟨n1, hn1, hz1, rfl⟩ | ⟨x, y, hx, ix, iy, rfl⟩
  · exact ⟨rfl, .inl ⟨n1, by unfold flipX; simp only [hn1, andThen_ok, andThen_err], hz1, rfl⟩, HG1.out⟩
  have Hhx := Lib.hid hx; clear hx
  go_wp2_with fail
  refine bodyPost_ret (v := .agg #[.int .i64 x, .int .i64 y, .int .i64 h.d]) (by simp [results, Try.results63, go_sem, L1_0, f1_0, N1_0, M1_0, q1_0_0, q1_0_1, q1_0_2, L1_1, f1_1, N1_1, M1_1, q1_1_0, q1_1_1, q1_1_2, S1]) rfl ⟨.inr ⟨⟨x, y, h.d⟩, by unfold flipX; simp only [Hhx.out, andThen_ok, andThen_err], ⟨ix, iy, hh.d⟩, rfl⟩, by have G := HG1.out; (repeat (with_reducible refine M.Below.drewN ?_ _)); go_grown⟩
theorem hitR_c (x y d : Int) (hx : I64 x) (hy : I64 y) (hd : I64 d) (w : World) :
    Calls Try.prog 100 #[.agg #[.int .i64 x, .int .i64 y], .int .i64 d] w fun en w' =>
      (∃ q t, hitR (x, y) d = (q, t) ∧ q.ok ∧ en = .returned (.tuple #[.agg #[.int .i64 q.nx, .int .i64 q.ny, .int .i64 q.d], .bool t])) ∧ Bw w w' := by
  have z : I64 0 := by unfold I64; omega
  by_cases h : d ≤ 0
  · have K := Lib.hid (show ∃ q t, hitR (x, y) d = (q, t) ∧ q.ok ∧ Ending.returned (.tuple #[.agg #[.int .i64 0, .int .i64 0, .int .i64 0], .bool false]) = .returned (.tuple #[.agg #[.int .i64 q.nx, .int .i64 q.ny, .int .i64 q.d], .bool t]) from ⟨⟨0, 0, 0⟩, false, by unfold hitR; rw [if_pos h], ⟨z, z, z⟩, rfl⟩)
    go_enter Try.func100, Try.ntmps100
    go_wp2_with fail
    exact bodyPost_ret (v := .tuple #[.agg #[.int .i64 0, .int .i64 0, .int .i64 0], .bool false]) (by simp [results, Try.results100, go_sem]) rfl ⟨(by first | exact K.out | (obtain ⟨q, t, hh⟩ := K.out; cases t; exact ⟨q, .inl hh⟩; exact ⟨q, .inr hh⟩)), by (repeat (with_reducible refine M.Below.drewN ?_ _)); go_grown⟩
  · have K := Lib.hid (show ∃ q t, hitR (x, y) d = (q, t) ∧ q.ok ∧ Ending.returned (.tuple #[.agg #[.int .i64 x, .int .i64 y, .int .i64 d], .bool true]) = .returned (.tuple #[.agg #[.int .i64 q.nx, .int .i64 q.ny, .int .i64 q.d], .bool t]) from ⟨⟨x, y, d⟩, true, by unfold hitR; rw [if_neg h], ⟨hx, hy, hd⟩, rfl⟩)
    go_enter Try.func100, Try.ntmps100
    go_wp2_with fail
    exact bodyPost_ret (v := .tuple #[.agg #[.int .i64 x, .int .i64 y, .int .i64 d], .bool true]) (by simp [results, Try.results100, go_sem]) rfl ⟨(by first | exact K.out | (obtain ⟨q, t, hh⟩ := K.out; cases t; exact ⟨q, .inl hh⟩; exact ⟨q, .inr hh⟩)), by (repeat (with_reducible refine M.Below.drewN ?_ _)); go_grown⟩
theorem overlap_x (a b d : Int) (ha : I64 a) (hb : I64 b) (hd : I64 d) (w : World) :
    Calls Try.prog 101 #[.int .i64 a, .int .i64 b, .int .i64 d] w fun en w' => OutI (overlapX a b d) en ∧ Dr w w' := by
  have C1 := Lib.hid (calcAdd_x a b ha hb)
  have C2 := Lib.hid (calcSub_x 0 d (by unfold I64; omega) hd)
  have C3 := Lib.hid calcSub_x
  by_cases h : d < 0
  · go_enter Try.func101, Try.ntmps101
    go_wp2_with fail
    (with_reducible refine (C1.out _).mono ?_); rintro en w' ⟨⟨n, hn, hz, rfl⟩ | ⟨s, hs, is', rfl⟩, k1, rfl⟩
    · exact ⟨rfl, .inl ⟨n, by unfold overlapX; simp only [hn, andThen_err], hz, rfl⟩, ⟨_, rfl⟩⟩
    have Hs := Lib.hid hs; clear hs
    go_wp2_with fail
    (with_reducible refine (C2.out _).mono ?_); rintro en w' ⟨⟨n, hn, hz, rfl⟩ | ⟨t, ht, it, rfl⟩, k2, rfl⟩
    · exact ⟨rfl, .inl ⟨n, by unfold overlapX; simp only [Hs.out, andThen_ok, if_pos h, hn, andThen_err], hz, rfl⟩, Dr.step ⟨_, rfl⟩ _⟩
    have Ht' := Lib.hid ht; clear ht
    go_wp2_with fail
    (with_reducible refine (C3.out _ _ is' it _).mono ?_); rintro en w' ⟨⟨n, hn, hz, rfl⟩ | ⟨r, hr, ir, rfl⟩, k3, rfl⟩
    · exact ⟨rfl, .inl ⟨n, by unfold overlapX; simp only [Hs.out, andThen_ok, if_pos h, Ht'.out, hn], hz, rfl⟩, Dr.step ⟨_, rfl⟩ _⟩
    have Hr := Lib.hid hr; clear hr
    go_wp2_with fail
    go_ret
    exact ⟨.inr ⟨r, by unfold overlapX; simp only [Hs.out, andThen_ok, if_pos h, Ht'.out, Hr.out], ir, rfl⟩, ⟨_, rfl⟩⟩
  · go_enter Try.func101, Try.ntmps101
    go_wp2_with fail
    (with_reducible refine (C1.out _).mono ?_); rintro en w' ⟨⟨n, hn, hz, rfl⟩ | ⟨s, hs, is', rfl⟩, k1, rfl⟩
    · exact ⟨rfl, .inl ⟨n, by unfold overlapX; simp only [hn, andThen_err], hz, rfl⟩, ⟨_, rfl⟩⟩
    have Hs := Lib.hid hs; clear hs
    go_wp2_with fail
    (with_reducible refine (C3.out _ _ is' hd _).mono ?_); rintro en w' ⟨⟨n, hn, hz, rfl⟩ | ⟨r, hr, ir, rfl⟩, k3, rfl⟩
    · exact ⟨rfl, .inl ⟨n, by unfold overlapX; simp only [Hs.out, andThen_ok, if_neg (show ¬ d < 0 by omega), hn], hz, rfl⟩, Dr.step ⟨_, rfl⟩ _⟩
    have Hr := Lib.hid hr; clear hr
    go_wp2_with fail
    go_ret
    exact ⟨.inr ⟨r, by unfold overlapX; simp only [Hs.out, andThen_ok, if_neg (show ¬ d < 0 by omega), Hr.out], ir, rfl⟩, ⟨_, rfl⟩⟩
theorem one_x (d : Int) (w : World) :
    Calls Try.prog 102 #[.int .i64 d] w fun en w' => en = .returned (.int .i64 (oneI d)) ∧ Dr w w' := by
  by_cases h : d < 0
  · have K := Lib.hid (show -4294967296 = oneI d by unfold oneI; rw [if_pos h])
    go_enter Try.func102, Try.ntmps102
    go_wp2_with fail
    go_ret
    exact ⟨r1 K.out, Dr.refl _⟩
  · have K := Lib.hid (show 4294967296 = oneI d by unfold oneI; rw [if_neg h])
    go_enter Try.func102, Try.ntmps102
    go_wp2_with fail
    go_ret
    exact ⟨r1 K.out, Dr.refl _⟩
end Go.Proofs.Ytcaibieaobhheaa
