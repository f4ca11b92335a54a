/- What the functions of package shape compute. -/
import Derived.Test.YtcaibieaobhheaaVec
namespace Go.Proofs.Ytcaibieaobhheaa
open Go.RowKit M
set_option maxRecDepth 100000
set_option maxHeartbeats 4000000
set_option linter.unusedVariables false
set_option linter.unusedSimpArgs false

theorem light_x (b : Bd) (h : b.ok) (w : World) :
    Calls Try.prog 54 #[.agg #[.int .i64 b.shape, .int .i64 b.sx, .int .i64 b.sy, .int .i64 b.mass, .int .i64 b.px, .int .i64 b.py, .int .i64 b.mx, .int .i64 b.my]] w fun en w' => OutI (lightX b) en ∧ Bw w w' := by
  have C := Lib.hid (calcDiv_x 4294967296 b.mass (by unfold I64; omega) h.mass)
  go_enter Try.func54, Try.ntmps54
  go_wp2_with fail
  · have h0 : b.mass = 0 := beq_iff_eq.1 (by assumption)
    go_ret
    exact ⟨.inr ⟨0, by unfold lightX; rw [if_pos h0], by unfold I64; omega, rfl⟩, by (repeat (with_reducible refine M.Below.drewN ?_ _)); go_grown⟩
  · have h0 : ¬ b.mass = 0 := beq_eq_false_iff_ne.1 (by assumption)
    (with_reducible refine (C.out _).mono ?_); rintro en w' ⟨⟨n1, hn1, hz1, rfl⟩ | ⟨x, hx, ix, rfl⟩, d1, rfl⟩
    · exact ⟨rfl, .inl ⟨n1, by unfold lightX; simp only [if_neg h0, hn1, andThen_ok, andThen_err], hz1, rfl⟩, by (repeat (with_reducible refine M.Below.drewN ?_ _)); go_grown⟩
    have Hhx := Lib.hid hx; clear hx
    go_wp2_with fail
    go_ret
    exact ⟨.inr ⟨x, by unfold lightX; simp only [if_neg h0, Hhx.out], ix, rfl⟩, by (repeat (with_reducible refine M.Below.drewN ?_ _)); go_grown⟩
theorem speed_x (b : Bd) (h : b.ok) (w : World) :
    Calls Try.prog 53 #[.agg #[.int .i64 b.shape, .int .i64 b.sx, .int .i64 b.sy, .int .i64 b.mass, .int .i64 b.px, .int .i64 b.py, .int .i64 b.mx, .int .i64 b.my]] w fun en w' => OutV (speedX b) en ∧ Bw w w' := by
  have C := Lib.hid (vecOver_x b.mx b.my b.mass h.mx h.my h.mass)
  go_enter Try.func53, Try.ntmps53
  go_wp2_with fail
  · have h0 : b.mass = 0 := beq_iff_eq.1 (by assumption)
    refine bodyPost_ret (v := .agg #[.int .i64 0, .int .i64 0]) (by simp [results, Try.results53, go_sem]) rfl ⟨.inr ⟨0, 0, by unfold speedX; rw [if_pos h0], by unfold I64; omega, by unfold I64; omega, rfl⟩, by (repeat (with_reducible refine M.Below.drewN ?_ _)); go_grown⟩
  · have h0 : ¬ b.mass = 0 := beq_eq_false_iff_ne.1 (by assumption)
    (with_reducible refine (C.out _).mono ?_); rintro en w1 ⟨ho, hb⟩
    have G1 : Below w.heap.size w w1 := Below.trans (by (repeat (with_reducible refine M.Below.drewN ?_ _)); go_grown) (hb.mono (by go_size))
    have S1 := G1.size
    have hz1 := hb.size
    obtain ⟨hc1, hf1⟩ := M.bcell hb
    have L1_1 : w.heap.size + 1 < w1.heap.size := by have := hz1; (try simp only [World.size_alloc, World.size_setCell, World.size_drew, World.heap_drewN] at this); omega
    have N1_1 : w1.heap.size ≠ w.heap.size + 1 := Nat.ne_of_gt L1_1
    have M1_1 : w.heap.size + 1 ≠ w1.heap.size := Nat.ne_of_lt L1_1
    have q1_1_0 : w1.cell? ⟨w.heap.size + 1, 0, none⟩ = some (.int .i64 0) := by rw [hc1 _ _ (by (try simp [go_sem]) <;> omega)]; simp [go_sem]
    have q1_1_1 : w1.cell? ⟨w.heap.size + 1, 1, none⟩ = some (.int .i64 0) := by rw [hc1 _ _ (by (try simp [go_sem]) <;> omega)]; simp [go_sem]
    have f1_1 : ∀ o, w1.frozen? ⟨w.heap.size + 1, o, none⟩ = false := fun o => by rw [hf1 _ _ (by (try simp [go_sem]) <;> omega)]; simp [go_sem]
    have HG1 := Lib.hid G1; clear G1 hb hc1 hf1 hz1
    rcases ho with ⟨n1, hn1, hz1, rfl⟩ | ⟨x, y, hx, ix, iy, rfl⟩
    · exact ⟨rfl, .inl ⟨n1, by unfold speedX Bd.mom; simp only [if_neg h0, hn1, andThen_ok, andThen_err], hz1, rfl⟩, HG1.out⟩
    have Hhx := Lib.hid hx; clear hx
    go_wp2_with fail
    refine bodyPost_ret (v := .agg #[.int .i64 x, .int .i64 y]) (by simp [results, Try.results53, go_sem, L1_1, f1_1, N1_1, M1_1, q1_1_0, q1_1_1, S1]) rfl ⟨.inr ⟨x, y, by unfold speedX Bd.mom; simp only [if_neg h0, Hhx.out, andThen_ok, andThen_err], ix, iy, rfl⟩, by have G := HG1.out; (repeat (with_reducible refine M.Below.drewN ?_ _)); go_grown⟩
theorem in_x (a l h : Int) (w : World) :
    Calls Try.prog 118 #[.int .i64 a, .int .i64 l, .int .i64 h] w fun en w' => en = .returned (.bool (inB a l h)) ∧ Dr w w' := by
  go_enter Try.func118, Try.ntmps118
  go_wp2
  all_goals
    go_ret
    exact ⟨rb (by unfold inB; simp; try omega), Dr.refl _⟩
namespace M
def nameS (n : Int) : ByteArray := if n = 1 then ⟨#[98, 97, 108, 108]⟩ else if n = 2 then ⟨#[99, 114, 97, 116, 101]⟩ else ⟨#[]⟩
end M
theorem name_x (n : Int) (w : World) :
    Calls Try.prog 98 #[.int .i64 n] w fun en w' => en = .returned (.string (nameS n)) ∧ Dr w w' := by
  go_enter Try.func98, Try.ntmps98
  go_wp2
  · have h : n = 1 := beq_iff_eq.1 (by assumption)
    go_ret
    exact ⟨by unfold nameS; rw [if_pos h]; rfl, Dr.refl _⟩
  · have h : n = 2 := beq_iff_eq.1 (by assumption)
    go_ret
    exact ⟨by unfold nameS; rw [if_neg (by omega), if_pos h]; rfl, Dr.refl _⟩
  · have h1 : ¬ n = 1 := beq_eq_false_iff_ne.1 (by assumption)
    have h2 : ¬ n = 2 := beq_eq_false_iff_ne.1 (by assumption)
    go_ret
    exact ⟨by unfold nameS; rw [if_neg h1, if_neg h2]; rfl, Dr.refl _⟩
theorem near_x (x y m : Int) (h0 : 0 ≤ m) (h1 : m ≤ 4611686018427387904) (w : World) :
    Calls Try.prog 119 #[.agg #[.int .i64 x, .int .i64 y], .int .i64 m] w fun en w' => en = .returned (.bool (inB x (-m) m && inB y (-m) m)) ∧ Bw w w' := by
  go_enter Try.func119, Try.ntmps119
  go_wp2_with fail
  (with_reducible refine (in_x _ _ _ _).mono ?_); rintro en w' ⟨rfl, d1, rfl⟩
  cases hx : inB x (-m) m
  · go_wp2_with fail
    go_ret
    exact ⟨rb (by rw [hx, Bool.false_and]), by (repeat (with_reducible refine M.Below.drewN ?_ _)); go_grown⟩
  · go_wp2_with fail
    (with_reducible refine (in_x _ _ _ _).mono ?_); rintro en w' ⟨rfl, d2, rfl⟩
    go_wp2_with fail
    go_ret
    exact ⟨rb (by rw [hx, Bool.true_and]), by (repeat (with_reducible refine M.Below.drewN ?_ _)); go_grown⟩
end Go.Proofs.Ytcaibieaobhheaa
