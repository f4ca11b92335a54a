/- What the functions of package wave compute. -/
import Derived.Test.YtdkaaifbmjnknaaDiv
import Derived.Test.YtdkaaifbmjnknaaRootMath
import Derived.Test.YtdkaaifbmjnknaaWaveMath
import Derived.Deep.QuietTactic
import Derived.BigQuiet
namespace Go.Proofs.Ytdkaaifbmjnknaa
open Go.RowKit M
set_option maxRecDepth 100000
set_option maxHeartbeats 2000000
set_option linter.unusedVariables false

theorem norm_eq (a : Int) : (wrap64 (a.tmod 65536 + 65536)).tmod 65536 = a % 65536 := by
  have h1 : -65536 < a.tmod 65536 := by
    have := Int.tmod_lt_of_pos (-a) (show (0 : Int) < 65536 by omega)
    rw [Int.neg_tmod] at this; omega
  have h2 := Int.tmod_lt_of_pos a (show (0 : Int) < 65536 by omega)
  have h3 := Int.mul_tdiv_add_tmod a 65536
  generalize a.tmod 65536 = t at *
  generalize a.tdiv 65536 = k at *
  rw [wrap64_id (by unfold I64; omega), Int.tmod_eq_emod_of_nonneg (by omega)]
  omega

theorem norm_c (a : Int) (ha : I64 a) (w : World) :
    Calls Try.prog 49 #[.int .i64 a] w fun e w' => e = .returned (.int .i64 (a % 65536)) ∧ Dr w w' := by
  go_enter Try.func49, Try.ntmps49
  go_wp2
  go_ret
  exact ⟨r1 (norm_eq a), Dr.refl _⟩

theorem sinLow_c (n : Int) (h0 : 0 ≤ n) (h1 : n ≤ 32768) (w : World) :
    Calls Try.prog 51 #[.int .i64 n] w fun e w' => e = .returned (.int .i64 (sinP n)) ∧ Dr w w' := by
  obtain ⟨q0, q1⟩ := quad h0 h1
  have sb := sinP_bounds h0 h1
  have hq0 : wrap64 (n * (32768 - n)) = n * (32768 - n) := wrap64_id (by unfold I64; omega)
  obtain ⟨q, hqe⟩ : ∃ q, n * (32768 - n) = q := ⟨_, rfl⟩
  have hq := hq0.trans hqe
  have c1 := norm_c n (by unfold I64; omega)
  rw [show n % 65536 = n by omega] at c1
  unfold sinP at *
  rw [hqe] at q0 q1 sb ⊢
  clear hqe hq0
  have c2 := mul64_c (16 * q) 4294967296 (by unfold U64; omega) (by unfold U64; omega)
  have u1 : U64 (16 * q * 4294967296 / 18446744073709551616) := by unfold U64; omega
  have u2 : U64 (16 * q * 4294967296 % 18446744073709551616) := by unfold U64; omega
  have c3 := div64_c (16 * q * 4294967296 / 18446744073709551616) (16 * q * 4294967296 % 18446744073709551616) (5368709120 - 4 * q) u1 u2 (by unfold U64; omega) (by omega)
  rw [show 16 * q * 4294967296 / 18446744073709551616 * 18446744073709551616 + 16 * q * 4294967296 % 18446744073709551616 = 16 * q * 4294967296 by omega] at c3
  generalize 16 * q * 4294967296 / 18446744073709551616 = hi at *
  generalize 16 * q * 4294967296 % 18446744073709551616 = lo at *
  generalize 16 * q * 4294967296 / (5368709120 - 4 * q) = r at *
  have C1 := Lib.hid c1; have C2 := Lib.hid c2; have C3 := Lib.hid c3
  have SB := Lib.hid sb
  clear c1 c2 c3 u1 u2 sb
  go_enter Try.func51, Try.ntmps51
  go_wp2_with fail
  (with_reducible refine (C1.out _).mono ?_); rintro e w' ⟨rfl, n1, rfl⟩
  go_wp2_with fail
  (with_reducible refine (C2.out _).mono ?_); rintro e w' ⟨rfl, n2, rfl⟩
  go_wp2_with fail
  (with_reducible refine (C3.out _).mono ?_); rintro e w' ⟨⟨rr, rfl⟩, n3, rfl⟩
  go_wp2_with fail
  go_ret
  exact ⟨r1 (wrap64_id (by have := SB.out; unfold I64; omega)), _, rfl⟩

theorem sin_c (a : Int) (ha : I64 a) (w : World) :
    Calls Try.prog 51 #[.int .i64 a] w fun e w' => e = .returned (.int .i64 (sinR a)) ∧ Dr w w' := by
  have c1 := norm_c a ha
  unfold sinR sinN
  have n0 : 0 ≤ a % 65536 := by omega
  have n1 : a % 65536 < 65536 := by omega
  generalize a % 65536 = n at *
  by_cases h : 32768 < n
  · rw [if_pos h]
    have sb := sinP_bounds (n := n - 32768) (by omega) (by omega)
    have c2 := sinLow_c (n - 32768) (by omega) (by omega)
    have C1 := Lib.hid c1; have C2 := Lib.hid c2
    have SB := Lib.hid sb
    clear c1 c2 sb
    go_enter Try.func51, Try.ntmps51
    go_wp2_with fail
    (with_reducible refine (C1.out _).mono ?_); rintro e w' ⟨rfl, n1, rfl⟩
    go_wp2_with fail
    (with_reducible refine (C2.out _).mono ?_); rintro e w' ⟨rfl, n2, rfl⟩
    go_wp2_with fail
    go_ret
    exact ⟨r1 (wrap64_id (by have := SB.out; unfold I64; omega)), _, rfl⟩
  · rw [if_neg h]
    have h1 : n ≤ 32768 := by omega
    clear h n1
    obtain ⟨q0, q1⟩ := quad n0 h1
    have sb := sinP_bounds n0 h1
    have hq0 : wrap64 (n * (32768 - n)) = n * (32768 - n) := wrap64_id (by unfold I64; omega)
    obtain ⟨q, hqe⟩ : ∃ q, n * (32768 - n) = q := ⟨_, rfl⟩
    have hq := hq0.trans hqe
    unfold sinP at *
    rw [hqe] at q0 q1 sb ⊢
    clear hqe hq0
    have c2 := mul64_c (16 * q) 4294967296 (by unfold U64; omega) (by unfold U64; omega)
    have u1 : U64 (16 * q * 4294967296 / 18446744073709551616) := by unfold U64; omega
    have u2 : U64 (16 * q * 4294967296 % 18446744073709551616) := by unfold U64; omega
    have c3 := div64_c (16 * q * 4294967296 / 18446744073709551616) (16 * q * 4294967296 % 18446744073709551616) (5368709120 - 4 * q) u1 u2 (by unfold U64; omega) (by omega)
    rw [show 16 * q * 4294967296 / 18446744073709551616 * 18446744073709551616 + 16 * q * 4294967296 % 18446744073709551616 = 16 * q * 4294967296 by omega] at c3
    generalize 16 * q * 4294967296 / 18446744073709551616 = hi at *
    generalize 16 * q * 4294967296 % 18446744073709551616 = lo at *
    generalize 16 * q * 4294967296 / (5368709120 - 4 * q) = r at *
    have C1 := Lib.hid c1; have C2 := Lib.hid c2; have C3 := Lib.hid c3
    have SB := Lib.hid sb
    clear c1 c2 c3 u1 u2 sb
    go_enter Try.func51, Try.ntmps51
    go_wp2_with fail
    (with_reducible refine (C1.out _).mono ?_); rintro e w' ⟨rfl, n1, rfl⟩
    go_wp2_with fail
    (with_reducible refine (C2.out _).mono ?_); rintro e w' ⟨rfl, n2, rfl⟩
    go_wp2_with fail
    (with_reducible refine (C3.out _).mono ?_); rintro e w' ⟨⟨rr, rfl⟩, n3, rfl⟩
    go_wp2_with fail
    go_ret
    exact ⟨r1 (wrap64_id (by have := SB.out; unfold I64; omega)), _, rfl⟩

theorem cos_c (a : Int) (ha : I64 a) (w : World) :
    Calls Try.prog 53 #[.int .i64 a] w fun e w' => e = .returned (.int .i64 (cosR a)) ∧ Dr w w' := by
  have c1 := norm_c a ha
  unfold cosR
  have n0 : 0 ≤ a % 65536 := by omega
  have n1 : a % 65536 < 65536 := by omega
  generalize a % 65536 = n at *
  have c2 := sin_c (n + 16384) (by unfold I64; omega)
  have C1 := Lib.hid c1; have C2 := Lib.hid c2
  clear c1 c2
  go_enter Try.func53, Try.ntmps53
  go_wp2_with fail
  (with_reducible refine (C1.out _).mono ?_); rintro e w' ⟨rfl, n1, rfl⟩
  go_wp2_with fail
  (with_reducible refine (C2.out _).mono ?_); rintro e w' ⟨rfl, n2, rfl⟩
  go_wp2_with fail
  go_ret
  exact ⟨rfl, _, rfl⟩

theorem ask_c (v f e : Int) (p : Addr) (w : World) (hc : w.cell? p = some (.int .i64 e)) (hf : w.frozen? p = false) :
    Calls Try.prog 64 #[.int .i64 v, .int .i64 f, .pointer (some p)] w fun en w' => en = .returned (.int .i64 v) ∧ w' = w.setCell p (.int .i64 (firstE e f)) := by
  unfold firstE
  by_cases he : e = 0
  · subst he
    go_enter Try.func64, Try.ntmps64
    go_wp2_with fail
    go_ret
    exact ⟨rfl, rfl⟩
  · have b := beq_eq_false_iff_ne.2 he
    rw [if_neg he]
    have e3 := Lib.hid (setCell_self hc)
    go_enter Try.func64, Try.ntmps64
    go_wp2_with fail
    go_ret
    exact ⟨rfl, e3.out.symm⟩

theorem firstE_zero (f : Int) : firstE 0 f = f := by unfold firstE; rw [if_pos rfl]

theorem rotate_c (x y a : Int) (hx : I64 x) (hy : I64 y) (ha : I64 a) (w : World) :
    Calls Try.prog 48 #[.int .i64 x, .int .i64 y, .int .i64 a] w fun e w' =>
      e = .returned (.tuple #[.int .i64 (rotR x y a).1, .int .i64 (rotR x y a).2.1, .int .i64 (rotR x y a).2.2]) ∧ Grown w w' := by
  have c1 := sin_c a ha
  have c2 := cos_c a ha
  have c3 := fixMul_c x (cosR a) hx (cosR_i64 a)
  have c4 := fixMul_c y (sinR a) hy (sinR_i64 a)
  have c5 := fixSub_c _ _ (mulR_i64 x (cosR a)) (mulR_i64 y (sinR a))
  have c6 := fixMul_c x (sinR a) hx (sinR_i64 a)
  have c7 := fixMul_c y (cosR a) hy (cosR_i64 a)
  have c8 := fixAdd_c _ _ (mulR_i64 x (sinR a)) (mulR_i64 y (cosR a))
  unfold rotR rotE
  generalize sinR a = s at *
  generalize cosR a = c at *
  generalize mulR x c = p1 at *
  generalize mulR y s = p2 at *
  generalize mulR x s = p4 at *
  generalize mulR y c = p5 at *
  obtain ⟨p1, e1⟩ := p1
  obtain ⟨p2, e2⟩ := p2
  obtain ⟨p4, e4⟩ := p4
  obtain ⟨p5, e5⟩ := p5
  dsimp only at *
  generalize subR p1 p2 = p3 at *
  generalize addR p4 p5 = p6 at *
  obtain ⟨p3, e3⟩ := p3
  obtain ⟨p6, e6⟩ := p6
  dsimp only at *
  have C1 := Lib.hid c1; have C2 := Lib.hid c2; have C3 := Lib.hid c3; have C4 := Lib.hid c4; have C5 := Lib.hid c5; have C6 := Lib.hid c6; have C7 := Lib.hid c7; have C8 := Lib.hid c8
  have K := Lib.hid ask_c
  have fz := firstE_zero
  clear c1 c2 c3 c4 c5 c6 c7 c8
  have hmf : ∀ (fn : Fn) (first cap : Array Value) (w : World), (Instr.makeFunc fn first cap).run Try.prog w = .ok (.func fn first cap) w := fun _ _ _ _ => rfl
  by_cases hE : firstE (firstE (firstE (firstE (firstE e1 e2) e3) e4) e5) e6 = 0
  · simp only [if_pos hE]
    have b : (firstE (firstE (firstE (firstE (firstE e1 e2) e3) e4) e5) e6 != 0) = false := bne_eq_false_iff_eq.2 hE
    clear hE
    go_enter Try.func48, Try.ntmps48
    go_wp2_with fail
    (with_reducible refine (C1.out _).mono ?_); rintro e w' ⟨rfl, n1, rfl⟩
    go_wp2_with fail
    (with_reducible refine (C2.out _).mono ?_); rintro e w' ⟨rfl, n2, rfl⟩
    go_wp2_with fail
    (with_reducible refine (C3.out _).mono ?_); rintro e w' ⟨rfl, m0, rfl⟩
    go_wp2_with fail
    (with_reducible refine (K.out _ _ 0 _ _ ?_ ?_).mono ?_)
    · simp [go_sem]
    · simp [go_sem]
    rintro e w' ⟨rfl, rfl⟩
    go_wp2_with fail
    (with_reducible refine (C4.out _).mono ?_); rintro e w' ⟨rfl, m1, rfl⟩
    go_wp2_with fail
    (with_reducible refine (K.out _ _ e1 _ _ ?_ ?_).mono ?_)
    · simp [go_sem]
    · simp [go_sem]
    rintro e w' ⟨rfl, rfl⟩
    go_wp2_with fail
    (with_reducible refine (C5.out _).mono ?_); rintro e w' ⟨rfl, m2, rfl⟩
    go_wp2_with fail
    (with_reducible refine (K.out _ _ (firstE e1 e2) _ _ ?_ ?_).mono ?_)
    · simp [go_sem]
    · simp [go_sem]
    rintro e w' ⟨rfl, rfl⟩
    go_wp2_with fail
    (with_reducible refine (C6.out _).mono ?_); rintro e w' ⟨rfl, m3, rfl⟩
    go_wp2_with fail
    (with_reducible refine (K.out _ _ (firstE (firstE e1 e2) e3) _ _ ?_ ?_).mono ?_)
    · simp [go_sem]
    · simp [go_sem]
    rintro e w' ⟨rfl, rfl⟩
    go_wp2_with fail
    (with_reducible refine (C7.out _).mono ?_); rintro e w' ⟨rfl, m4, rfl⟩
    go_wp2_with fail
    (with_reducible refine (K.out _ _ (firstE (firstE (firstE e1 e2) e3) e4) _ _ ?_ ?_).mono ?_)
    · simp [go_sem]
    · simp [go_sem]
    rintro e w' ⟨rfl, rfl⟩
    go_wp2_with fail
    (with_reducible refine (C8.out _).mono ?_); rintro e w' ⟨rfl, m5, rfl⟩
    go_wp2_with fail
    (with_reducible refine (K.out _ _ (firstE (firstE (firstE (firstE e1 e2) e3) e4) e5) _ _ ?_ ?_).mono ?_)
    · simp [go_sem]
    · simp [go_sem]
    rintro e w' ⟨rfl, rfl⟩
    go_wp2_with fail
    go_ret3
    exact ⟨rfl, Grown.drewN (by go_grown) _⟩
  · simp only [if_neg hE]
    have b := bne_iff_ne.2 hE
    clear hE
    go_enter Try.func48, Try.ntmps48
    go_wp2_with fail
    (with_reducible refine (C1.out _).mono ?_); rintro e w' ⟨rfl, n1, rfl⟩
    go_wp2_with fail
    (with_reducible refine (C2.out _).mono ?_); rintro e w' ⟨rfl, n2, rfl⟩
    go_wp2_with fail
    (with_reducible refine (C3.out _).mono ?_); rintro e w' ⟨rfl, m0, rfl⟩
    go_wp2_with fail
    (with_reducible refine (K.out _ _ 0 _ _ ?_ ?_).mono ?_)
    · simp [go_sem]
    · simp [go_sem]
    rintro e w' ⟨rfl, rfl⟩
    go_wp2_with fail
    (with_reducible refine (C4.out _).mono ?_); rintro e w' ⟨rfl, m1, rfl⟩
    go_wp2_with fail
    (with_reducible refine (K.out _ _ e1 _ _ ?_ ?_).mono ?_)
    · simp [go_sem]
    · simp [go_sem]
    rintro e w' ⟨rfl, rfl⟩
    go_wp2_with fail
    (with_reducible refine (C5.out _).mono ?_); rintro e w' ⟨rfl, m2, rfl⟩
    go_wp2_with fail
    (with_reducible refine (K.out _ _ (firstE e1 e2) _ _ ?_ ?_).mono ?_)
    · simp [go_sem]
    · simp [go_sem]
    rintro e w' ⟨rfl, rfl⟩
    go_wp2_with fail
    (with_reducible refine (C6.out _).mono ?_); rintro e w' ⟨rfl, m3, rfl⟩
    go_wp2_with fail
    (with_reducible refine (K.out _ _ (firstE (firstE e1 e2) e3) _ _ ?_ ?_).mono ?_)
    · simp [go_sem]
    · simp [go_sem]
    rintro e w' ⟨rfl, rfl⟩
    go_wp2_with fail
    (with_reducible refine (C7.out _).mono ?_); rintro e w' ⟨rfl, m4, rfl⟩
    go_wp2_with fail
    (with_reducible refine (K.out _ _ (firstE (firstE (firstE e1 e2) e3) e4) _ _ ?_ ?_).mono ?_)
    · simp [go_sem]
    · simp [go_sem]
    rintro e w' ⟨rfl, rfl⟩
    go_wp2_with fail
    (with_reducible refine (C8.out _).mono ?_); rintro e w' ⟨rfl, m5, rfl⟩
    go_wp2_with fail
    (with_reducible refine (K.out _ _ (firstE (firstE (firstE (firstE e1 e2) e3) e4) e5) _ _ ?_ ?_).mono ?_)
    · simp [go_sem]
    · simp [go_sem]
    rintro e w' ⟨rfl, rfl⟩
    go_wp2_with fail
    go_quiet (fail)
    go_wp2_with fail
    go_ret3
    exact ⟨rfl, Grown.drewN (Grown.drewN (by go_grown) _) _⟩
end Go.Proofs.Ytdkaaifbmjnknaa
