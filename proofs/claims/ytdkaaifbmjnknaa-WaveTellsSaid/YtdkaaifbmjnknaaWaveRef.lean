/- What the reference's Norm, Sin, Cos and Rotate compute. -/
import Derived.Test.YtdkaaifbmjnknaaWave
import Derived.Test.YtdkaaifbmjnknaaRef
namespace Go.Proofs.Ytdkaaifbmjnknaa
open Go.RowKit M
set_option maxRecDepth 100000
set_option maxHeartbeats 2000000
set_option linter.unusedVariables false

theorem refNorm_c (a : Int) (ha : I64 a) (w : World) :
    Calls Try.prog 50 #[.int .i64 a] w fun e w' => e = .returned (.int .i64 (a % 65536)) ∧ Dr w w' := by
  go_enter Try.func50, Try.ntmps50
  go_wp2
  go_ret
  exact ⟨r1 (norm_eq a), Dr.refl _⟩

theorem refSinLow_c (n : Int) (h0 : 0 ≤ n) (h1 : n ≤ 32768) (w : World) :
    Calls Try.prog 52 #[.int .i64 n] w fun e w' => e = .returned (.int .i64 (sinP n)) ∧ Dr w w' := by
  obtain ⟨q0, q1⟩ := quad h0 h1
  have sb := sinP_bounds h0 h1
  have hq0 : IntKind.u64.wrap (n * (32768 - n)) = n * (32768 - n) := u64_id (by unfold U64; omega)
  obtain ⟨q, hqe⟩ : ∃ q, n * (32768 - n) = q := ⟨_, rfl⟩
  have hq := hq0.trans hqe
  have c1 := refNorm_c n (by unfold I64; omega)
  rw [show n % 65536 = n by omega] at c1
  unfold sinP at *
  rw [hqe] at q0 q1 sb ⊢
  clear hqe hq0
  have c2 := mul64_c (16 * q) 4294967296 (by unfold U64; omega) (by unfold U64; omega)
  have u1 : U64 (16 * q * 4294967296 / 18446744073709551616) := by unfold U64; omega
  have u2 : U64 (16 * q * 4294967296 % 18446744073709551616) := by unfold U64; omega
  have c3 := div64_c (16 * q * 4294967296 / 18446744073709551616) (16 * q * 4294967296 % 18446744073709551616) (5368709120 - 4 * q) u1 u2 (by unfold U64; omega) (by omega)
  rw [show 16 * q * 4294967296 / 18446744073709551616 * 18446744073709551616 + 16 * q * 4294967296 % 18446744073709551616 = 16 * q * 4294967296 by omega] at c3
  generalize 16 * q * 4294967296 / 18446744073709551616 = hi at *
  generalize 16 * q * 4294967296 % 18446744073709551616 = lo at *
  generalize 16 * q * 4294967296 / (5368709120 - 4 * q) = r at *
  have C1 := Lib.hid c1; have C2 := Lib.hid c2; have C3 := Lib.hid c3
  have SB := Lib.hid sb
  clear c1 c2 c3 u1 u2 sb
  go_enter Try.func52, Try.ntmps52
  go_wp2_with fail
  (with_reducible refine (C1.out _).mono ?_); rintro e w' ⟨rfl, n1, rfl⟩
  go_wp2_with fail
  (with_reducible refine (C2.out _).mono ?_); rintro e w' ⟨rfl, n2, rfl⟩
  go_wp2_with fail
  (with_reducible refine (C3.out _).mono ?_); rintro e w' ⟨⟨rr, rfl⟩, n3, rfl⟩
  go_wp2_with fail
  go_ret
  exact ⟨r1 (wrap64_id (by have := SB.out; unfold I64; omega)), _, rfl⟩

theorem refSin_c (a : Int) (ha : I64 a) (w : World) :
    Calls Try.prog 52 #[.int .i64 a] w fun e w' => e = .returned (.int .i64 (sinR a)) ∧ Dr w w' := by
  have c1 := refNorm_c a ha
  unfold sinR sinN
  have n0 : 0 ≤ a % 65536 := by omega
  have n1 : a % 65536 < 65536 := by omega
  generalize a % 65536 = n at *
  by_cases h : 32768 < n
  · rw [if_pos h]
    have sb := sinP_bounds (n := n - 32768) (by omega) (by omega)
    have c2 := refSinLow_c (n - 32768) (by omega) (by omega)
    have C1 := Lib.hid c1; have C2 := Lib.hid c2
    have SB := Lib.hid sb
    clear c1 c2 sb
    go_enter Try.func52, Try.ntmps52
    go_wp2_with fail
    (with_reducible refine (C1.out _).mono ?_); rintro e w' ⟨rfl, n1, rfl⟩
    go_wp2_with fail
    (with_reducible refine (C2.out _).mono ?_); rintro e w' ⟨rfl, n2, rfl⟩
    go_wp2_with fail
    go_ret
    exact ⟨r1 (wrap64_id (by have := SB.out; unfold I64; omega)), _, rfl⟩
  · rw [if_neg h]
    have h1 : n ≤ 32768 := by omega
    clear h n1
    obtain ⟨q0, q1⟩ := quad n0 h1
    have sb := sinP_bounds n0 h1
    have hq0 : IntKind.u64.wrap (n * (32768 - n)) = n * (32768 - n) := u64_id (by unfold U64; omega)
    obtain ⟨q, hqe⟩ : ∃ q, n * (32768 - n) = q := ⟨_, rfl⟩
    have hq := hq0.trans hqe
    unfold sinP at *
    rw [hqe] at q0 q1 sb ⊢
    clear hqe hq0
    have c2 := mul64_c (16 * q) 4294967296 (by unfold U64; omega) (by unfold U64; omega)
    have u1 : U64 (16 * q * 4294967296 / 18446744073709551616) := by unfold U64; omega
    have u2 : U64 (16 * q * 4294967296 % 18446744073709551616) := by unfold U64; omega
    have c3 := div64_c (16 * q * 4294967296 / 18446744073709551616) (16 * q * 4294967296 % 18446744073709551616) (5368709120 - 4 * q) u1 u2 (by unfold U64; omega) (by omega)
    rw [show 16 * q * 4294967296 / 18446744073709551616 * 18446744073709551616 + 16 * q * 4294967296 % 18446744073709551616 = 16 * q * 4294967296 by omega] at c3
    generalize 16 * q * 4294967296 / 18446744073709551616 = hi at *
    generalize 16 * q * 4294967296 % 18446744073709551616 = lo at *
    generalize 16 * q * 4294967296 / (5368709120 - 4 * q) = r at *
    have C1 := Lib.hid c1; have C2 := Lib.hid c2; have C3 := Lib.hid c3
    have SB := Lib.hid sb
    clear c1 c2 c3 u1 u2 sb
    go_enter Try.func52, Try.ntmps52
    go_wp2_with fail
    (with_reducible refine (C1.out _).mono ?_); rintro e w' ⟨rfl, n1, rfl⟩
    go_wp2_with fail
    (with_reducible refine (C2.out _).mono ?_); rintro e w' ⟨rfl, n2, rfl⟩
    go_wp2_with fail
    (with_reducible refine (C3.out _).mono ?_); rintro e w' ⟨⟨rr, rfl⟩, n3, rfl⟩
    go_wp2_with fail
    go_ret
    exact ⟨r1 (wrap64_id (by have := SB.out; unfold I64; omega)), _, rfl⟩

theorem refCos_c (a : Int) (ha : I64 a) (w : World) :
    Calls Try.prog 54 #[.int .i64 a] w fun e w' => e = .returned (.int .i64 (cosR a)) ∧ Dr w w' := by
  have c1 := refNorm_c a ha
  unfold cosR
  have n0 : 0 ≤ a % 65536 := by omega
  have n1 : a % 65536 < 65536 := by omega
  generalize a % 65536 = n at *
  have c2 := refSin_c (n + 16384) (by unfold I64; omega)
  have C1 := Lib.hid c1; have C2 := Lib.hid c2
  clear c1 c2
  go_enter Try.func54, Try.ntmps54
  go_wp2_with fail
  (with_reducible refine (C1.out _).mono ?_); rintro e w' ⟨rfl, n1, rfl⟩
  go_wp2_with fail
  (with_reducible refine (C2.out _).mono ?_); rintro e w' ⟨rfl, n2, rfl⟩
  go_wp2_with fail
  go_ret
  exact ⟨rfl, _, rfl⟩

/-- The reckoner's chain comes to what the program's does. -/
theorem chain_ok (x y s c : Int) :
    ∃ p q u r t v : Int, ∃ e1 e2 e3 e4 e5 e6 : Int,
      thenR 0 (mulR x c) = (p, e1) ∧ thenR e1 (mulR y s) = (q, e2) ∧ thenR e2 (subR p q) = (u, e3) ∧ thenR e3 (mulR x s) = (r, e4) ∧ thenR e4 (mulR y c) = (t, e5) ∧ thenR e5 (addR r t) = (v, e6) ∧
      e6 = rotE x y s c ∧ (e6 = 0 → u = (subR (mulR x c).1 (mulR y s).1).1 ∧ v = (addR (mulR x s).1 (mulR y c).1).1) ∧ I64 p ∧ I64 q ∧ I64 r ∧ I64 t := by
  rcases h1 : thenR 0 (mulR x c) with ⟨p, e1⟩
  rcases h2 : thenR e1 (mulR y s) with ⟨q, e2⟩
  rcases h3 : thenR e2 (subR p q) with ⟨u, e3⟩
  rcases h4 : thenR e3 (mulR x s) with ⟨r, e4⟩
  rcases h5 : thenR e4 (mulR y c) with ⟨t, e5⟩
  rcases h6 : thenR e5 (addR r t) with ⟨v, e6⟩
  refine ⟨p, q, u, r, t, v, e1, e2, e3, e4, e5, e6, rfl, h2, h3, h4, h5, h6, ?_⟩
  have z : I64 0 := by unfold I64; omega
  have m1 := mulR_i64 x c; have m2 := mulR_i64 y s; have m4 := mulR_i64 x s; have m5 := mulR_i64 y c
  unfold rotE
  generalize mulR x c = P at *
  generalize mulR y s = Q at *
  generalize mulR x s = R at *
  generalize mulR y c = T at *
  obtain ⟨P, E1⟩ := P; obtain ⟨Q, E2⟩ := Q; obtain ⟨R, E4⟩ := R; obtain ⟨T, E5⟩ := T
  dsimp only at *
  rw [thenR_zero] at h1
  obtain ⟨rfl, rfl⟩ := Prod.mk.inj h1
  by_cases k1 : E1 = 0
  · subst k1
    rw [thenR_zero] at h2
    obtain ⟨rfl, rfl⟩ := Prod.mk.inj h2
    by_cases k2 : E2 = 0
    · subst k2
      rw [thenR_zero] at h3
      rw [h3]
      dsimp only
      by_cases k3 : e3 = 0
      · subst k3
        rw [thenR_zero] at h4
        obtain ⟨rfl, rfl⟩ := Prod.mk.inj h4
        by_cases k4 : E4 = 0
        · subst k4
          rw [thenR_zero] at h5
          obtain ⟨rfl, rfl⟩ := Prod.mk.inj h5
          by_cases k5 : E5 = 0
          · subst k5
            rw [thenR_zero] at h6
            rw [h6]
            exact ⟨by simp [firstE], fun _ => ⟨rfl, rfl⟩, m1, m2, m4, m5⟩
          · rw [thenR_err k5] at h6
            obtain ⟨rfl, rfl⟩ := Prod.mk.inj h6
            exact ⟨by simp [firstE, k5], fun h => absurd h k5, m1, m2, m4, m5⟩
        · rw [thenR_err k4] at h5
          obtain ⟨rfl, rfl⟩ := Prod.mk.inj h5
          rw [thenR_err k4] at h6
          obtain ⟨rfl, rfl⟩ := Prod.mk.inj h6
          exact ⟨by simp [firstE, k4], fun h => absurd h k4, m1, m2, m4, z⟩
      · rw [thenR_err k3] at h4
        obtain ⟨rfl, rfl⟩ := Prod.mk.inj h4
        rw [thenR_err k3] at h5
        obtain ⟨rfl, rfl⟩ := Prod.mk.inj h5
        rw [thenR_err k3] at h6
        obtain ⟨rfl, rfl⟩ := Prod.mk.inj h6
        exact ⟨by simp [firstE, k3], fun h => absurd h k3, m1, m2, z, z⟩
    · rw [thenR_err k2] at h3
      obtain ⟨rfl, rfl⟩ := Prod.mk.inj h3
      rw [thenR_err k2] at h4
      obtain ⟨rfl, rfl⟩ := Prod.mk.inj h4
      rw [thenR_err k2] at h5
      obtain ⟨rfl, rfl⟩ := Prod.mk.inj h5
      rw [thenR_err k2] at h6
      obtain ⟨rfl, rfl⟩ := Prod.mk.inj h6
      exact ⟨by simp [firstE, k2], fun h => absurd h k2, m1, m2, z, z⟩
  · rw [thenR_err k1] at h2
    obtain ⟨rfl, rfl⟩ := Prod.mk.inj h2
    rw [thenR_err k1] at h3
    obtain ⟨rfl, rfl⟩ := Prod.mk.inj h3
    rw [thenR_err k1] at h4
    obtain ⟨rfl, rfl⟩ := Prod.mk.inj h4
    rw [thenR_err k1] at h5
    obtain ⟨rfl, rfl⟩ := Prod.mk.inj h5
    rw [thenR_err k1] at h6
    obtain ⟨rfl, rfl⟩ := Prod.mk.inj h6
    exact ⟨by simp [firstE, k1], fun h => absurd h k1, m1, z, z, z⟩

theorem setCell_twice (w : World) (p : Addr) (u v : Value) : (w.setCell p u).setCell p v = w.setCell p v := by
  have e : ((w.setCell p u).setCell p v).heap = (w.setCell p v).heap := by
    unfold World.setCell
    apply Array.ext_getElem?
    intro i
    rw [Array.getElem?_modify, Array.getElem?_modify, Array.getElem?_modify]
    split
    · cases ho : w.heap[i]? with
      | none => rfl
      | some o =>
        cases o with
        | cells c elem fr =>
          simp only [Option.map_some]
          split
          · rfl
          · simp [Array.setIfInBounds_setIfInBounds]
        | _ => rfl
    · rfl
  exact congrArg (fun h : Array Obj => ({ w with heap := h } : World)) e

theorem refRotate_c (p : Addr) (x y a : Int) (hx : I64 x) (hy : I64 y) (ha : I64 a) (w : World) (hc : w.cell? p = some (.int .i64 0)) (hf : w.frozen? p = false) :
    Calls Try.prog 47 #[.pointer (some p), .int .i64 x, .int .i64 y, .int .i64 a] w fun e w' =>
      e = .returned (.tuple #[.int .i64 (rotR x y a).1, .int .i64 (rotR x y a).2.1]) ∧ AtE w p (rotR x y a).2.2 w' := by
  obtain ⟨P, Q, U, R, T, V, e1, e2, e3, e4, e5, e6, g1, g2, g3, g4, g5, g6, g7, g8, i1, i2, i3, i4⟩ := chain_ok x y (sinR a) (cosR a)
  have c1 := refCos_c a ha
  have c2 := refSin_c a ha
  have d1 := fun w' hc hf => refMul_c p 0 x (cosR a) hx (cosR_i64 a) w' hc hf
  have d2 := fun w' hc hf => refMul_c p e1 y (sinR a) hy (sinR_i64 a) w' hc hf
  have d3 := fun w' hc hf => refSub_c p e2 P Q i1 i2 w' hc hf
  have d4 := fun w' hc hf => refMul_c p e3 x (sinR a) hx (sinR_i64 a) w' hc hf
  have d5 := fun w' hc hf => refMul_c p e4 y (cosR a) hy (cosR_i64 a) w' hc hf
  have d6 := fun w' hc hf => refAdd_c p e5 R T i3 i4 w' hc hf
  rw [g1] at d1; rw [g2] at d2; rw [g3] at d3; rw [g4] at d4; rw [g5] at d5; rw [g6] at d6
  unfold rotR
  rw [← g7]
  clear g1 g2 g3 g4 g5 g6 g7
  generalize (subR (mulR x (cosR a)).1 (mulR y (sinR a)).1).1 = u' at *
  generalize (addR (mulR x (sinR a)).1 (mulR y (cosR a)).1).1 = v' at *
  generalize sinR a = s at *
  generalize cosR a = c at *
  dsimp only at *
  have C1 := Lib.hid c1; have C2 := Lib.hid c2
  have D1 := Lib.hid d1; have D2 := Lib.hid d2; have D3 := Lib.hid d3; have D4 := Lib.hid d4; have D5 := Lib.hid d5; have D6 := Lib.hid d6
  have G8 := Lib.hid g8
  clear c1 c2 d1 d2 d3 d4 d5 d6 g8
  have hcs : ∀ v : Value, (w.setCell p v).cell? p = some v := fun v => World.cell?_setCell_same _ _ _ hc
  have hss : ∀ (w : World) (u v : Value), (w.setCell p u).setCell p v = w.setCell p v := fun w u v => setCell_twice w p u v
  by_cases hE : e6 = 0
  · obtain ⟨rfl, rfl⟩ := G8.out hE
    subst hE
    simp only [if_true]
    go_enter Try.func47, Try.ntmps47
    go_wp2_with fail
    (with_reducible refine (C1.out _).mono ?_); rintro e w' ⟨rfl, n1, rfl⟩
    go_wp2_with fail
    (with_reducible refine (D1.out _ ?_ ?_).mono ?_)
    · simp [go_sem, hc, hcs]
    · simp [go_sem, hf]
    rintro e w' ⟨rfl, m1, rfl⟩
    go_wp2_with fail
    (with_reducible refine (C2.out _).mono ?_); rintro e w' ⟨rfl, n3, rfl⟩
    go_wp2_with fail
    (with_reducible refine (D2.out _ ?_ ?_).mono ?_)
    · simp [go_sem, hc, hcs]
    · simp [go_sem, hf]
    rintro e w' ⟨rfl, m2, rfl⟩
    go_wp2_with fail
    (with_reducible refine (D3.out _ ?_ ?_).mono ?_)
    · simp [go_sem, hc, hcs]
    · simp [go_sem, hf]
    rintro e w' ⟨rfl, m3, rfl⟩
    go_wp2_with fail
    (with_reducible refine (C2.out _).mono ?_); rintro e w' ⟨rfl, n6, rfl⟩
    go_wp2_with fail
    (with_reducible refine (D4.out _ ?_ ?_).mono ?_)
    · simp [go_sem, hc, hcs]
    · simp [go_sem, hf]
    rintro e w' ⟨rfl, m4, rfl⟩
    go_wp2_with fail
    (with_reducible refine (C1.out _).mono ?_); rintro e w' ⟨rfl, n8, rfl⟩
    go_wp2_with fail
    (with_reducible refine (D5.out _ ?_ ?_).mono ?_)
    · simp [go_sem, hc, hcs]
    · simp [go_sem, hf]
    rintro e w' ⟨rfl, m5, rfl⟩
    go_wp2_with fail
    (with_reducible refine (D6.out _ ?_ ?_).mono ?_)
    · simp [go_sem, hc, hcs]
    · simp [go_sem, hf]
    rintro e w' ⟨rfl, m6, rfl⟩
    go_wp2_with fail
    go_ret2
    exact ⟨rfl, _, rfl⟩
  · simp only [if_neg hE]
    have b := bne_iff_ne.2 hE
    clear hE
    go_enter Try.func47, Try.ntmps47
    go_wp2_with fail
    (with_reducible refine (C1.out _).mono ?_); rintro e w' ⟨rfl, n1, rfl⟩
    go_wp2_with fail
    (with_reducible refine (D1.out _ ?_ ?_).mono ?_)
    · simp [go_sem, hc, hcs]
    · simp [go_sem, hf]
    rintro e w' ⟨rfl, m1, rfl⟩
    go_wp2_with fail
    (with_reducible refine (C2.out _).mono ?_); rintro e w' ⟨rfl, n3, rfl⟩
    go_wp2_with fail
    (with_reducible refine (D2.out _ ?_ ?_).mono ?_)
    · simp [go_sem, hc, hcs]
    · simp [go_sem, hf]
    rintro e w' ⟨rfl, m2, rfl⟩
    go_wp2_with fail
    (with_reducible refine (D3.out _ ?_ ?_).mono ?_)
    · simp [go_sem, hc, hcs]
    · simp [go_sem, hf]
    rintro e w' ⟨rfl, m3, rfl⟩
    go_wp2_with fail
    (with_reducible refine (C2.out _).mono ?_); rintro e w' ⟨rfl, n6, rfl⟩
    go_wp2_with fail
    (with_reducible refine (D4.out _ ?_ ?_).mono ?_)
    · simp [go_sem, hc, hcs]
    · simp [go_sem, hf]
    rintro e w' ⟨rfl, m4, rfl⟩
    go_wp2_with fail
    (with_reducible refine (C1.out _).mono ?_); rintro e w' ⟨rfl, n8, rfl⟩
    go_wp2_with fail
    (with_reducible refine (D5.out _ ?_ ?_).mono ?_)
    · simp [go_sem, hc, hcs]
    · simp [go_sem, hf]
    rintro e w' ⟨rfl, m5, rfl⟩
    go_wp2_with fail
    (with_reducible refine (D6.out _ ?_ ?_).mono ?_)
    · simp [go_sem, hc, hcs]
    · simp [go_sem, hf]
    rintro e w' ⟨rfl, m6, rfl⟩
    go_wp2_with fail
    go_ret2
    exact ⟨rfl, _, rfl⟩
end Go.Proofs.Ytdkaaifbmjnknaa
