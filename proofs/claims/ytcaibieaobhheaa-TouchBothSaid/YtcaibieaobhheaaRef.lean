/- What the reference's reckoner (maquetteref1.Calc) computes: its cell E holds what went wrong first. -/
import Derived.Test.YtcaibieaobhheaaRoot
import Derived.Test.YtcaibieaobhheaaDiv
namespace Go.Proofs.Ytcaibieaobhheaa
open Go.RowKit M
set_option maxRecDepth 100000
set_option maxHeartbeats 1000000
set_option linter.unusedVariables false
namespace M
/-- A reckoner's number and what went wrong first: behind an error nothing is reckoned. -/
def thenR (e : Int) (r : Int × Int) : Int × Int := if e = 0 then r else (0, e)
theorem thenR_zero (r : Int × Int) : thenR 0 r = r := rfl
theorem thenR_err {e : Int} (h : ¬ e = 0) (r : Int × Int) : thenR e r = (0, e) := if_neg h
/-- Behind a call on the reckoner at p: only its cell may have turned. -/
def AtE (w : World) (p : Addr) (e : Int) (w' : World) : Prop := ∃ n, w' = (w.setCell p (.int .i64 e)).drewN n
end M

theorem fail_c (p : Addr) (e x : Int) (w : World) (hc : w.cell? p = some (.int .i64 e)) (hf : w.frozen? p = false) :
    Calls Try.prog 110 #[.pointer (some p), .int .i64 x] w fun en w' =>
      en = .returned (.int .i64 0) ∧ AtE w p (if e = 0 then x else e) w' := by
  by_cases he : e = 0
  · subst he
    go_enter Try.func110, Try.ntmps110
    go_wp2_with fail
    go_ret
    exact ⟨rfl, 0, rfl⟩
  · have b := beq_eq_false_iff_ne.2 he
    have b2 := Lib.hid (setCell_self hc)
    rw [if_neg he]
    go_enter Try.func110, Try.ntmps110
    go_wp2_with fail
    go_ret
    exact ⟨rfl, 0, b2.out.symm⟩

theorem atE_dr {w w1 w2 : World} {p : Addr} {e : Int} (h : Dr w w1) (h2 : AtE w1 p e w2) : AtE w p e w2 := by
  obtain ⟨n, rfl⟩ := h
  obtain ⟨m, rfl⟩ := h2
  exact ⟨n + m, by rw [← World.drewN_drewN]; rfl⟩

theorem abs_c (a : Int) (h : I64 a) (w : World) :
    Calls Try.prog 112 #[.int .i64 a] w fun e w' => e = .returned (.int .u64 (absF a)) ∧ Dr w w' := by
  by_cases hn : a < 0
  · have e1 := Lib.hid (wrap_neg_abs h hn)
    go_enter Try.func112, Try.ntmps112
    go_wp2
    go_ret
    exact ⟨r1 e1.out, Dr.refl _⟩
  · have e1 := Lib.hid (wrap_abs h hn)
    go_enter Try.func112, Try.ntmps112
    go_wp2
    go_ret
    exact ⟨r1 e1.out, Dr.refl _⟩

/-- 'signed' behind no error. -/
theorem signed_c (p : Addr) (less : Bool) (n : Int) (h : U64 n) (w : World) (hc : w.cell? p = some (.int .i64 0)) (hf : w.frozen? p = false) :
    Calls Try.prog 114 #[.pointer (some p), .bool less, .int .u64 n] w fun en w' =>
      en = .returned (.int .i64 (wholeR less n).1) ∧ AtE w p (wholeR less n).2 w' := by
  have F := fun w' (hc : w'.cell? p = some (.int .i64 0)) (hf : w'.frozen? p = false) => fail_c p 0 3 w' hc hf
  have FH := Lib.hid F
  clear F
  cases less
  · by_cases hn : n < 9223372036854775808
    · have e1 := Lib.hid (wholeR_more h hn)
      have e2 := Lib.hid (wholeR_more0 hn)
      have e3 := Lib.hid (setCell_self hc)
      go_enter Try.func114, Try.ntmps114
      go_wp2_with fail
      go_ret
      exact ⟨r1 e1.out, 0, by rw [← e2.out]; exact e3.out.symm⟩
    · have e1 := Lib.hid (wholeR_more3 hn)
      go_enter Try.func114, Try.ntmps114
      go_wp2_with fail
      (with_reducible refine (FH.out _ hc hf).mono ?_); rintro e w' ⟨rfl, n1, rfl⟩
      go_wp2_with fail
      go_ret
      exact ⟨r1 (by rw [e1.out]), _, by rw [e1.out]⟩
  · by_cases hn : n ≤ 9223372036854775808
    · have e1 := Lib.hid (wholeR_less h hn)
      have e2 := Lib.hid (wholeR_less0 hn)
      have e3 := Lib.hid (setCell_self hc)
      go_enter Try.func114, Try.ntmps114
      go_wp2_with fail
      go_ret
      exact ⟨r1 e1.out, 0, by rw [← e2.out]; exact e3.out.symm⟩
    · have e1 := Lib.hid (wholeR_less3 hn)
      go_enter Try.func114, Try.ntmps114
      go_wp2_with fail
      (with_reducible refine (FH.out _ hc hf).mono ?_); rintro e w' ⟨rfl, n1, rfl⟩
      go_wp2_with fail
      go_ret
      exact ⟨r1 (by rw [e1.out]), _, by rw [e1.out]⟩

theorem ra_1 {a b : Int} (ha : I64 a) (hb : I64 b) (h1 : 0 < b) (h2 : a ≤ wrap64 (9223372036854775807 - b)) : addR a b = (wrap64 (a + b), 0) := by
  unfold I64 at *; simp only [wrap64] at *; rw [addR_in (by unfold I64; omega)]; congr 1; omega
theorem ra_2 {a b : Int} (ha : I64 a) (hb : I64 b) (h1 : b < 0) (h2 : wrap64 (-9223372036854775808 - b) ≤ a) : addR a b = (wrap64 (a + b), 0) := by
  unfold I64 at *; simp only [wrap64] at *; rw [addR_in (by unfold I64; omega)]; congr 1; omega
theorem ra_3 {a b : Int} (ha : I64 a) (hb : I64 b) (h1 : b ≤ 0) (h2 : 0 ≤ b) : addR a b = (wrap64 (a + b), 0) := by
  unfold I64 at *; simp only [wrap64] at *; rw [addR_in (by unfold I64; omega)]; congr 1; omega
theorem ra_4 {a b : Int} (ha : I64 a) (hb : I64 b) (h1 : 0 < b) (h2 : wrap64 (9223372036854775807 - b) < a) : addR a b = (0, 3) := by
  unfold I64 at *; simp only [wrap64] at *; unfold addR; rw [if_neg (by omega)]
theorem ra_5 {a b : Int} (ha : I64 a) (hb : I64 b) (h1 : b < 0) (h2 : a < wrap64 (-9223372036854775808 - b)) : addR a b = (0, 3) := by
  unfold I64 at *; simp only [wrap64] at *; unfold addR; rw [if_neg (by omega)]
theorem rs_1 {a b : Int} (ha : I64 a) (hb : I64 b) (h1 : b < 0) (h2 : a ≤ wrap64 (9223372036854775807 + b)) : subR a b = (wrap64 (a - b), 0) := by
  unfold I64 at *; simp only [wrap64] at *; rw [subR_in (by unfold I64; omega)]; congr 1; omega
theorem rs_2 {a b : Int} (ha : I64 a) (hb : I64 b) (h1 : 0 < b) (h2 : wrap64 (-9223372036854775808 + b) ≤ a) : subR a b = (wrap64 (a - b), 0) := by
  unfold I64 at *; simp only [wrap64] at *; rw [subR_in (by unfold I64; omega)]; congr 1; omega
theorem rs_3 {a b : Int} (ha : I64 a) (hb : I64 b) (h1 : b ≤ 0) (h2 : 0 ≤ b) : subR a b = (wrap64 (a - b), 0) := by
  unfold I64 at *; simp only [wrap64] at *; rw [subR_in (by unfold I64; omega)]; congr 1; omega
theorem rs_4 {a b : Int} (ha : I64 a) (hb : I64 b) (h1 : b < 0) (h2 : wrap64 (9223372036854775807 + b) < a) : subR a b = (0, 3) := by
  unfold I64 at *; simp only [wrap64] at *; unfold subR; rw [if_neg (by omega)]
theorem rs_5 {a b : Int} (ha : I64 a) (hb : I64 b) (h1 : 0 < b) (h2 : a < wrap64 (-9223372036854775808 + b)) : subR a b = (0, 3) := by
  unfold I64 at *; simp only [wrap64] at *; unfold subR; rw [if_neg (by omega)]

theorem refAdd_c (p : Addr) (e a b : Int) (ha : I64 a) (hb : I64 b) (w : World) (hc : w.cell? p = some (.int .i64 e)) (hf : w.frozen? p = false) :
    Calls Try.prog 78 #[.pointer (some p), .int .i64 a, .int .i64 b] w fun en w' =>
      en = .returned (.int .i64 (thenR e (addR a b)).1) ∧ AtE w p (thenR e (addR a b)).2 w' := by
  have e3 := Lib.hid (setCell_self hc)
  by_cases he : e = 0
  · subst he
    rw [thenR_zero]
    have F := fun w' (hc : w'.cell? p = some (.int .i64 0)) (hf : w'.frozen? p = false) => fail_c p 0 3 w' hc hf
    have FH := Lib.hid F
    clear F
    go_enter Try.func78, Try.ntmps78
    go_wp2_with fail
    all_goals first
    | (have k : addR a b = (wrap64 (a + b), 0) := by
         first | exact ra_1 ha hb ‹_› ‹_› | exact ra_2 ha hb ‹_› ‹_› | exact ra_3 ha hb ‹_› ‹_›
       have K := Lib.hid k
       clear k
       go_ret
       exact ⟨r1 (by rw [K.out]), 0, by rw [K.out]; exact e3.out.symm⟩)
    | (have k : addR a b = (0, 3) := by
         first | exact ra_4 ha hb ‹_› ‹_› | exact ra_5 ha hb ‹_› ‹_›
       have K := Lib.hid k
       clear k
       (with_reducible refine (FH.out _ hc hf).mono ?_); rintro e w' ⟨rfl, n1, rfl⟩
       go_wp2_with fail
       go_ret
       exact ⟨r1 (by rw [K.out]), _, by rw [K.out]⟩)
  · have b1 := bne_iff_ne.2 he
    rw [thenR_err he]
    go_enter Try.func78, Try.ntmps78
    go_wp2_with fail
    go_ret
    exact ⟨rfl, 0, e3.out.symm⟩

theorem refSub_c (p : Addr) (e a b : Int) (ha : I64 a) (hb : I64 b) (w : World) (hc : w.cell? p = some (.int .i64 e)) (hf : w.frozen? p = false) :
    Calls Try.prog 83 #[.pointer (some p), .int .i64 a, .int .i64 b] w fun en w' =>
      en = .returned (.int .i64 (thenR e (subR a b)).1) ∧ AtE w p (thenR e (subR a b)).2 w' := by
  have e3 := Lib.hid (setCell_self hc)
  by_cases he : e = 0
  · subst he
    rw [thenR_zero]
    have F := fun w' (hc : w'.cell? p = some (.int .i64 0)) (hf : w'.frozen? p = false) => fail_c p 0 3 w' hc hf
    have FH := Lib.hid F
    clear F
    go_enter Try.func83, Try.ntmps83
    go_wp2_with fail
    all_goals first
    | (have k : subR a b = (wrap64 (a - b), 0) := by
         first | exact rs_1 ha hb ‹_› ‹_› | exact rs_2 ha hb ‹_› ‹_› | exact rs_3 ha hb ‹_› ‹_›
       have K := Lib.hid k
       clear k
       go_ret
       exact ⟨r1 (by rw [K.out]), 0, by rw [K.out]; exact e3.out.symm⟩)
    | (have k : subR a b = (0, 3) := by
         first | exact rs_4 ha hb ‹_› ‹_› | exact rs_5 ha hb ‹_› ‹_›
       have K := Lib.hid k
       clear k
       (with_reducible refine (FH.out _ hc hf).mono ?_); rintro e w' ⟨rfl, n1, rfl⟩
       go_wp2_with fail
       go_ret
       exact ⟨r1 (by rw [K.out]), _, by rw [K.out]⟩)
  · have b1 := bne_iff_ne.2 he
    rw [thenR_err he]
    go_enter Try.func83, Try.ntmps83
    go_wp2_with fail
    go_ret
    exact ⟨rfl, 0, e3.out.symm⟩

theorem refMul_c (p : Addr) (e a b : Int) (ha : I64 a) (hb : I64 b) (w : World) (hc : w.cell? p = some (.int .i64 e)) (hf : w.frozen? p = false) :
    Calls Try.prog 85 #[.pointer (some p), .int .i64 a, .int .i64 b] w fun en w' =>
      en = .returned (.int .i64 (thenR e (mulR a b)).1) ∧ AtE w p (thenR e (mulR a b)).2 w' := by
  have e3 := Lib.hid (setCell_self hc)
  by_cases he : e = 0
  · subst he
    rw [thenR_zero]
    obtain ⟨k1, k2⟩ := mulU64 ha hb
    have k3 : 0 ≤ absF a * absF b := Int.mul_nonneg (absF_nonneg a) (absF_nonneg b)
    have F := fun w' (hc : w'.cell? p = some (.int .i64 0)) (hf : w'.frozen? p = false) => fail_c p 0 3 w' hc hf
    have FH := Lib.hid F
    have S := fun l n h w' (hc : w'.cell? p = some (.int .i64 0)) (hf : w'.frozen? p = false) => signed_c p l n h w' hc hf
    have SH := Lib.hid S
    clear F S
    go_enter Try.func85, Try.ntmps85
    go_wp2_with fail
    (with_reducible refine (abs_c _ ha _).mono ?_); rintro e w' ⟨rfl, n1, rfl⟩
    go_wp2_with fail
    (with_reducible refine (abs_c _ hb _).mono ?_); rintro e w' ⟨rfl, n2, rfl⟩
    go_wp2_with fail
    (with_reducible refine (mul64_c _ _ (absF_u64 ha) (absF_u64 hb) _).mono ?_); rintro e w' ⟨rfl, n3, rfl⟩
    go_wp2_with fail
    · (with_reducible refine (FH.out _ (by go_cell) (by go_cell)).mono ?_); rintro e w' ⟨rfl, n4, rfl⟩
      have K := Lib.hid (mul_great ‹_›)
      go_wp2_with fail
      go_ret
      exact ⟨r1 (by rw [K.out]), by rw [K.out]; exact ⟨_, rfl⟩⟩
    · rw [mul_mid _ k3 ‹_›]
      have u : U64 (absF a * absF b / 4294967296) := by
        have h : absF a * absF b / 18446744073709551616 < 4294967296 := ‹_›
        unfold U64; omega
      (with_reducible refine (SH.out _ _ u _ (by go_cell) (by go_cell)).mono ?_); rintro e w' ⟨rfl, n4, rfl⟩
      go_wp2_with fail
      go_ret
      exact ⟨rfl, ⟨_, rfl⟩⟩
  · have b1 := bne_iff_ne.2 he
    rw [thenR_err he]
    go_enter Try.func85, Try.ntmps85
    go_wp2_with fail
    go_ret
    exact ⟨rfl, 0, e3.out.symm⟩

theorem refDiv_c (p : Addr) (e a b : Int) (ha : I64 a) (hb : I64 b) (w : World) (hc : w.cell? p = some (.int .i64 e)) (hf : w.frozen? p = false) :
    Calls Try.prog 82 #[.pointer (some p), .int .i64 a, .int .i64 b] w fun en w' =>
      en = .returned (.int .i64 (thenR e (divR a b)).1) ∧ AtE w p (thenR e (divR a b)).2 w' := by
  have e3 := Lib.hid (setCell_self hc)
  by_cases he : e = 0
  · subst he
    rw [thenR_zero]
    have F := fun x w' (hc : w'.cell? p = some (.int .i64 0)) (hf : w'.frozen? p = false) => fail_c p 0 x w' hc hf
    have FH := Lib.hid F
    have S := fun l n h w' (hc : w'.cell? p = some (.int .i64 0)) (hf : w'.frozen? p = false) => signed_c p l n h w' hc hf
    have SH := Lib.hid S
    clear F S
    by_cases hz : b = 0
    · have z := beq_iff_eq.2 hz
      have K : Hid (divR a b = (0, 4)) := by unfold divR; rw [if_pos hz]; rfl
      clear hz
      go_enter Try.func82, Try.ntmps82
      go_wp2_with fail
      (with_reducible refine (FH.out _ _ hc hf).mono ?_); rintro e w' ⟨rfl, n4, rfl⟩
      go_wp2_with fail
      go_ret
      exact ⟨r1 (by rw [K.out]), _, by rw [K.out]⟩
    · have z := beq_eq_false_iff_ne.2 hz
      have HZ := Lib.hid (absF_zero.trans z)
      clear hz
      go_enter Try.func82, Try.ntmps82
      go_wp2_with fail
      (with_reducible refine (abs_c _ ha _).mono ?_); rintro e w' ⟨rfl, n1, rfl⟩
      go_wp2_with fail
      (with_reducible refine (abs_c _ hb _).mono ?_); rintro e w' ⟨rfl, n2, rfl⟩
      go_wp2_with fail
      · (with_reducible refine (FH.out _ _ (by go_cell) (by go_cell)).mono ?_); rintro e w' ⟨rfl, n4, rfl⟩
        have K := Lib.hid (div_great HZ.out ‹_›)
        go_wp2_with fail
        go_ret
        exact ⟨r1 (by rw [K.out]), by rw [K.out]; exact ⟨_, rfl⟩⟩
      · have h2 : absF a / 4294967296 < absF b := ‹_›
        (with_reducible refine (abs_c _ hb _).mono ?_); rintro e w' ⟨rfl, n3, rfl⟩
        go_wp2_with fail
        have k1 : U64 (absF a / 4294967296) := by
          have := absF_nonneg a; have := absF_le ha; unfold U64; omega
        (with_reducible refine (div64_c _ _ _ k1 (u64_u64 _) (absF_u64 hb) h2 _).mono ?_)
        rintro e w' ⟨⟨r, rfl⟩, n4, rfl⟩
        have k2 := div_u64 ha HZ.out h2
        have k3 := Lib.hid (div_low (b := b) ha HZ.out)
        generalize (absF a / 4294967296 * 18446744073709551616 + IntKind.u64.wrap (absF a * 4294967296)) / absF b = q at *
        go_wp2_with fail
        (with_reducible refine (SH.out _ _ k2 _ (by go_cell) (by go_cell)).mono ?_); rintro e w' ⟨rfl, n5, rfl⟩
        go_wp2_with fail
        go_ret
        exact ⟨r1 (by rw [k3.out]), by rw [k3.out]; exact ⟨_, rfl⟩⟩
  · have b1 := bne_iff_ne.2 he
    rw [thenR_err he]
    go_enter Try.func82, Try.ntmps82
    go_wp2_with fail
    go_ret
    exact ⟨rfl, 0, e3.out.symm⟩

theorem lex_le {T hi lo : Int} (N : Int) (hN : hi * 18446744073709551616 + lo = N) (hT : 0 ≤ T) (hh : U64 hi) (hl : U64 lo) :
    (T ≤ N ∧ ((decide (T / 18446744073709551616 < hi) = true) ∨ (decide (T / 18446744073709551616 < hi) = false ∧ (T / 18446744073709551616 == hi) = true ∧ decide (T % 18446744073709551616 ≤ lo) = true))) ∨
    (¬ T ≤ N ∧ decide (T / 18446744073709551616 < hi) = false ∧ ((T / 18446744073709551616 == hi) = false ∨ ((T / 18446744073709551616 == hi) = true ∧ decide (T % 18446744073709551616 ≤ lo) = false))) := by
  unfold U64 at *
  by_cases h1 : T / 18446744073709551616 < hi
  · exact Or.inl ⟨by omega, Or.inl (decide_eq_true h1)⟩
  · by_cases h2 : T / 18446744073709551616 = hi
    · by_cases h3 : T % 18446744073709551616 ≤ lo
      · exact Or.inl ⟨by omega, Or.inr ⟨decide_eq_false h1, beq_iff_eq.2 h2, decide_eq_true h3⟩⟩
      · exact Or.inr ⟨by omega, decide_eq_false h1, Or.inr ⟨beq_iff_eq.2 h2, decide_eq_false h3⟩⟩
    · exact Or.inr ⟨by omega, decide_eq_false h1, Or.inl (beq_eq_false_iff_ne.2 h2)⟩

theorem refRoot_c (hi lo : Int) (hh : U64 hi) (hl : U64 lo) (w : World) :
    Calls Try.prog 125 #[.int .u64 hi, .int .u64 lo] w fun e w' => e = .returned (.int .u64 (isq (hi * 18446744073709551616 + lo))) ∧ Dr w w' := by
  have hN : ∃ N : Nat, hi * 18446744073709551616 + lo = N := ⟨(hi * 18446744073709551616 + lo).toNat, by unfold U64 at hh hl; omega⟩
  obtain ⟨N, hN⟩ := hN
  have HN := Lib.hid hN
  clear hN
  have s0 := rinv_start N
  go_enter Try.func125, Try.ntmps125
  go_wp2_with fail
  go_loopw [5, 6] (fun a b w' => ∃ (k : Nat) (r q : Int), a = .int .u64 r ∧ b = .int .i64 ((k : Int) - 1) ∧ RInv N k r q ∧ Dr w w') (fun _ b _ => (intOf b + 1).toNat)
  case atStart => exact ⟨64, _, _, rfl, rfl, s0, Dr.refl _⟩
  case round =>
    clear s0
    obtain ⟨k, r, q, rfl, rfl, hr, n, rfl⟩ := hrel
    obtain ⟨j, hj⟩ : ∃ j : Int, (k : Int) - 1 = j := ⟨_, rfl⟩
    rw [hj]
    cases k with
    | zero =>
      have d := decide_eq_false (show ¬ 0 ≤ j by omega)
      have e2 := rinv_end hr
      have E := Lib.hid (e2.trans (by rw [← HN.out]))
      clear e2 hr hj
      go_wp2_with fail
      go_ret
      exact ⟨r1 E.out, _, rfl⟩
    | succ k =>
      have hk := hr.1
      have hj2 : j = (k : Int) := by omega
      obtain ⟨o1, o2, o3, o4⟩ := rinv_or hr
      have d := decide_eq_true (show 0 ≤ j by omega)
      have sh : IntKind.u64.wrap (2 ^ min (IntKind.u64.wrap j).toNat 64) = q := by
        have e1 : IntKind.u64.wrap j = j := u64_id (by unfold U64; omega)
        have e2 : min j.toNat 64 = k := by omega
        have e3 : ((2 : Int) ^ k) = ((2 ^ k : Nat) : Int) := by simp
        rw [e1, e2, e3, ← o3]
        exact u64_id (by have h2 := hr.2.2.1; unfold U64 at *; omega)
      have jw : wrap64 (j - 1) = (k : Int) - 1 := by simp only [wrap64]; omega
      have c2 := mul64_c (r + q) (r + q) o2 o2
      have p0 : 0 ≤ (r + q) * (r + q) := Int.mul_nonneg o2.1 o2.1
      have lx := lex_le N HN.out p0 hh hl
      have y := fun c => rinv_yes hr c
      have z := fun c => rinv_no hr c
      have JJ := Lib.hid hj2
      have JW := Lib.hid jw
      clear jw o2 o3 o4 hj hj2 hk hr p0
      generalize (r + q) * (r + q) = T at *
      generalize T / 18446744073709551616 = h at *
      generalize T % 18446744073709551616 = l at *
      have C2 := Lib.hid c2
      clear c2
      rcases lx with ⟨hT, d1 | ⟨d1, d2, d3⟩⟩ | ⟨hT, d1, d2 | ⟨d2, d3⟩⟩
      all_goals
        first | have Y := Lib.hid (y hT) | have Y := Lib.hid (z hT)
        clear y z hT
        go_wp2_with fail
        (with_reducible refine (C2.out _).mono ?_); rintro e w' ⟨rfl, n1, rfl⟩
        go_wp2_with fail
        rw [JW.out]
        exact ⟨⟨k, _, _, rfl, rfl, Y.out, _, rfl⟩, by have := JJ.out; simp only [intOf]; omega⟩

theorem refLen_c (p : Addr) (e x y : Int) (hx : I64 x) (hy : I64 y) (w : World) (hc : w.cell? p = some (.int .i64 e)) (hf : w.frozen? p = false) :
    Calls Try.prog 116 #[.pointer (some p), .int .i64 x, .int .i64 y] w fun en w' =>
      en = .returned (.int .i64 (thenR e (lenR x y)).1) ∧ AtE w p (thenR e (lenR x y)).2 w' := by
  have e3 := Lib.hid (setCell_self hc)
  by_cases he : e = 0
  · subst he
    rw [thenR_zero]
    have S := fun l n h w' (hc : w'.cell? p = some (.int .i64 0)) (hf : w'.frozen? p = false) => signed_c p l n h w' hc hf
    have SH := Lib.hid S
    have p0 := sq_bounds hx
    have q0 := sq_bounds hy
    obtain ⟨s, c, t, e1, e2, e3, e4, e5, e6, e7, e8, e9⟩ := sum128 p0 q0
    have a1 := fun w => add64_run (absF x * absF x % 18446744073709551616) (absF y * absF y % 18446744073709551616) 0 (by omega) (by omega) (by omega) (by omega) w
    have a2 := fun w => add64_run (absF x * absF x / 18446744073709551616) (absF y * absF y / 18446744073709551616) c (by omega) (by omega) e5 e6 w
    rw [e1, e2] at a1
    rw [e3, e4] at a2
    have c1 := abs_c x hx
    have c2 := abs_c y hy
    have c3 := mul64_c _ _ (absF_u64 hx) (absF_u64 hx)
    have c4 := mul64_c _ _ (absF_u64 hy) (absF_u64 hy)
    have c5 := refRoot_c t s e8 e7
    rw [e9] at c5
    have hz := isq_u64 (n := absF x * absF x + absF y * absF y) (by omega) (by omega)
    have hw : wholeR false (isq (absF x * absF x + absF y * absF y)) = lenR x y := by
      unfold wholeR lenR
      simp only [Bool.false_eq_true, if_false]
      by_cases h : isq (absF x * absF x + absF y * absF y) < 9223372036854775808
      · rw [if_pos h, if_neg (by omega)]
      · rw [if_neg h, if_pos (by omega)]
    rw [← hw]
    generalize isq (absF x * absF x + absF y * absF y) = r at *
    generalize absF x * absF x % 18446744073709551616 = x0 at *
    generalize absF x * absF x / 18446744073709551616 = x1 at *
    generalize absF y * absF y % 18446744073709551616 = y0 at *
    generalize absF y * absF y / 18446744073709551616 = y1 at *
    have C1 := Lib.hid c1; have C2 := Lib.hid c2; have C3 := Lib.hid c3; have C4 := Lib.hid c4; have C5 := Lib.hid c5
    clear e1 e2 e3 e4 e5 e6 e7 e8 e9 p0 q0 S hw c1 c2 c3 c4 c5
    go_enter Try.func116, Try.ntmps116
    go_wp2_with fail
    (with_reducible refine (C1.out _).mono ?_); rintro e w' ⟨rfl, n1, rfl⟩
    go_wp2_with fail
    (with_reducible refine (C1.out _).mono ?_); rintro e w' ⟨rfl, n2, rfl⟩
    go_wp2_with fail
    (with_reducible refine (C3.out _).mono ?_); rintro e w' ⟨rfl, n3, rfl⟩
    go_wp2_with fail
    (with_reducible refine (C2.out _).mono ?_); rintro e w' ⟨rfl, n4, rfl⟩
    go_wp2_with fail
    (with_reducible refine (C2.out _).mono ?_); rintro e w' ⟨rfl, n5, rfl⟩
    go_wp2_with fail
    (with_reducible refine (C4.out _).mono ?_); rintro e w' ⟨rfl, n6, rfl⟩
    go_wp2_with fail
    (with_reducible refine (C5.out _).mono ?_); rintro e w' ⟨rfl, n7, rfl⟩
    go_wp2_with fail
    (with_reducible refine (SH.out _ _ hz _ (by go_cell) (by go_cell)).mono ?_); rintro e w' ⟨rfl, n8, rfl⟩
    go_wp2_with fail
    go_ret
    exact ⟨rfl, ⟨_, rfl⟩⟩
  · have b1 := bne_iff_ne.2 he
    rw [thenR_err he]
    go_enter Try.func116, Try.ntmps116
    go_wp2_with fail
    go_ret
    exact ⟨rfl, 0, e3.out.symm⟩
end Go.Proofs.Ytcaibieaobhheaa
