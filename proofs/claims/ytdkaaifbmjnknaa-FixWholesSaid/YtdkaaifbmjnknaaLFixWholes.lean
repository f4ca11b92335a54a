/- For every two whole numbers FixWholes returns true: they are added, taken away and multiplied as whole numbers; the whole part of one is itself. -/
import Derived.Test.YtdkaaifbmjnknaaRows
import Derived.WalkKit
import Derived.ProofKit
import Derived.OpenShut
import Derived.Test.YtdkaaifbmjnknaaFacts
import Derived.Test.YtdkaaifbmjnknaaFixAlive
namespace Go.Proofs.Ytdkaaifbmjnknaa.fixWholes
open Go.ChangeShapes Go.WideShapes Go.ChangeAt Go.RowKit M
set_option maxRecDepth 100000
set_option maxHeartbeats 4000000
set_option linter.unusedVariables false      -- a walk need not use every 'w<i>' (that an integer argument fits its kind)

theorem own : ownKnob Try.prog.godebug = none := by kernel_rfl

theorem of_in {n : Int} (h : -30000 ≤ n ∧ n ≤ 30000) : ofR n = (n * 4294967296, 0) := by unfold ofR; rw [if_pos (by omega)]
theorem mul_wholes {a b : Int} (ha : -30000 ≤ a ∧ a ≤ 30000) (hb : -30000 ≤ b ∧ b ≤ 30000) : mulR (a * 4294967296) (b * 4294967296) = (a * b * 4294967296, 0) ∧ I64 (a * b * 4294967296) := by
  have key : ∀ x y : Int, 0 ≤ x → x ≤ 30000 → 0 ≤ y → y ≤ 30000 → 0 ≤ x * y ∧ x * y ≤ 900000000 := fun x y h0 h1 h2 h3 =>
    ⟨Int.mul_nonneg h0 h2, Int.mul_le_mul h1 h3 h2 (by omega)⟩
  have e (x y : Int) : x * 4294967296 * (y * 4294967296) / 4294967296 = x * y * 4294967296 := by
    have : x * 4294967296 * (y * 4294967296) = x * y * 4294967296 * 4294967296 := by
      rw [Int.mul_assoc, Int.mul_left_comm 4294967296, ← Int.mul_assoc, ← Int.mul_assoc]
    rw [this, Int.mul_ediv_cancel _ (by omega)]
  have g : I64 (a * b * 4294967296) := by
    unfold I64
    by_cases h1 : a < 0 <;> by_cases h2 : b < 0
    · have := key (-a) (-b) (by omega) (by omega) (by omega) (by omega); rw [Int.neg_mul_neg] at this; omega
    · have := key (-a) b (by omega) (by omega) (by omega) (by omega); rw [Int.neg_mul] at this; omega
    · have := key a (-b) (by omega) (by omega) (by omega) (by omega); rw [Int.mul_neg] at this; omega
    · have := key a b (by omega) (by omega) (by omega) (by omega); omega
  refine ⟨?_, g⟩
  unfold mulR
  refine wholeR_signed g ?_ (Int.ediv_nonneg (Int.mul_nonneg (absF_nonneg _) (absF_nonneg _)) (by omega))
  by_cases h1 : a < 0 <;> by_cases h2 : b < 0
  · rw [absF_of_neg (by omega), absF_of_neg (by omega), decide_eq_true (by omega), decide_eq_true (by omega), ← Int.neg_mul, ← Int.neg_mul, e, Int.neg_mul_neg]; rfl
  · rw [absF_of_neg (by omega), absF_of_nonneg (by omega), decide_eq_true (by omega), decide_eq_false (by omega), ← Int.neg_mul, e, Int.neg_mul]
    show _ = -(-(a * b) * 4294967296)
    rw [Int.neg_mul]; omega
  · rw [absF_of_nonneg (by omega), absF_of_neg (by omega), decide_eq_false (by omega), decide_eq_true (by omega), ← Int.neg_mul, e, Int.mul_neg]
    show _ = -(-(a * b) * 4294967296)
    rw [Int.neg_mul]; omega
  · rw [absF_of_nonneg (by omega), absF_of_nonneg (by omega), decide_eq_false (by omega), decide_eq_false (by omega), e]; rfl
/-! ### STEP 1: THE WALK: the Go text returns true. 'Grown w w'': the world has at most new blocks (Derived/RowKit3.lean). Part the cases AHEAD of 'go_enter' where a test parts the walk; take each callee by a contract of your own. -/
theorem walk (a0 : Int) (a1 : Int) (w0 : (Lit.int .i64 a0).wf = true) (w1 : (Lit.int .i64 a1).wf = true) (w : World) :
    Calls Try.prog 14 #[.int .i64 a0, .int .i64 a1] w fun e w' => e = .returned (.bool true) ∧ Grown w w' := by
  have A := i64_wf w0
  have B := i64_wf w1
  have c0 := Lib.hid (alive1_c)
  by_cases hb : a0 < -30000 ∨ a1 < -30000 ∨ 30000 < a0 ∨ 30000 < a1
  · go_enter Try.func14, Try.ntmps14
    go_wp2_with fail
    all_goals
      refine (c0.out _).mono ?_; rintro e w' ⟨rfl, nd1, rfl⟩
      go_wp2_with fail
      go_ret
      exact ⟨rfl, Grown.drewN (Grown.refl _) _⟩
  · have hA : -30000 ≤ a0 ∧ a0 ≤ 30000 := by omega
    have hB : -30000 ≤ a1 ∧ a1 ≤ 30000 := by omega
    have k1 : I64 (a0 * 4294967296) := by unfold I64; omega
    have k2 : I64 (a1 * 4294967296) := by unfold I64; omega
    have k3 : I64 (a0 * 4294967296 + a1 * 4294967296) := by unfold I64; omega
    have k4 : I64 (a0 * 4294967296 - a1 * 4294967296) := by unfold I64; omega
    obtain ⟨m1, m2⟩ := mul_wholes hA hB
    have c1 := fixOf_c a0 A
    have c2 := fixOf_c a1 B
    have c3 := fixAdd_c _ _ k1 k2
    have c4 := fixMul_c _ _ k1 k2
    have c5 := fixSub_c _ _ k1 k2
    rw [of_in hA] at c1
    rw [of_in hB] at c2
    rw [addR_in k3] at c3
    rw [subR_in k4] at c5
    rw [m1] at c4
    have c6 := fixWhole_c _ k3
    have c7 := fixWhole_c _ m2
    have c8 := fixWhole_c _ k4
    have c9 := fixWhole_c _ k1
    have t1 : I64 (a0 + a1) := by unfold I64; omega
    have t2 : I64 (a0 - a1) := by unfold I64; omega
    have t3 : I64 (a0 - 1) := by unfold I64; omega
    have t4 : I64 (a0 * a1) := by unfold I64 at m2 ⊢; omega
    rw [show (a0 * 4294967296 + a1 * 4294967296) / 4294967296 = a0 + a1 by omega, ← wrap64_id t1] at c6
    rw [Int.mul_ediv_cancel _ (show (4294967296 : Int) ≠ 0 by omega)] at c9
    rw [show a0 * a1 * 4294967296 / 4294967296 = wrap64 (a0 * a1) by rw [wrap64_id t4, Int.mul_ediv_cancel _ (by omega)]] at c7
    rw [show (a0 * 4294967296 - a1 * 4294967296) / 4294967296 = a0 - a1 by omega, ← wrap64_id t2] at c8
    have c10 := fixWhole_c (wrap64 (a0 * 4294967296 + 2147483648)) (wrap64_i64 _)
    have c11 := fixWhole_c (wrap64 (a0 * 4294967296 - 1)) (wrap64_i64 _)
    have e10 : wrap64 (a0 * 4294967296 + 2147483648) / 4294967296 = a0 := by rw [wrap64_id (by unfold I64; omega)]; omega
    have e11 : wrap64 (a0 * 4294967296 - 1) / 4294967296 = a0 - 1 := by rw [wrap64_id (by unfold I64; omega)]; omega
    rw [e10] at c10
    rw [e11, ← wrap64_id t3] at c11
    have g1 : decide (a0 < -30000) = false := decide_eq_false (by omega)
    have g2 : decide (a1 < -30000) = false := decide_eq_false (by omega)
    have g3 : decide (30000 < a0) = false := decide_eq_false (by omega)
    have g4 : decide (30000 < a1) = false := decide_eq_false (by omega)
    clear k1 k2 k3 k4 m1 t1 t2 t3 t4 e10 e11 hb hA hB m2 A B
    generalize a0 * 4294967296 + a1 * 4294967296 = S at *
    generalize a0 * 4294967296 - a1 * 4294967296 = D at *
    generalize a0 * a1 * 4294967296 = P at *
    generalize a0 * 4294967296 = X at *
    generalize a1 * 4294967296 = Y at *
    have C1 := Lib.hid c1; have C2 := Lib.hid c2; have C3 := Lib.hid c3; have C4 := Lib.hid c4; have C5 := Lib.hid c5; have C6 := Lib.hid c6
    have C7 := Lib.hid c7; have C8 := Lib.hid c8; have C9 := Lib.hid c9; have C10 := Lib.hid c10; have C11 := Lib.hid c11
    clear c1 c2 c3 c4 c5 c6 c7 c8 c9 c10 c11
    go_enter Try.func14, Try.ntmps14
    go_wp2_with fail
    refine (c0.out _).mono ?_; rintro e w' ⟨rfl, nd2, rfl⟩
    go_wp2_with fail
    refine (C1.out _).mono ?_; rintro e w' ⟨rfl, nd3, rfl⟩
    go_wp2_with fail
    refine (C2.out _).mono ?_; rintro e w' ⟨rfl, nd4, rfl⟩
    go_wp2_with fail
    refine (C3.out _).mono ?_; rintro e w' ⟨rfl, nd5, rfl⟩
    go_wp2_with fail
    refine (C4.out _).mono ?_; rintro e w' ⟨rfl, nd6, rfl⟩
    go_wp2_with fail
    refine (C5.out _).mono ?_; rintro e w' ⟨rfl, nd7, rfl⟩
    go_wp2_with fail
    refine (C6.out _).mono ?_; rintro e w' ⟨rfl, nd8, rfl⟩
    go_wp2_with fail
    refine (C7.out _).mono ?_; rintro e w' ⟨rfl, nd9, rfl⟩
    go_wp2_with fail
    refine (C8.out _).mono ?_; rintro e w' ⟨rfl, nd10, rfl⟩
    go_wp2_with fail
    refine (C9.out _).mono ?_; rintro e w' ⟨rfl, nd11, rfl⟩
    go_wp2_with fail
    refine (C10.out _).mono ?_; rintro e w' ⟨rfl, nd12, rfl⟩
    go_wp2_with fail
    · go_ret
      exact ⟨rfl, Grown.drewN (Grown.refl _) _⟩
    · refine (C11.out _).mono ?_; rintro e w' ⟨rfl, ndz, rfl⟩
      go_wp2_with fail
      go_ret
      exact ⟨rfl, Grown.drewN (Grown.refl _) _⟩

/-! ### THE ROW's STEP: WRITTEN OUT: LEAVE IT -/
set_option maxRecDepth 100000 in
theorem lifted (os : Os) (started : os.Started) (H : Type) (enc : TypeId × Value → H) :
    ReturnsInHanded {} Try.checked os 14 .any (Rows.fixWholesSpec.pre6 enc Try.prog Try.f14 Rows.fixWholesRow.domain false) (Rows.fixWholesSpec.post enc Try.prog Try.f14 false true false false) := by
  refine returnsInHanded_of_change (C := Try.checked) own started (by kernel_rfl) Try.func14
    (ChangeSpec.witness6 (enc := enc) (C := Try.checked) false ⟨#[], #[.int .i64 0, .int .i64 0], []⟩ 8 (by kernel_rfl) (by kernel_rfl) (by kernel_rfl) (by kernel_rfl)) ?_
  intro W base args ds gs before hval0 hW hcnd _
  have hval : ∀ (j : Nat) t v, Try.f14.params[j]? = some t → args[j]? = some v → Value.okWide Try.prog W .any base t v := hval0
  have hW' := hW
  obtain ⟨p, q, hA0, hV, rfl, hfz, hnd⟩ := hW
  have hA : DataW.TrodAll enc Try.prog W 0 (fun _ => true) true Try.f14.params.toList args.toList ds p := hA0
  rw [Try.params14] at hA hval
  obtain ⟨v0, vs0, d0, ds0, p0, q0, hargs, rfl, rfl, h0, r0⟩ := trodAll_cons hA
  obtain ⟨v1, vs1, d1, ds1, p1, q1, rfl, rfl, rfl, h1, r1⟩ := trodAll_cons r0
  obtain ⟨rfl, rfl, rfl⟩ := trodAll_nil r1
  obtain rfl : args = #[v0, v1] := by cases args; simp_all
  obtain ⟨rfl, rfl⟩ := trodVars_none hV
  obtain ⟨a0, rfl, rfl, rfl, w0⟩ := open_int Try.underlying3 (hval 0 3 v0 rfl rfl) h0
  obtain ⟨a1, rfl, rfl, rfl, w1⟩ := open_int Try.underlying3 (hval 1 3 v1 rfl rfl) h1
  clear hA0 hval0
  simp only [List.append_nil] at hW'
  refine (walk a0 a1 w0 w1 W).mono fun e W' ⟨he, hg⟩ => ?_
  subst he
  exact ⟨_, rfl, post_of_same (pa := []) (pv := []) hW' (fun _ _ _ => (trodAll_cons_mk (shut_bool Try.underlying4 _) trodAll_mk0)) (fun sp _ => (trodAll_cons_mk (shut_int Try.underlying3 w0) (trodAll_cons_mk (shut_int Try.underlying3 w1) trodAll_mk0))) (fun _ _ => rfl) rfl
    (hg.frame _) hg.2.1 (ok_one (by kernel_rfl) rfl (okWide_bool_mk Try.underlying4 _))⟩

theorem closed : joinedFacts Try.prog 14 Try.f14 Rows.fixWholesSpec Rows.fixWholesRow = true := by
  unfold joinedFacts
  rw [fact_laid, fact_maps, fact_keys, fact_heard, fact_stops, fact_knobs, fact_enter, fact_lifts, fact_make]
  kernel_rfl

theorem over : Rows.fixWholesRow.holds Try.pinned (OpenSpec.ofChange Rows.fixWholesSpec) :=
  OpenClaim.holds_of_wide 14 Try.f14 rfl rfl rfl rfl rfl rfl rfl ⟨rfl, rfl, rfl, rfl, rfl⟩ rfl rfl rfl rfl rfl (by kernel_rfl) Try.func14 closed
    (of_decide_eq_true (by kernel_rfl)) (by unfold Func.isWrapper; first | (rw [if_pos (by decide +kernel)]; kernel_rfl) | (rw [if_neg (by decide +kernel)]; exact ⟨rfl, rfl⟩))
    (fun os started H enc _ => lifted os started H enc)

/-- ████ THE STATEMENT ████ -/
theorem proved : Rows.FixWholesSaid :=
  over
#print axioms proved
end Go.Proofs.Ytdkaaifbmjnknaa.fixWholes
