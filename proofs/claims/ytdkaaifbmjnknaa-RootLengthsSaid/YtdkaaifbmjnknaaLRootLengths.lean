/- For every two numbers RootLengths returns true: a length does not hang on signs nor on which side is first; it is no less than either side and no more than both. -/
import Derived.Test.YtdkaaifbmjnknaaRows
import Derived.WalkKit
import Derived.ProofKit
import Derived.OpenShut
import Derived.Test.YtdkaaifbmjnknaaFacts
import Derived.Test.YtdkaaifbmjnknaaRootLo
import Derived.WalkLawsBesides
namespace Go.Proofs.Ytdkaaifbmjnknaa.rootLengths
open Go.ChangeShapes Go.WideShapes Go.ChangeAt Go.RowKit M
set_option maxRecDepth 100000
set_option maxHeartbeats 4000000
set_option linter.unusedVariables false      -- a walk need not use every 'w<i>' (that an integer argument fits its kind)

theorem own : ownKnob Try.prog.godebug = none := by kernel_rfl

theorem lenR_sym (x y : Int) : lenR y (-x) = lenR x y := by
  unfold lenR; rw [absF_neg, Int.add_comm]
theorem lenR_sides {x y : Int} (hx : I64 x) (hy : I64 y) (h : (lenR x y).2 = 0) : absF x ≤ (lenR x y).1 ∧ absF y ≤ (lenR x y).1 ∧ (lenR x y).1 ≤ absF x + absF y ∧ I64 (lenR x y).1 := by
  revert h
  unfold lenR
  have p := sq_bounds hx
  have q := sq_bounds hy
  have a := absF_nonneg x
  have b := absF_nonneg y
  split
  · simp
  · intro _
    dsimp only
    have k1 := isq_le (n := absF x * absF x + absF y * absF y) (by omega) (by omega) a (by omega)
    have k2 := isq_le (n := absF x * absF x + absF y * absF y) (by omega) (by omega) b (by omega)
    have k3 := isq_spec (n := absF x * absF x + absF y * absF y) (by omega) (by omega)
    have k4 := isq_nonneg (absF x * absF x + absF y * absF y)
    refine ⟨k1, k2, ?_, by unfold I64; omega⟩
    refine sq_le (by omega) ?_
    rw [Int.add_mul, Int.mul_add, Int.mul_add]
    have := Int.mul_nonneg a b
    have := Int.mul_nonneg b a
    omega
theorem abs_ge (x : Int) : x ≤ absF x ∧ -x ≤ absF x ∧ (absF x = x ∨ absF x = -x) := by unfold absF; split <;> omega
/-! ### STEP 1: THE WALK: the Go text returns true. 'Grown w w'': the world has at most new blocks (Derived/RowKit3.lean). Part the cases AHEAD of 'go_enter' where a test parts the walk; take each callee by a contract of your own. -/
theorem walk (a0 : Int) (a1 : Int) (w0 : (Lit.int .i64 a0).wf = true) (w1 : (Lit.int .i64 a1).wf = true) (w : World) :
    Calls Try.prog 5 #[.int .i64 a0, .int .i64 a1] w fun e w' => e = .returned (.bool true) ∧ Grown w w' := by
  have A := i64_wf w0
  have B := i64_wf w1
  have c0 := Lib.hid (alive4_c)
  by_cases hm : a0 = -9223372036854775808 ∨ a1 = -9223372036854775808
  · have h0 : (a0 == -9223372036854775808) = true ∨ ((a0 == -9223372036854775808) = false ∧ (a1 == -9223372036854775808) = true) := by
      by_cases h : a0 = -9223372036854775808
      · exact Or.inl (beq_iff_eq.2 h)
      · exact Or.inr ⟨beq_eq_false_iff_ne.2 h, beq_iff_eq.2 (hm.resolve_left h)⟩
    clear hm
    rcases h0 with h1 | ⟨h1, h2⟩
    all_goals
      go_enter Try.func5, Try.ntmps5
      go_wp2_with fail
      (with_reducible refine (c0.out _).mono ?_); rintro e w' ⟨rfl, nd1, rfl⟩
      go_wp2_with fail
      go_ret
      exact ⟨rfl, Grown.drewN (Grown.refl _) _⟩
  · have h1 : (a0 == -9223372036854775808) = false := beq_eq_false_iff_ne.2 (by omega)
    have h2 : (a1 == -9223372036854775808) = false := beq_eq_false_iff_ne.2 (by omega)
    have A' : I64 (-a0) := by unfold I64 at *; omega
    have b0 : -9223372036854775807 ≤ a0 ∧ a0 ≤ 9223372036854775807 := by unfold I64 at A; omega
    have b1 : -9223372036854775807 ≤ a1 ∧ a1 ≤ 9223372036854775807 := by unfold I64 at B; omega
    have c1 := rootLen_c a0 a1 A B
    have c2 := rootLen_c a1 (-a0) B A'
    rw [lenR_sym] at c2
    have s := lenR_sides A B
    have er : (lenR a0 a1).2 = 0 ∨ lenR a0 a1 = (0, 3) := by unfold lenR; split <;> simp
    generalize lenR a0 a1 = p at *
    obtain ⟨p, e⟩ := p
    dsimp only at *
    have C1 := Lib.hid c1; have C2 := Lib.hid c2
    rcases er with rfl | er
    · have S := Lib.hid (s rfl)
      clear hm c1 c2 s
      go_enter Try.func5, Try.ntmps5
      go_wp2_with fail
      (with_reducible refine (c0.out _).mono ?_); rintro e w' ⟨rfl, nd2, rfl⟩
      go_wp2_with fail
      (with_reducible refine (C1.out _).mono ?_); rintro e w' ⟨rfl, nd3, rfl⟩
      go_wp2_with fail
      (with_reducible refine (C2.out _).mono ?_); rintro e w' ⟨rfl, nd4, rfl⟩
      go_wp2_with fail
      all_goals
        go_ret
        refine ⟨rb ?_, Grown.drewN (Grown.refl _) _⟩
        have s := S.out
        unfold I64 at s
        have t0 := abs_ge a0
        have t1 := abs_ge a1
        generalize absF a0 = u at *
        generalize absF a1 = v at *
        first
        | rfl
        | (exfalso; clear S C1 C2 c0; omega)
        | (refine decide_eq_true ?_; simp only [IntKind.wrap_u64]; clear S C1 C2 c0; omega)
    · simp only [Prod.mk.injEq] at er
      obtain ⟨rfl, rfl⟩ := er
      clear hm c1 c2 s
      go_enter Try.func5, Try.ntmps5
      go_wp2_with fail
      (with_reducible refine (c0.out _).mono ?_); rintro e w' ⟨rfl, nd5, rfl⟩
      go_wp2_with fail
      (with_reducible refine (C1.out _).mono ?_); rintro e w' ⟨rfl, nd6, rfl⟩
      go_wp2_with fail
      (with_reducible refine (C2.out _).mono ?_); rintro e w' ⟨rfl, nd7, rfl⟩
      go_wp2_with fail
      go_ret
      exact ⟨rfl, Grown.drewN (Grown.refl _) _⟩

/-! ### THE ROW's STEP: WRITTEN OUT: LEAVE IT -/
set_option maxRecDepth 100000 in
theorem lifted (os : Os) (started : os.Started) (H : Type) (enc : TypeId × Value → H) :
    ReturnsInHanded {} Try.checked os 5 .any (Rows.rootLengthsSpec.pre6 enc Try.prog Try.f5 Rows.rootLengthsRow.domain false) (Rows.rootLengthsSpec.post enc Try.prog Try.f5 false true false false) := by
  refine returnsInHanded_of_change (C := Try.checked) own started (by kernel_rfl) Try.func5
    (ChangeSpec.witness6 (enc := enc) (C := Try.checked) false ⟨#[], #[.int .i64 0, .int .i64 0], []⟩ 8 (by kernel_rfl) (by kernel_rfl) (by kernel_rfl) (by kernel_rfl)) ?_
  intro W base args ds gs before hval0 hW hcnd _
  have hval : ∀ (j : Nat) t v, Try.f5.params[j]? = some t → args[j]? = some v → Value.okWide Try.prog W .any base t v := hval0
  have hW' := hW
  obtain ⟨p, q, hA0, hV, rfl, hfz, hnd⟩ := hW
  have hA : DataW.TrodAll enc Try.prog W 0 (fun _ => true) true Try.f5.params.toList args.toList ds p := hA0
  rw [Try.params5] at hA hval
  obtain ⟨v0, vs0, d0, ds0, p0, q0, hargs, rfl, rfl, h0, r0⟩ := trodAll_cons hA
  obtain ⟨v1, vs1, d1, ds1, p1, q1, rfl, rfl, rfl, h1, r1⟩ := trodAll_cons r0
  obtain ⟨rfl, rfl, rfl⟩ := trodAll_nil r1
  obtain rfl : args = #[v0, v1] := by cases args; simp_all
  obtain ⟨rfl, rfl⟩ := trodVars_none hV
  obtain ⟨a0, rfl, rfl, rfl, w0⟩ := open_int Try.underlying23 (hval 0 23 v0 rfl rfl) h0
  obtain ⟨a1, rfl, rfl, rfl, w1⟩ := open_int Try.underlying23 (hval 1 23 v1 rfl rfl) h1
  clear hA0 hval0
  simp only [List.append_nil] at hW'
  refine (walk a0 a1 w0 w1 W).mono fun e W' ⟨he, hg⟩ => ?_
  subst he
  exact ⟨_, rfl, post_of_same (pa := []) (pv := []) hW' (fun _ _ _ => (trodAll_cons_mk (shut_bool Try.underlying4 _) trodAll_mk0)) (fun sp _ => (trodAll_cons_mk (shut_int Try.underlying23 w0) (trodAll_cons_mk (shut_int Try.underlying23 w1) trodAll_mk0))) (fun _ _ => rfl) rfl
    (hg.frame _) hg.2.1 (ok_one (by kernel_rfl) rfl (okWide_bool_mk Try.underlying4 _))⟩

theorem closed : joinedFacts Try.prog 5 Try.f5 Rows.rootLengthsSpec Rows.rootLengthsRow = true := by
  unfold joinedFacts
  rw [fact_laid, fact_maps, fact_keys, fact_heard, fact_stops, fact_knobs, fact_enter, fact_lifts, fact_make]
  kernel_rfl

theorem over : Rows.rootLengthsRow.holds Try.pinned (OpenSpec.ofChange Rows.rootLengthsSpec) :=
  OpenClaim.holds_of_wide 5 Try.f5 rfl rfl rfl rfl rfl rfl rfl ⟨rfl, rfl, rfl, rfl, rfl⟩ rfl rfl rfl rfl rfl (by kernel_rfl) Try.func5 closed
    (of_decide_eq_true (by kernel_rfl)) (by unfold Func.isWrapper; first | (rw [if_pos (by decide +kernel)]; kernel_rfl) | (rw [if_neg (by decide +kernel)]; exact ⟨rfl, rfl⟩))
    (fun os started H enc _ => lifted os started H enc)

/-- ████ THE STATEMENT ████ -/
theorem proved : Rows.RootLengthsSaid :=
  over
#print axioms proved
end Go.Proofs.Ytdkaaifbmjnknaa.rootLengths
