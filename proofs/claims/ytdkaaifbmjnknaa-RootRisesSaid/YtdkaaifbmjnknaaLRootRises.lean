/- For every three numbers RootRises returns true: of a greater number the root is no less; of a square it is its side. -/
import Derived.Test.YtdkaaifbmjnknaaRows
import Derived.WalkKit
import Derived.ProofKit
import Derived.OpenShut
import Derived.Test.YtdkaaifbmjnknaaFacts
import Derived.Test.YtdkaaifbmjnknaaRootLo
namespace Go.Proofs.Ytdkaaifbmjnknaa.rootRises
open Go.ChangeShapes Go.WideShapes Go.ChangeAt Go.RowKit M
set_option maxRecDepth 100000
set_option maxHeartbeats 4000000
set_option linter.unusedVariables false      -- a walk need not use every 'w<i>' (that an integer argument fits its kind)

theorem own : ownKnob Try.prog.godebug = none := by kernel_rfl

/-! ### STEP 1: THE WALK: the Go text returns true. 'Grown w w'': the world has at most new blocks (Derived/RowKit3.lean). Part the cases AHEAD of 'go_enter' where a test parts the walk; take each callee by a contract of your own. -/
theorem walk (a0 : Int) (a1 : Int) (a2 : Int) (w0 : (Lit.int .i64 a0).wf = true) (w1 : (Lit.int .i64 a1).wf = true) (w2 : (Lit.int .u64 a2).wf = true) (w : World) :
    Calls Try.prog 6 #[.int .i64 a0, .int .i64 a1, .int .u64 a2] w fun e w' => e = .returned (.bool true) ∧ Grown w w' := by
  have A := i64_wf w0
  have B := i64_wf w1
  have C := u64_wf w2
  have c0 := Lib.hid (alive4_c)
  by_cases hb : a0 < 0 ∨ a1 < 0
  · go_enter Try.func6, Try.ntmps6
    go_wp2_with fail
    all_goals
      (with_reducible refine (c0.out _).mono ?_); rintro e w' ⟨rfl, nd1, rfl⟩
      go_wp2_with fail
    all_goals
      go_ret
      exact ⟨rfl, Grown.drewN (Grown.refl _) _⟩
  · have b0 : 0 ≤ a0 := by omega
    have b1 : 0 ≤ a1 := by omega
    have c1 := sqrt_c a0 A
    have c2 := sqrt_c a1 B
    unfold sqrtR at c1 c2
    rw [if_neg (by omega)] at c1 c2
    have k := fun h => isq_mono (m := a0 * 4294967296) (n := a1 * 4294967296) (by omega) h (by unfold I64 at B; omega)
    have k' : a0 ≤ a1 → isq (a0 * 4294967296) ≤ isq (a1 * 4294967296) := fun h => k (by omega)
    generalize isq (a0 * 4294967296) = x at *
    generalize isq (a1 * 4294967296) = y at *
    have hm := maskY a2 C.1 (by unfold U64 at C; omega)
    have m0 : 0 ≤ a2 % 4294967296 := by omega
    have m1 : a2 % 4294967296 < 4294967296 := by omega
    generalize a2 % 4294967296 = m at *
    have p0 : 0 ≤ m * m := Int.mul_nonneg m0 m0
    have p1 : m * m ≤ 4294967295 * 4294967295 := Int.mul_le_mul (by omega) (by omega) m0 (by omega)
    have e : IntKind.u64.wrap (m * m) = m * m := u64_id (by unfold U64; omega)
    have c3 := int_c (IntKind.u64.wrap (m * m)) (u64_u64 _)
    have e3 : isq (IntKind.u64.wrap (m * m)) = m := by rw [e]; exact isq_sq m0 (by omega)
    have c4 := int_c (IntKind.u64.wrap (IntKind.u64.wrap (m * m) - 1)) (u64_u64 _)
    have e4 : ¬ m = 0 → isq (IntKind.u64.wrap (IntKind.u64.wrap (m * m) - 1)) = IntKind.u64.wrap (m - 1) := by
      intro hm0
      have hp : m ≤ m * m := by
        have : m * 1 ≤ m * m := Int.mul_le_mul_of_nonneg_left (by omega) m0
        omega
      rw [e, u64_id (x := m * m - 1) (by unfold U64; omega), u64_id (x := m - 1) (by unfold U64; omega)]
      refine isq_unique (by omega) (by omega) (by omega) ?_ ?_
      · rw [Int.sub_mul, Int.mul_sub]; omega
      · rw [Int.sub_add_cancel]; omega
    rw [e3] at c3
    have C1 := Lib.hid c1; have C2 := Lib.hid c2; have C3 := Lib.hid c3
    have d : decide (a1 < a0) = true ∨ (decide (a1 < a0) = false ∧ decide (x ≤ y) = true) := by
      by_cases h : a1 < a0
      · exact Or.inl (decide_eq_true h)
      · exact Or.inr ⟨decide_eq_false h, decide_eq_true (k' (by omega))⟩
    by_cases hz : m = 0
    · have z := beq_iff_eq.2 hz
      clear c1 c2 c3 c4 e e3 e4 p0 p1 m0 m1 hb hz k k'
      rcases d with d1 | ⟨d1, d2⟩
      all_goals
        go_enter Try.func6, Try.ntmps6
        go_wp2_with fail
        (with_reducible refine (c0.out _).mono ?_); rintro e w' ⟨rfl, nd2, rfl⟩
        go_wp2_with fail
        (with_reducible refine (C1.out _).mono ?_); rintro e w' ⟨rfl, nd3, rfl⟩
        go_wp2_with fail
        (with_reducible refine (C2.out _).mono ?_); rintro e w' ⟨rfl, nd4, rfl⟩
        go_wp2_with fail
        (with_reducible refine (C3.out _).mono ?_); rintro e w' ⟨rfl, nd5, rfl⟩
        go_wp2_with fail
        go_ret
        exact ⟨rfl, Grown.drewN (Grown.refl _) _⟩
    · have z := beq_eq_false_iff_ne.2 hz
      rw [e4 hz] at c4
      have C4 := Lib.hid c4
      clear c1 c2 c3 c4 e e3 e4 p0 p1 m0 m1 hb hz k k'
      rcases d with d1 | ⟨d1, d2⟩
      all_goals
        go_enter Try.func6, Try.ntmps6
        go_wp2_with fail
        (with_reducible refine (c0.out _).mono ?_); rintro e w' ⟨rfl, nd6, rfl⟩
        go_wp2_with fail
        (with_reducible refine (C1.out _).mono ?_); rintro e w' ⟨rfl, nd7, rfl⟩
        go_wp2_with fail
        (with_reducible refine (C2.out _).mono ?_); rintro e w' ⟨rfl, nd8, rfl⟩
        go_wp2_with fail
        (with_reducible refine (C3.out _).mono ?_); rintro e w' ⟨rfl, nd9, rfl⟩
        go_wp2_with fail
        (with_reducible refine (C4.out _).mono ?_); rintro e w' ⟨rfl, nd10, rfl⟩
        go_wp2_with fail
        go_ret
        exact ⟨rfl, Grown.drewN (Grown.refl _) _⟩

/-! ### THE ROW's STEP: WRITTEN OUT: LEAVE IT -/
set_option maxRecDepth 100000 in
theorem lifted (os : Os) (started : os.Started) (H : Type) (enc : TypeId × Value → H) :
    ReturnsInHanded {} Try.checked os 6 .any (Rows.rootRisesSpec.pre6 enc Try.prog Try.f6 Rows.rootRisesRow.domain false) (Rows.rootRisesSpec.post enc Try.prog Try.f6 false true false false) := by
  refine returnsInHanded_of_change (C := Try.checked) own started (by kernel_rfl) Try.func6
    (ChangeSpec.witness6 (enc := enc) (C := Try.checked) false ⟨#[], #[.int .i64 0, .int .i64 0, .int .u64 0], []⟩ 8 (by kernel_rfl) (by kernel_rfl) (by kernel_rfl) (by kernel_rfl)) ?_
  intro W base args ds gs before hval0 hW hcnd _
  have hval : ∀ (j : Nat) t v, Try.f6.params[j]? = some t → args[j]? = some v → Value.okWide Try.prog W .any base t v := hval0
  have hW' := hW
  obtain ⟨p, q, hA0, hV, rfl, hfz, hnd⟩ := hW
  have hA : DataW.TrodAll enc Try.prog W 0 (fun _ => true) true Try.f6.params.toList args.toList ds p := hA0
  rw [Try.params6] at hA hval
  obtain ⟨v0, vs0, d0, ds0, p0, q0, hargs, rfl, rfl, h0, r0⟩ := trodAll_cons hA
  obtain ⟨v1, vs1, d1, ds1, p1, q1, rfl, rfl, rfl, h1, r1⟩ := trodAll_cons r0
  obtain ⟨v2, vs2, d2, ds2, p2, q2, rfl, rfl, rfl, h2, r2⟩ := trodAll_cons r1
  obtain ⟨rfl, rfl, rfl⟩ := trodAll_nil r2
  obtain rfl : args = #[v0, v1, v2] := by cases args; simp_all
  obtain ⟨rfl, rfl⟩ := trodVars_none hV
  obtain ⟨a0, rfl, rfl, rfl, w0⟩ := open_int Try.underlying23 (hval 0 23 v0 rfl rfl) h0
  obtain ⟨a1, rfl, rfl, rfl, w1⟩ := open_int Try.underlying23 (hval 1 23 v1 rfl rfl) h1
  obtain ⟨a2, rfl, rfl, rfl, w2⟩ := open_int Try.underlying22 (hval 2 22 v2 rfl rfl) h2
  clear hA0 hval0
  simp only [List.append_nil] at hW'
  refine (walk a0 a1 a2 w0 w1 w2 W).mono fun e W' ⟨he, hg⟩ => ?_
  subst he
  exact ⟨_, rfl, post_of_same (pa := []) (pv := []) hW' (fun _ _ _ => (trodAll_cons_mk (shut_bool Try.underlying4 _) trodAll_mk0)) (fun sp _ => (trodAll_cons_mk (shut_int Try.underlying23 w0) (trodAll_cons_mk (shut_int Try.underlying23 w1) (trodAll_cons_mk (shut_int Try.underlying22 w2) trodAll_mk0)))) (fun _ _ => rfl) rfl
    (hg.frame _) hg.2.1 (ok_one (by kernel_rfl) rfl (okWide_bool_mk Try.underlying4 _))⟩

theorem closed : joinedFacts Try.prog 6 Try.f6 Rows.rootRisesSpec Rows.rootRisesRow = true := by
  unfold joinedFacts
  rw [fact_laid, fact_maps, fact_keys, fact_heard, fact_stops, fact_knobs, fact_enter, fact_lifts, fact_make]
  kernel_rfl

theorem over : Rows.rootRisesRow.holds Try.pinned (OpenSpec.ofChange Rows.rootRisesSpec) :=
  OpenClaim.holds_of_wide 6 Try.f6 rfl rfl rfl rfl rfl rfl rfl ⟨rfl, rfl, rfl, rfl, rfl⟩ rfl rfl rfl rfl rfl (by kernel_rfl) Try.func6 closed
    (of_decide_eq_true (by kernel_rfl)) (by unfold Func.isWrapper; first | (rw [if_pos (by decide +kernel)]; kernel_rfl) | (rw [if_neg (by decide +kernel)]; exact ⟨rfl, rfl⟩))
    (fun os started H enc _ => lifted os started H enc)

/-- ████ THE STATEMENT ████ -/
theorem proved : Rows.RootRisesSaid :=
  over
#print axioms proved
end Go.Proofs.Ytdkaaifbmjnknaa.rootRises
