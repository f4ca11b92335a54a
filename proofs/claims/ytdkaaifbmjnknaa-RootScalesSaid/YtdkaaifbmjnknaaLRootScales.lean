/- For every number RootScales returns true: of four times a number the root is twice as much, or one more. -/
import Derived.Test.YtdkaaifbmjnknaaRows
import Derived.WalkKit
import Derived.ProofKit
import Derived.OpenShut
import Derived.Test.YtdkaaifbmjnknaaFacts
import Derived.Test.YtdkaaifbmjnknaaRootLo
namespace Go.Proofs.Ytdkaaifbmjnknaa.rootScales
open Go.ChangeShapes Go.WideShapes Go.ChangeAt Go.RowKit M
set_option maxRecDepth 100000
set_option maxHeartbeats 4000000
set_option linter.unusedVariables false      -- a walk need not use every 'w<i>' (that an integer argument fits its kind)

theorem own : ownKnob Try.prog.godebug = none := by kernel_rfl

theorem scale4 {N : Int} (h0 : 0 ≤ N) (h1 : 4 * N < 340282366920938463463374607431768211456) : isq (4 * N) = 2 * isq N ∨ isq (4 * N) = 2 * isq N + 1 := by
  obtain ⟨a, b⟩ := isq_spec h0 (by omega)
  have z := isq_nonneg N
  generalize isq N = x at *
  rw [Int.add_mul, Int.mul_add] at b
  have p : 0 ≤ x * x := Int.mul_nonneg z z
  by_cases h : 4 * N < (2 * x + 1) * (2 * x + 1)
  · left
    refine isq_unique (by omega) h1 (by omega) ?_ h
    have : 2 * x * (2 * x) = 4 * (x * x) := by rw [Int.mul_assoc, Int.mul_left_comm x, ← Int.mul_assoc]; rfl
    omega
  · right
    refine isq_unique (by omega) h1 (by omega) (by omega) ?_
    have : (2 * x + 1 + 1) * (2 * x + 1 + 1) = 4 * (x * x) + 8 * x + 4 := by
      have e : 2 * x * (2 * x) = 4 * (x * x) := by rw [Int.mul_assoc, Int.mul_left_comm x, ← Int.mul_assoc]; rfl
      have : 2 * x + 1 + 1 = 2 * x + 2 := by omega
      rw [this, Int.add_mul, Int.mul_add, Int.mul_add, e]; omega
    omega
/-! ### STEP 1: THE WALK: the Go text returns true. 'Grown w w'': the world has at most new blocks (Derived/RowKit3.lean). Part the cases AHEAD of 'go_enter' where a test parts the walk; take each callee by a contract of your own. -/
theorem walk (a0 : Int) (w0 : (Lit.int .i64 a0).wf = true) (w : World) :
    Calls Try.prog 8 #[.int .i64 a0] w fun e w' => e = .returned (.bool true) ∧ Grown w w' := by
  have A := i64_wf w0
  have c0 := Lib.hid (alive4_c)
  by_cases hb : a0 < 0 ∨ 1152921504606846976 < a0
  · go_enter Try.func8, Try.ntmps8
    go_wp2_with fail
    all_goals
      (with_reducible refine (c0.out _).mono ?_); rintro e w' ⟨rfl, nd1, rfl⟩
      go_wp2_with fail
    all_goals
      go_ret
      exact ⟨rfl, Grown.drewN (Grown.refl _) _⟩
  · have b0 : 0 ≤ a0 := by omega
    have b1 : a0 ≤ 1152921504606846976 := by omega
    have A4 : I64 (4 * a0) := by unfold I64; omega
    have c1 := sqrt_c a0 A
    have c2 := sqrt_c (4 * a0) A4
    unfold sqrtR at c1 c2
    rw [if_neg (by omega)] at c1 c2
    rw [Int.mul_assoc] at c2
    have k := scale4 (N := a0 * 4294967296) (by omega) (by omega)
    have k2 := sqrt_small b0 A
    have k3 := isq_nonneg (a0 * 4294967296)
    generalize isq (a0 * 4294967296) = x at *
    generalize isq (4 * (a0 * 4294967296)) = y at *
    have d : (y == wrap64 (2 * x)) = true ∨ ((y == wrap64 (2 * x)) = false ∧ (y == wrap64 (wrap64 (2 * x) + 1)) = true) := by
      have e : wrap64 (2 * x) = 2 * x := wrap64_id (by unfold I64; omega)
      have e2 : wrap64 (2 * x + 1) = 2 * x + 1 := wrap64_id (by unfold I64; omega)
      rw [e, e2]
      rcases k with k | k
      · exact Or.inl (beq_iff_eq.2 k)
      · exact Or.inr ⟨beq_eq_false_iff_ne.2 (by omega), beq_iff_eq.2 k⟩
    have C1 := Lib.hid c1; have C2 := Lib.hid c2
    clear c1 c2 k k2 k3 hb
    rcases d with d1 | ⟨d1, d2⟩
    all_goals
      go_enter Try.func8, Try.ntmps8
      go_wp2_with fail
      (with_reducible refine (c0.out _).mono ?_); rintro e w' ⟨rfl, nd2, rfl⟩
      go_wp2_with fail
      (with_reducible refine (C1.out _).mono ?_); rintro e w' ⟨rfl, nd3, rfl⟩
      go_wp2_with fail
      (with_reducible refine (C2.out _).mono ?_); rintro e w' ⟨rfl, nd4, rfl⟩
      go_wp2_with fail
      go_ret
      exact ⟨rfl, Grown.drewN (Grown.refl _) _⟩

/-! ### THE ROW's STEP: WRITTEN OUT: LEAVE IT -/
set_option maxRecDepth 100000 in
theorem lifted (os : Os) (started : os.Started) (H : Type) (enc : TypeId × Value → H) :
    ReturnsInHanded {} Try.checked os 8 .any (Rows.rootScalesSpec.pre6 enc Try.prog Try.f8 Rows.rootScalesRow.domain false) (Rows.rootScalesSpec.post enc Try.prog Try.f8 false true false false) := by
  refine returnsInHanded_of_change (C := Try.checked) own started (by kernel_rfl) Try.func8
    (ChangeSpec.witness6 (enc := enc) (C := Try.checked) false ⟨#[], #[.int .i64 0], []⟩ 8 (by kernel_rfl) (by kernel_rfl) (by kernel_rfl) (by kernel_rfl)) ?_
  intro W base args ds gs before hval0 hW hcnd _
  have hval : ∀ (j : Nat) t v, Try.f8.params[j]? = some t → args[j]? = some v → Value.okWide Try.prog W .any base t v := hval0
  have hW' := hW
  obtain ⟨p, q, hA0, hV, rfl, hfz, hnd⟩ := hW
  have hA : DataW.TrodAll enc Try.prog W 0 (fun _ => true) true Try.f8.params.toList args.toList ds p := hA0
  rw [Try.params8] at hA hval
  obtain ⟨v0, vs0, d0, ds0, p0, q0, hargs, rfl, rfl, h0, r0⟩ := trodAll_cons hA
  obtain ⟨rfl, rfl, rfl⟩ := trodAll_nil r0
  obtain rfl : args = #[v0] := by cases args; simp_all
  obtain ⟨rfl, rfl⟩ := trodVars_none hV
  obtain ⟨a0, rfl, rfl, rfl, w0⟩ := open_int Try.underlying23 (hval 0 23 v0 rfl rfl) h0
  clear hA0 hval0
  simp only [List.append_nil] at hW'
  refine (walk a0 w0 W).mono fun e W' ⟨he, hg⟩ => ?_
  subst he
  exact ⟨_, rfl, post_of_same (pa := []) (pv := []) hW' (fun _ _ _ => (trodAll_cons_mk (shut_bool Try.underlying4 _) trodAll_mk0)) (fun sp _ => (trodAll_cons_mk (shut_int Try.underlying23 w0) trodAll_mk0)) (fun _ _ => rfl) rfl
    (hg.frame _) hg.2.1 (ok_one (by kernel_rfl) rfl (okWide_bool_mk Try.underlying4 _))⟩

theorem closed : joinedFacts Try.prog 8 Try.f8 Rows.rootScalesSpec Rows.rootScalesRow = true := by
  unfold joinedFacts
  rw [fact_laid, fact_maps, fact_keys, fact_heard, fact_stops, fact_knobs, fact_enter, fact_lifts, fact_make]
  kernel_rfl

theorem over : Rows.rootScalesRow.holds Try.pinned (OpenSpec.ofChange Rows.rootScalesSpec) :=
  OpenClaim.holds_of_wide 8 Try.f8 rfl rfl rfl rfl rfl rfl rfl ⟨rfl, rfl, rfl, rfl, rfl⟩ rfl rfl rfl rfl rfl (by kernel_rfl) Try.func8 closed
    (of_decide_eq_true (by kernel_rfl)) (by unfold Func.isWrapper; first | (rw [if_pos (by decide +kernel)]; kernel_rfl) | (rw [if_neg (by decide +kernel)]; exact ⟨rfl, rfl⟩))
    (fun os started H enc _ => lifted os started H enc)

/-- ████ THE STATEMENT ████ -/
theorem proved : Rows.RootScalesSaid :=
  over
#print axioms proved
end Go.Proofs.Ytdkaaifbmjnknaa.rootScales
