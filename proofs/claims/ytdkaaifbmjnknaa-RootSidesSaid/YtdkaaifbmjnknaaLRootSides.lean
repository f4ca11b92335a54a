/- For every number RootSides returns true: a length of one side is that side; of 3 and 4 parts it is 5. -/
import Derived.Test.YtdkaaifbmjnknaaRows
import Derived.WalkKit
import Derived.ProofKit
import Derived.OpenShut
import Derived.Test.YtdkaaifbmjnknaaFacts
import Derived.Test.YtdkaaifbmjnknaaRootLo
import Derived.WalkLawsBesides
namespace Go.Proofs.Ytdkaaifbmjnknaa.rootSides
open Go.ChangeShapes Go.WideShapes Go.ChangeAt Go.RowKit M
set_option maxRecDepth 100000
set_option maxHeartbeats 4000000
set_option linter.unusedVariables false      -- a walk need not use every 'w<i>' (that an integer argument fits its kind)

theorem own : ownKnob Try.prog.godebug = none := by kernel_rfl

theorem lenR_side {a : Int} (h : -9223372036854775807 ≤ a ∧ a ≤ 9223372036854775807) : lenR a 0 = (absF a, 0) ∧ lenR 0 a = (absF a, 0) := by
  have e0 : absF 0 = 0 := by decide
  have n := absF_nonneg a
  have b : absF a ≤ 9223372036854775807 := by unfold absF; split <;> omega
  have s := isq_sq n (by omega)
  unfold lenR
  rw [e0, Int.zero_mul, Int.add_zero, Int.zero_add, s, if_neg (by omega)]
  exact ⟨rfl, rfl⟩
theorem lenR_345 {k : Int} (h : 0 ≤ k ∧ k ≤ 100000) : lenR (3 * k) (-4 * k) = (5 * k, 0) := by
  have e1 : absF (3 * k) = 3 * k := absF_of_nonneg (by omega)
  have e2 : absF (-4 * k) = 4 * k := by
    have : -4 * k = -(4 * k) := by omega
    rw [this, absF_neg]; exact absF_of_nonneg (by omega)
  have e3 : 3 * k * (3 * k) + 4 * k * (4 * k) = 5 * k * (5 * k) := by
    have f (c : Int) : c * k * (c * k) = c * c * (k * k) := by
      rw [Int.mul_assoc, Int.mul_left_comm k, ← Int.mul_assoc]
    rw [f, f, f]; omega
  unfold lenR
  rw [e1, e2, e3, isq_sq (by omega) (by omega), if_neg (by omega)]
/-! ### STEP 1: THE WALK: the Go text returns true. 'Grown w w'': the world has at most new blocks (Derived/RowKit3.lean). Part the cases AHEAD of 'go_enter' where a test parts the walk; take each callee by a contract of your own. -/
theorem walk (a0 : Int) (a1 : Int) (w0 : (Lit.int .i64 a0).wf = true) (w1 : (Lit.int .i64 a1).wf = true) (w : World) :
    Calls Try.prog 7 #[.int .i64 a0, .int .i64 a1] w fun e w' => e = .returned (.bool true) ∧ Grown w w' := by
  have A := i64_wf w0
  have B := i64_wf w1
  have c0 := Lib.hid (alive4_c)
  by_cases hm : a0 = -9223372036854775808
  · have h1 := beq_iff_eq.2 hm
    have HM := Lib.hid hm
    clear hm
    go_enter Try.func7, Try.ntmps7
    go_wp2_with fail
    (with_reducible refine (c0.out _).mono ?_); rintro e w' ⟨rfl, nd1, rfl⟩
    go_wp2_with fail
    go_ret
    exact ⟨rfl, Grown.drewN (Grown.refl _) _⟩
  have h1 := beq_eq_false_iff_ne.2 hm
  by_cases hb : a1 < 0 ∨ 100000 < a1
  · go_enter Try.func7, Try.ntmps7
    go_wp2_with fail
    all_goals
      (with_reducible refine (c0.out _).mono ?_); rintro e w' ⟨rfl, nd2, rfl⟩
      go_wp2_with fail
    all_goals
      go_ret
      exact ⟨rfl, Grown.drewN (Grown.refl _) _⟩
  · have b0 : -9223372036854775807 ≤ a0 ∧ a0 ≤ 9223372036854775807 := by unfold I64 at A; omega
    have b1 : 0 ≤ a1 := by omega
    have b2 : a1 ≤ 100000 := by omega
    have c1 := rootLen_c a0 0 A (i64_lit (by decide))
    have c2 := rootLen_c 0 a0 (i64_lit (by decide)) A
    have c3 := rootLen_c (3 * a1) (-4 * a1) (by unfold I64; omega) (by unfold I64; omega)
    rw [(lenR_side b0).1] at c1
    rw [(lenR_side b0).2] at c2
    rw [lenR_345 ⟨b1, b2⟩] at c3
    have e : absF a0 = max a0 (-a0) := by unfold absF; split <;> omega
    rw [e] at c1 c2
    have C1 := Lib.hid c1; have C2 := Lib.hid c2; have C3 := Lib.hid c3
    clear c1 c2 c3 e hm hb
    go_enter Try.func7, Try.ntmps7
    go_wp2_with fail
    (with_reducible refine (c0.out _).mono ?_); rintro e w' ⟨rfl, nd3, rfl⟩
    go_wp2_with fail
    (with_reducible refine (C1.out _).mono ?_); rintro e w' ⟨rfl, nd4, rfl⟩
    go_wp2_with fail
    (with_reducible refine (C2.out _).mono ?_); rintro e w' ⟨rfl, nd5, rfl⟩
    go_wp2_with fail
    (with_reducible refine (C3.out _).mono ?_); rintro e w' ⟨rfl, nd6, rfl⟩
    go_wp2_with fail
    all_goals
      go_ret
      exact ⟨rfl, Grown.drewN (Grown.refl _) _⟩

/-! ### THE ROW's STEP: WRITTEN OUT: LEAVE IT -/
set_option maxRecDepth 100000 in
theorem lifted (os : Os) (started : os.Started) (H : Type) (enc : TypeId × Value → H) :
    ReturnsInHanded {} Try.checked os 7 .any (Rows.rootSidesSpec.pre6 enc Try.prog Try.f7 Rows.rootSidesRow.domain false) (Rows.rootSidesSpec.post enc Try.prog Try.f7 false true false false) := by
  refine returnsInHanded_of_change (C := Try.checked) own started (by kernel_rfl) Try.func7
    (ChangeSpec.witness6 (enc := enc) (C := Try.checked) false ⟨#[], #[.int .i64 0, .int .i64 0], []⟩ 8 (by kernel_rfl) (by kernel_rfl) (by kernel_rfl) (by kernel_rfl)) ?_
  intro W base args ds gs before hval0 hW hcnd _
  have hval : ∀ (j : Nat) t v, Try.f7.params[j]? = some t → args[j]? = some v → Value.okWide Try.prog W .any base t v := hval0
  have hW' := hW
  obtain ⟨p, q, hA0, hV, rfl, hfz, hnd⟩ := hW
  have hA : DataW.TrodAll enc Try.prog W 0 (fun _ => true) true Try.f7.params.toList args.toList ds p := hA0
  rw [Try.params7] at hA hval
  obtain ⟨v0, vs0, d0, ds0, p0, q0, hargs, rfl, rfl, h0, r0⟩ := trodAll_cons hA
  obtain ⟨v1, vs1, d1, ds1, p1, q1, rfl, rfl, rfl, h1, r1⟩ := trodAll_cons r0
  obtain ⟨rfl, rfl, rfl⟩ := trodAll_nil r1
  obtain rfl : args = #[v0, v1] := by cases args; simp_all
  obtain ⟨rfl, rfl⟩ := trodVars_none hV
  obtain ⟨a0, rfl, rfl, rfl, w0⟩ := open_int Try.underlying23 (hval 0 23 v0 rfl rfl) h0
  obtain ⟨a1, rfl, rfl, rfl, w1⟩ := open_int Try.underlying3 (hval 1 3 v1 rfl rfl) h1
  clear hA0 hval0
  simp only [List.append_nil] at hW'
  refine (walk a0 a1 w0 w1 W).mono fun e W' ⟨he, hg⟩ => ?_
  subst he
  exact ⟨_, rfl, post_of_same (pa := []) (pv := []) hW' (fun _ _ _ => (trodAll_cons_mk (shut_bool Try.underlying4 _) trodAll_mk0)) (fun sp _ => (trodAll_cons_mk (shut_int Try.underlying23 w0) (trodAll_cons_mk (shut_int Try.underlying3 w1) trodAll_mk0))) (fun _ _ => rfl) rfl
    (hg.frame _) hg.2.1 (ok_one (by kernel_rfl) rfl (okWide_bool_mk Try.underlying4 _))⟩

theorem closed : joinedFacts Try.prog 7 Try.f7 Rows.rootSidesSpec Rows.rootSidesRow = true := by
  unfold joinedFacts
  rw [fact_laid, fact_maps, fact_keys, fact_heard, fact_stops, fact_knobs, fact_enter, fact_lifts, fact_make]
  kernel_rfl

theorem over : Rows.rootSidesRow.holds Try.pinned (OpenSpec.ofChange Rows.rootSidesSpec) :=
  OpenClaim.holds_of_wide 7 Try.f7 rfl rfl rfl rfl rfl rfl rfl ⟨rfl, rfl, rfl, rfl, rfl⟩ rfl rfl rfl rfl rfl (by kernel_rfl) Try.func7 closed
    (of_decide_eq_true (by kernel_rfl)) (by unfold Func.isWrapper; first | (rw [if_pos (by decide +kernel)]; kernel_rfl) | (rw [if_neg (by decide +kernel)]; exact ⟨rfl, rfl⟩))
    (fun os started H enc _ => lifted os started H enc)

/-- ████ THE STATEMENT ████ -/
theorem proved : Rows.RootSidesSaid :=
  over
#print axioms proved
end Go.Proofs.Ytdkaaifbmjnknaa.rootSides
