/- For every two numbers FixDivides returns true: a quotient's sign is that of both, divided by One a number is itself, by 0 it is told. -/
import Derived.Test.YtdkaaifbmjnknaaRows
import Derived.WalkKit
import Derived.ProofKit
import Derived.OpenShut
import Derived.Test.YtdkaaifbmjnknaaFacts
import Derived.Test.YtdkaaifbmjnknaaFixAlive
namespace Go.Proofs.Ytdkaaifbmjnknaa.fixDivides
open Go.ChangeShapes Go.WideShapes Go.ChangeAt Go.RowKit M
set_option maxRecDepth 100000
set_option linter.unusedVariables false      -- a walk need not use every 'w<i>' (that an integer argument fits its kind)

theorem own : ownKnob Try.prog.godebug = none := by kernel_rfl

theorem div_sign {a b : Int} (h0 : ¬ b = 0) (h : (divR a b).2 = 0) :
    (decide (0 ≤ (divR a b).1) = (decide (0 ≤ a) == decide (0 < b))) ∨ (divR a b).1 = 0 := by
  unfold divR at *
  rw [if_neg h0] at *
  have hm : 0 ≤ absF a * 4294967296 / absF b := Int.ediv_nonneg (Int.mul_nonneg (absF_nonneg _) (by omega)) (absF_nonneg _)
  generalize absF a * 4294967296 / absF b = m at *
  rw [wholeR_ok h]
  by_cases hz : m = 0
  · right; subst hz; split <;> rfl
  left
  by_cases ha : a < 0 <;> by_cases hb : b < 0
  · rw [decide_eq_true ha, decide_eq_true hb, decide_eq_false (show ¬ 0 ≤ a by omega), decide_eq_false (show ¬ 0 < b by omega)]
    exact decide_eq_true hm
  · rw [decide_eq_true ha, decide_eq_false hb, decide_eq_false (show ¬ 0 ≤ a by omega), decide_eq_true (show 0 < b by omega)]
    exact decide_eq_false (show ¬ 0 ≤ -m by omega)
  · rw [decide_eq_false ha, decide_eq_true hb, decide_eq_true (show 0 ≤ a by omega), decide_eq_false (show ¬ 0 < b by omega)]
    exact decide_eq_false (show ¬ 0 ≤ -m by omega)
  · rw [decide_eq_false ha, decide_eq_false hb, decide_eq_true (show 0 ≤ a by omega), decide_eq_true (show 0 < b by omega)]
    exact decide_eq_true hm
/-! ### STEP 1: THE WALK: the Go text returns true. 'Grown w w'': the world has at most new blocks (Derived/RowKit3.lean). Part the cases AHEAD of 'go_enter' where a test parts the walk; take each callee by a contract of your own. -/
theorem walk (a0 : Int) (a1 : Int) (w0 : (Lit.int .i64 a0).wf = true) (w1 : (Lit.int .i64 a1).wf = true) (w : World) :
    Calls Try.prog 10 #[.int .i64 a0, .int .i64 a1] w fun e w' => e = .returned (.bool true) ∧ Grown w w' := by
  have A := i64_wf w0
  have B := i64_wf w1
  have c0 := Lib.hid (alive1_c)
  by_cases hb : a1 = 0
  · subst hb
    have e : divR a0 0 = (0, 4) := by unfold divR; simp
    have c1 := fixDiv_c a0 0 A B
    rw [e] at c1
    have C1 := Lib.hid c1
    clear e c1
    go_enter Try.func10, Try.ntmps10
    go_wp2_with fail
    refine (C1.out _).mono ?_; rintro e w' ⟨rfl, nd1, rfl⟩
    go_wp2_with fail
    refine (c0.out _).mono ?_; rintro e w' ⟨rfl, nd2, rfl⟩
    go_wp2_with fail
    go_ret
    exact ⟨rfl, Grown.drewN (Grown.refl _) _⟩
  · have hb2 : (a1 == 0) = false := beq_eq_false_iff_ne.2 hb
    have c1 := fixDiv_c a0 a1 A B
    rcases divR_err (a := a0) hb with h | h
    · have s := div_sign hb h
      generalize divR a0 a1 = p at *
      obtain ⟨q, e⟩ := p
      dsimp only at *
      subst h
      have S : Hid ((decide (0 ≤ q) = (decide (0 ≤ a0) == decide (0 < a1))) ∨ q = 0) := s
      have C1 := Lib.hid c1
      have c2 := fixDiv_c a0 4294967296 A (i64_lit (by decide))
      rw [divR_one A] at c2
      have C2 := Lib.hid c2
      clear c1 c2 s
      go_enter Try.func10, Try.ntmps10
      go_wp2_with fail
      refine (c0.out _).mono ?_; rintro e w' ⟨rfl, nd3, rfl⟩
      go_wp2_with fail
      refine (C1.out _).mono ?_; rintro e w' ⟨rfl, nd4, rfl⟩
      go_wp2_with fail
      refine (C2.out _).mono ?_; rintro e w' ⟨rfl, nd5, rfl⟩
      go_wp2_with fail
      · go_ret
        exact ⟨rfl, Grown.drewN (Grown.refl _) _⟩
      · have h : ¬decide (0 ≤ q) = (decide (0 ≤ a0) == decide (0 < a1)) := ‹_›
        have h2 := S.out.resolve_left h
        go_ret
        exact ⟨rb (by simp [h2]), Grown.drewN (Grown.refl _) _⟩
    · rw [h] at c1
      have C1 := Lib.hid c1
      clear h c1
      go_enter Try.func10, Try.ntmps10
      go_wp2_with fail
      refine (c0.out _).mono ?_; rintro e w' ⟨rfl, nd6, rfl⟩
      go_wp2_with fail
      refine (C1.out _).mono ?_; rintro e w' ⟨rfl, nd7, rfl⟩
      go_wp2_with fail
      go_ret
      exact ⟨rfl, Grown.drewN (Grown.refl _) _⟩

/-! ### THE ROW's STEP: WRITTEN OUT: LEAVE IT -/
set_option maxRecDepth 100000 in
theorem lifted (os : Os) (started : os.Started) (H : Type) (enc : TypeId × Value → H) :
    ReturnsInHanded {} Try.checked os 10 .any (Rows.fixDividesSpec.pre6 enc Try.prog Try.f10 Rows.fixDividesRow.domain false) (Rows.fixDividesSpec.post enc Try.prog Try.f10 false true false false) := by
  refine returnsInHanded_of_change (C := Try.checked) own started (by kernel_rfl) Try.func10
    (ChangeSpec.witness6 (enc := enc) (C := Try.checked) false ⟨#[], #[.int .i64 0, .int .i64 0], []⟩ 8 (by kernel_rfl) (by kernel_rfl) (by kernel_rfl) (by kernel_rfl)) ?_
  intro W base args ds gs before hval0 hW hcnd _
  have hval : ∀ (j : Nat) t v, Try.f10.params[j]? = some t → args[j]? = some v → Value.okWide Try.prog W .any base t v := hval0
  have hW' := hW
  obtain ⟨p, q, hA0, hV, rfl, hfz, hnd⟩ := hW
  have hA : DataW.TrodAll enc Try.prog W 0 (fun _ => true) true Try.f10.params.toList args.toList ds p := hA0
  rw [Try.params10] at hA hval
  obtain ⟨v0, vs0, d0, ds0, p0, q0, hargs, rfl, rfl, h0, r0⟩ := trodAll_cons hA
  obtain ⟨v1, vs1, d1, ds1, p1, q1, rfl, rfl, rfl, h1, r1⟩ := trodAll_cons r0
  obtain ⟨rfl, rfl, rfl⟩ := trodAll_nil r1
  obtain rfl : args = #[v0, v1] := by cases args; simp_all
  obtain ⟨rfl, rfl⟩ := trodVars_none hV
  obtain ⟨a0, rfl, rfl, rfl, w0⟩ := open_int Try.underlying23 (hval 0 23 v0 rfl rfl) h0
  obtain ⟨a1, rfl, rfl, rfl, w1⟩ := open_int Try.underlying23 (hval 1 23 v1 rfl rfl) h1
  clear hA0 hval0
  simp only [List.append_nil] at hW'
  refine (walk a0 a1 w0 w1 W).mono fun e W' ⟨he, hg⟩ => ?_
  subst he
  exact ⟨_, rfl, post_of_same (pa := []) (pv := []) hW' (fun _ _ _ => (trodAll_cons_mk (shut_bool Try.underlying4 _) trodAll_mk0)) (fun sp _ => (trodAll_cons_mk (shut_int Try.underlying23 w0) (trodAll_cons_mk (shut_int Try.underlying23 w1) trodAll_mk0))) (fun _ _ => rfl) rfl
    (hg.frame _) hg.2.1 (ok_one (by kernel_rfl) rfl (okWide_bool_mk Try.underlying4 _))⟩

theorem closed : joinedFacts Try.prog 10 Try.f10 Rows.fixDividesSpec Rows.fixDividesRow = true := by
  unfold joinedFacts
  rw [fact_laid, fact_maps, fact_keys, fact_heard, fact_stops, fact_knobs, fact_enter, fact_lifts, fact_make]
  kernel_rfl

theorem over : Rows.fixDividesRow.holds Try.pinned (OpenSpec.ofChange Rows.fixDividesSpec) :=
  OpenClaim.holds_of_wide 10 Try.f10 rfl rfl rfl rfl rfl rfl rfl ⟨rfl, rfl, rfl, rfl, rfl⟩ rfl rfl rfl rfl rfl (by kernel_rfl) Try.func10 closed
    (of_decide_eq_true (by kernel_rfl)) (by unfold Func.isWrapper; first | (rw [if_pos (by decide +kernel)]; kernel_rfl) | (rw [if_neg (by decide +kernel)]; exact ⟨rfl, rfl⟩))
    (fun os started H enc _ => lifted os started H enc)

/-- ████ THE STATEMENT ████ -/
theorem proved : Rows.FixDividesSaid :=
  over
#print axioms proved
end Go.Proofs.Ytdkaaifbmjnknaa.fixDivides
