/- For every two angles WaveRises returns true: up to a quarter a sine rises. -/
import Derived.Test.YtdkaaifbmjnknaaRows
import Derived.WalkKit
import Derived.ProofKit
import Derived.OpenShut
import Derived.Test.YtdkaaifbmjnknaaFacts
import Derived.Test.YtdkaaifbmjnknaaWaveAlive
namespace Go.Proofs.Ytdkaaifbmjnknaa.waveRises
open Go.ChangeShapes Go.WideShapes Go.ChangeAt Go.RowKit M
set_option maxRecDepth 100000
set_option maxHeartbeats 4000000
set_option linter.unusedVariables false      -- a walk need not use every 'w<i>' (that an integer argument fits its kind)

theorem own : ownKnob Try.prog.godebug = none := by kernel_rfl

/-! ### STEP 1: THE WALK: the Go text returns true. 'Grown w w'': the world has at most new blocks (Derived/RowKit3.lean). Part the cases AHEAD of 'go_enter' where a test parts the walk; take each callee by a contract of your own. -/
theorem walk (a0 : Int) (a1 : Int) (w0 : (Lit.int .i64 a0).wf = true) (w1 : (Lit.int .i64 a1).wf = true) (w : World) :
    Calls Try.prog 20 #[.int .i64 a0, .int .i64 a1] w fun e w' => e = .returned (.bool true) ∧ Grown w w' := by
  have A := i64_wf w0
  have B := i64_wf w1
  have c0 := Lib.hid (alive5_c)
  by_cases hb : a0 < 0 ∨ a1 < 0 ∨ 16384 < a0 ∨ 16384 < a1
  · go_enter Try.func20, Try.ntmps20
    go_wp2_with fail
    all_goals
      (with_reducible refine (c0.out _).mono ?_); rintro e w' ⟨rfl, hg⟩
      have G := Lib.hid hg
      clear hg
      go_wp2_with fail
      go_ret
      exact ⟨rfl, G.out⟩
  · have b0 : 0 ≤ a0 ∧ a0 ≤ 16384 := by omega
    have b1 : 0 ≤ a1 ∧ a1 ≤ 16384 := by omega
    have c1 := sin_c a0 A
    have c2 := sin_c a1 B
    have c3 := cos_c (16384 - a0) (by unfold I64; omega)
    have e3 : cosR (16384 - a0) = sinR a0 := by
      rw [cosR_eq, show 16384 - a0 + 16384 = 32768 - a0 by omega, sinR_mirror]
    rw [e3] at c3
    have d : decide (sinR a0 < sinR a1) = decide (a0 < a1) := by
      have s0 : sinR a0 = sinP a0 := by rw [sinR_in b0.1 (by omega)]; unfold sinN; rw [if_neg (by omega)]
      have s1 : sinR a1 = sinP a1 := by rw [sinR_in b1.1 (by omega)]; unfold sinN; rw [if_neg (by omega)]
      rw [s0, s1]
      by_cases h : a0 < a1
      · rw [decide_eq_true h, decide_eq_true (sinP_rises b0.1 h b1.2)]
      · rw [decide_eq_false h]
        refine decide_eq_false ?_
        by_cases h2 : a1 = a0
        · subst h2; omega
        · have := sinP_rises b1.1 (show a1 < a0 by omega) b0.2; omega
    generalize sinR a0 = s at *
    generalize sinR a1 = t at *
    have C1 := Lib.hid c1; have C2 := Lib.hid c2; have C3 := Lib.hid c3
    obtain ⟨b2, b3⟩ := b0
    obtain ⟨b4, b5⟩ := b1
    clear c1 c2 c3 hb e3
    have dd : (decide (s < t) = true ∧ decide (a0 < a1) = true) ∨ (decide (s < t) = false ∧ decide (a0 < a1) = false) := by
      cases h : decide (a0 < a1)
      · exact Or.inr ⟨d.trans h, rfl⟩
      · exact Or.inl ⟨d.trans h, rfl⟩
    clear d
    rcases dd with ⟨d1, d2⟩ | ⟨d1, d2⟩
    all_goals
      go_enter Try.func20, Try.ntmps20
      go_wp2_with fail
      (with_reducible refine (c0.out _).mono ?_); rintro e w' ⟨rfl, hg⟩
      have G := Lib.hid hg
      clear hg
      go_wp2_with fail
      (with_reducible refine (C1.out _).mono ?_); rintro e w' ⟨rfl, nd1, rfl⟩
      go_wp2_with fail
      (with_reducible refine (C2.out _).mono ?_); rintro e w' ⟨rfl, nd2, rfl⟩
      go_wp2_with fail
      (with_reducible refine (C3.out _).mono ?_); rintro e w' ⟨rfl, nd3, rfl⟩
      go_wp2_with fail
      (with_reducible refine (C1.out _).mono ?_); rintro e w' ⟨rfl, nd4, rfl⟩
      go_wp2_with fail
      go_ret
      exact ⟨rfl, Grown.drewN G.out _⟩

/-! ### THE ROW's STEP: WRITTEN OUT: LEAVE IT -/
set_option maxRecDepth 100000 in
theorem lifted (os : Os) (started : os.Started) (H : Type) (enc : TypeId × Value → H) :
    ReturnsInHanded {} Try.checked os 20 .any (Rows.waveRisesSpec.pre6 enc Try.prog Try.f20 Rows.waveRisesRow.domain false) (Rows.waveRisesSpec.post enc Try.prog Try.f20 false true false false) := by
  refine returnsInHanded_of_change (C := Try.checked) own started (by kernel_rfl) Try.func20
    (ChangeSpec.witness6 (enc := enc) (C := Try.checked) false ⟨#[], #[.int .i64 0, .int .i64 0], []⟩ 8 (by kernel_rfl) (by kernel_rfl) (by kernel_rfl) (by kernel_rfl)) ?_
  intro W base args ds gs before hval0 hW hcnd _
  have hval : ∀ (j : Nat) t v, Try.f20.params[j]? = some t → args[j]? = some v → Value.okWide Try.prog W .any base t v := hval0
  have hW' := hW
  obtain ⟨p, q, hA0, hV, rfl, hfz, hnd⟩ := hW
  have hA : DataW.TrodAll enc Try.prog W 0 (fun _ => true) true Try.f20.params.toList args.toList ds p := hA0
  rw [Try.params20] at hA hval
  obtain ⟨v0, vs0, d0, ds0, p0, q0, hargs, rfl, rfl, h0, r0⟩ := trodAll_cons hA
  obtain ⟨v1, vs1, d1, ds1, p1, q1, rfl, rfl, rfl, h1, r1⟩ := trodAll_cons r0
  obtain ⟨rfl, rfl, rfl⟩ := trodAll_nil r1
  obtain rfl : args = #[v0, v1] := by cases args; simp_all
  obtain ⟨rfl, rfl⟩ := trodVars_none hV
  obtain ⟨a0, rfl, rfl, rfl, w0⟩ := open_int Try.underlying3 (hval 0 3 v0 rfl rfl) h0
  obtain ⟨a1, rfl, rfl, rfl, w1⟩ := open_int Try.underlying3 (hval 1 3 v1 rfl rfl) h1
  clear hA0 hval0
  simp only [List.append_nil] at hW'
  refine (walk a0 a1 w0 w1 W).mono fun e W' ⟨he, hg⟩ => ?_
  subst he
  exact ⟨_, rfl, post_of_same (pa := []) (pv := []) hW' (fun _ _ _ => (trodAll_cons_mk (shut_bool Try.underlying4 _) trodAll_mk0)) (fun sp _ => (trodAll_cons_mk (shut_int Try.underlying3 w0) (trodAll_cons_mk (shut_int Try.underlying3 w1) trodAll_mk0))) (fun _ _ => rfl) rfl
    (hg.frame _) hg.2.1 (ok_one (by kernel_rfl) rfl (okWide_bool_mk Try.underlying4 _))⟩

theorem closed : joinedFacts Try.prog 20 Try.f20 Rows.waveRisesSpec Rows.waveRisesRow = true := by
  unfold joinedFacts
  rw [fact_laid, fact_maps, fact_keys, fact_heard, fact_stops, fact_knobs, fact_enter, fact_lifts, fact_make]
  kernel_rfl

theorem over : Rows.waveRisesRow.holds Try.pinned (OpenSpec.ofChange Rows.waveRisesSpec) :=
  OpenClaim.holds_of_wide 20 Try.f20 rfl rfl rfl rfl rfl rfl rfl ⟨rfl, rfl, rfl, rfl, rfl⟩ rfl rfl rfl rfl rfl (by kernel_rfl) Try.func20 closed
    (of_decide_eq_true (by kernel_rfl)) (by unfold Func.isWrapper; first | (rw [if_pos (by decide +kernel)]; kernel_rfl) | (rw [if_neg (by decide +kernel)]; exact ⟨rfl, rfl⟩))
    (fun os started H enc _ => lifted os started H enc)

/-- ████ THE STATEMENT ████ -/
theorem proved : Rows.WaveRisesSaid :=
  over
#print axioms proved
end Go.Proofs.Ytdkaaifbmjnknaa.waveRises
