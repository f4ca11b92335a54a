/- For every angle WaveSquares returns true: a sine's and a cosine's squares make about One. -/
import Derived.Test.YtdkaaifbmjnknaaRows
import Derived.WalkKit
import Derived.ProofKit
import Derived.OpenShut
import Derived.Test.YtdkaaifbmjnknaaFacts
import Derived.Test.YtdkaaifbmjnknaaWaveAlive
import Derived.Test.YtdkaaifbmjnknaaWaveSq
namespace Go.Proofs.Ytdkaaifbmjnknaa.waveSquares
open Go.ChangeShapes Go.WideShapes Go.ChangeAt Go.RowKit M
set_option maxRecDepth 100000
set_option maxHeartbeats 4000000
set_option linter.unusedVariables false      -- a walk need not use every 'w<i>' (that an integer argument fits its kind)

theorem own : ownKnob Try.prog.godebug = none := by kernel_rfl

/-! ### STEP 1: THE WALK: the Go text returns true. 'Grown w w'': the world has at most new blocks (Derived/RowKit3.lean). Part the cases AHEAD of 'go_enter' where a test parts the walk; take each callee by a contract of your own. -/
theorem walk (a0 : Int) (w0 : (Lit.int .i64 a0).wf = true) (w : World) :
    Calls Try.prog 22 #[.int .i64 a0] w fun e w' => e = .returned (.bool true) ∧ Grown w w' := by
  have A := i64_wf w0
  have c0 := Lib.hid (alive5_c)
  have c1 := sin_c a0 A
  have c2 := cos_c a0 A
  have k := sq_all (n := a0 % 65536) (by omega) (by omega)
  have b1 := sinR_bounds a0
  have b2 : -4294967296 ≤ cosR a0 ∧ cosR a0 ≤ 4294967296 := sinR_bounds _
  have k2 : 16441673 ≤ (sinR a0 / 256 * (sinR a0 / 256) + cosR a0 / 256 * (cosR a0 / 256)) / 16777216 ∧ (sinR a0 / 256 * (sinR a0 / 256) + cosR a0 / 256 * (cosR a0 / 256)) / 16777216 ≤ 17112759 := by
    unfold sqOk at k
    simp only [Bool.and_eq_true, decide_eq_true_eq] at k
    exact k
  have q : ∀ x : Int, -16777216 ≤ x → x ≤ 16777216 → 0 ≤ x * x ∧ x * x ≤ 281474976710656 := by
    intro x h0 h1
    by_cases h : 0 ≤ x
    · have h2 : x * x ≤ 16777216 * 16777216 := Int.mul_le_mul (by omega) (by omega) h (by omega)
      exact ⟨Int.mul_nonneg h h, by omega⟩
    · have h2 : -x * -x ≤ 16777216 * 16777216 := Int.mul_le_mul (by omega) (by omega) (by omega) (by omega)
      have h3 : 0 ≤ -x * -x := Int.mul_nonneg (by omega) (by omega)
      rw [Int.neg_mul_neg] at h2 h3
      omega
  have q1 := q (sinR a0 / 256) (by omega) (by omega)
  have q2 := q (cosR a0 / 256) (by omega) (by omega)
  generalize sinR a0 = s at *
  generalize cosR a0 = c at *
  have e1 : wrap64 (s / 256 * (s / 256)) = s / 256 * (s / 256) := wrap64_id (by unfold I64; omega)
  have e2 : wrap64 (c / 256 * (c / 256)) = c / 256 * (c / 256) := wrap64_id (by unfold I64; omega)
  obtain ⟨S, hS⟩ : ∃ S, s / 256 * (s / 256) = S := ⟨_, rfl⟩
  obtain ⟨T, hT⟩ : ∃ T, c / 256 * (c / 256) = T := ⟨_, rfl⟩
  have f1 := e1.trans hS
  have f2 := e2.trans hT
  rw [hS, hT] at k2
  rw [hS] at q1
  rw [hT] at q2
  have C1 := Lib.hid c1; have C2 := Lib.hid c2
  have K := Lib.hid k2
  obtain ⟨q3, q4⟩ := q1
  obtain ⟨q5, q6⟩ := q2
  clear c1 c2 k k2 q e1 e2 hS hT b1 b2
  go_enter Try.func22, Try.ntmps22
  go_wp2_with fail
  (with_reducible refine (c0.out _).mono ?_); rintro e w' ⟨rfl, hg⟩
  have G := Lib.hid hg
  clear hg
  go_wp2_with fail
  (with_reducible refine (C1.out _).mono ?_); rintro e w' ⟨rfl, nd1, rfl⟩
  go_wp2_with fail
  (with_reducible refine (C2.out _).mono ?_); rintro e w' ⟨rfl, nd2, rfl⟩
  go_wp2_with fail
  all_goals
    go_ret
    refine ⟨rb ?_, Grown.drewN G.out _⟩
    have k := K.out
    first | rfl | (exfalso; omega) | (simp; omega)

/-! ### THE ROW's STEP: WRITTEN OUT: LEAVE IT -/
set_option maxRecDepth 100000 in
theorem lifted (os : Os) (started : os.Started) (H : Type) (enc : TypeId × Value → H) :
    ReturnsInHanded {} Try.checked os 22 .any (Rows.waveSquaresSpec.pre6 enc Try.prog Try.f22 Rows.waveSquaresRow.domain false) (Rows.waveSquaresSpec.post enc Try.prog Try.f22 false true false false) := by
  refine returnsInHanded_of_change (C := Try.checked) own started (by kernel_rfl) Try.func22
    (ChangeSpec.witness6 (enc := enc) (C := Try.checked) false ⟨#[], #[.int .i64 0], []⟩ 8 (by kernel_rfl) (by kernel_rfl) (by kernel_rfl) (by kernel_rfl)) ?_
  intro W base args ds gs before hval0 hW hcnd _
  have hval : ∀ (j : Nat) t v, Try.f22.params[j]? = some t → args[j]? = some v → Value.okWide Try.prog W .any base t v := hval0
  have hW' := hW
  obtain ⟨p, q, hA0, hV, rfl, hfz, hnd⟩ := hW
  have hA : DataW.TrodAll enc Try.prog W 0 (fun _ => true) true Try.f22.params.toList args.toList ds p := hA0
  rw [Try.params22] at hA hval
  obtain ⟨v0, vs0, d0, ds0, p0, q0, hargs, rfl, rfl, h0, r0⟩ := trodAll_cons hA
  obtain ⟨rfl, rfl, rfl⟩ := trodAll_nil r0
  obtain rfl : args = #[v0] := by cases args; simp_all
  obtain ⟨rfl, rfl⟩ := trodVars_none hV
  obtain ⟨a0, rfl, rfl, rfl, w0⟩ := open_int Try.underlying3 (hval 0 3 v0 rfl rfl) h0
  clear hA0 hval0
  simp only [List.append_nil] at hW'
  refine (walk a0 w0 W).mono fun e W' ⟨he, hg⟩ => ?_
  subst he
  exact ⟨_, rfl, post_of_same (pa := []) (pv := []) hW' (fun _ _ _ => (trodAll_cons_mk (shut_bool Try.underlying4 _) trodAll_mk0)) (fun sp _ => (trodAll_cons_mk (shut_int Try.underlying3 w0) trodAll_mk0)) (fun _ _ => rfl) rfl
    (hg.frame _) hg.2.1 (ok_one (by kernel_rfl) rfl (okWide_bool_mk Try.underlying4 _))⟩

theorem closed : joinedFacts Try.prog 22 Try.f22 Rows.waveSquaresSpec Rows.waveSquaresRow = true := by
  unfold joinedFacts
  rw [fact_laid, fact_maps, fact_keys, fact_heard, fact_stops, fact_knobs, fact_enter, fact_lifts, fact_make]
  kernel_rfl

theorem over : Rows.waveSquaresRow.holds Try.pinned (OpenSpec.ofChange Rows.waveSquaresSpec) :=
  OpenClaim.holds_of_wide 22 Try.f22 rfl rfl rfl rfl rfl rfl rfl ⟨rfl, rfl, rfl, rfl, rfl⟩ rfl rfl rfl rfl rfl (by kernel_rfl) Try.func22 closed
    (of_decide_eq_true (by kernel_rfl)) (by unfold Func.isWrapper; first | (rw [if_pos (by decide +kernel)]; kernel_rfl) | (rw [if_neg (by decide +kernel)]; exact ⟨rfl, rfl⟩))
    (fun os started H enc _ => lifted os started H enc)

/-- ████ THE STATEMENT ████ -/
theorem proved : Rows.WaveSquaresSaid :=
  over
#print axioms proved
end Go.Proofs.Ytdkaaifbmjnknaa.waveSquares
