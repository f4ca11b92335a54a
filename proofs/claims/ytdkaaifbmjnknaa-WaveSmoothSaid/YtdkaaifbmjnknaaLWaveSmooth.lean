/- For every angle WaveSmooth returns true: from one angle to the next neither a sine nor a cosine goes further than a thousandth. -/
import Derived.Test.YtdkaaifbmjnknaaRows
import Derived.WalkKit
import Derived.ProofKit
import Derived.OpenShut
import Derived.Test.YtdkaaifbmjnknaaFacts
import Derived.Test.YtdkaaifbmjnknaaWaveAlive
import Derived.WalkLawsBesides
namespace Go.Proofs.Ytdkaaifbmjnknaa.waveSmooth
open Go.ChangeShapes Go.WideShapes Go.ChangeAt Go.RowKit M
set_option maxRecDepth 100000
set_option maxHeartbeats 4000000
set_option linter.unusedVariables false      -- a walk need not use every 'w<i>' (that an integer argument fits its kind)

theorem own : ownKnob Try.prog.godebug = none := by kernel_rfl

/-! ### STEP 1: THE WALK: the Go text returns true. 'Grown w w'': the world has at most new blocks (Derived/RowKit3.lean). Part the cases AHEAD of 'go_enter' where a test parts the walk; take each callee by a contract of your own. -/
theorem walk (a0 : Int) (w0 : (Lit.int .i64 a0).wf = true) (w : World) :
    Calls Try.prog 24 #[.int .i64 a0] w fun e w' => e = .returned (.bool true) ∧ Grown w w' := by
  have A := i64_wf w0
  have c0 := Lib.hid (alive5_c)
  by_cases hb : a0 < -1099511627776 ∨ 1099511627776 < a0
  · go_enter Try.func24, Try.ntmps24
    go_wp2_with fail
    all_goals
      (with_reducible refine (c0.out _).mono ?_); rintro e w' ⟨rfl, hg⟩
      have G := Lib.hid hg
      clear hg
      go_wp2_with fail
      go_ret
      exact ⟨rfl, G.out⟩
  · have b0 : -1099511627776 ≤ a0 := by omega
    have b1 : a0 ≤ 1099511627776 := by omega
    have c1 := sin_c (a0 + 1) (by unfold I64; omega)
    have c2 := sin_c a0 A
    have c3 := cos_c (a0 + 1) (by unfold I64; omega)
    have c4 := cos_c a0 A
    have n1 := sinR_near a0
    have n2 := cosR_near a0
    have m1 := sinR_bounds a0
    have m2 := sinR_bounds (a0 + 1)
    have m3 : -4294967296 ≤ cosR a0 ∧ cosR a0 ≤ 4294967296 := sinR_bounds _
    have m4 : -4294967296 ≤ cosR (a0 + 1) ∧ cosR (a0 + 1) ≤ 4294967296 := sinR_bounds _
    generalize sinR (a0 + 1) = s' at *
    generalize sinR a0 = s at *
    generalize cosR (a0 + 1) = c' at *
    generalize cosR a0 = c at *
    obtain ⟨p1, p2⟩ := m1
    obtain ⟨p3, p4⟩ := m2
    obtain ⟨p5, p6⟩ := m3
    obtain ⟨p7, p8⟩ := m4
    obtain ⟨q1, q2⟩ := n1
    obtain ⟨q3, q4⟩ := n2
    have C1 := Lib.hid c1; have C2 := Lib.hid c2; have C3 := Lib.hid c3; have C4 := Lib.hid c4
    clear c1 c2 c3 c4 hb
    go_enter Try.func24, Try.ntmps24
    go_wp2_with fail
    (with_reducible refine (c0.out _).mono ?_); rintro e w' ⟨rfl, hg⟩
    have G := Lib.hid hg
    clear hg
    go_wp2_with fail
    (with_reducible refine (C1.out _).mono ?_); rintro e w' ⟨rfl, nd1, rfl⟩
    go_wp2_with fail
    (with_reducible refine (C2.out _).mono ?_); rintro e w' ⟨rfl, nd2, rfl⟩
    go_wp2_with fail
    (with_reducible refine (C3.out _).mono ?_); rintro e w' ⟨rfl, nd3, rfl⟩
    go_wp2_with fail
    (with_reducible refine (C4.out _).mono ?_); rintro e w' ⟨rfl, nd4, rfl⟩
    go_wp2_with fail
    all_goals
      go_ret
      refine ⟨rb ?_, Grown.drewN G.out _⟩
      first | rfl | (exfalso; omega) | (simp; omega)

/-! ### THE ROW's STEP: WRITTEN OUT: LEAVE IT -/
set_option maxRecDepth 100000 in
theorem lifted (os : Os) (started : os.Started) (H : Type) (enc : TypeId × Value → H) :
    ReturnsInHanded {} Try.checked os 24 .any (Rows.waveSmoothSpec.pre6 enc Try.prog Try.f24 Rows.waveSmoothRow.domain false) (Rows.waveSmoothSpec.post enc Try.prog Try.f24 false true false false) := by
  refine returnsInHanded_of_change (C := Try.checked) own started (by kernel_rfl) Try.func24
    (ChangeSpec.witness6 (enc := enc) (C := Try.checked) false ⟨#[], #[.int .i64 0], []⟩ 8 (by kernel_rfl) (by kernel_rfl) (by kernel_rfl) (by kernel_rfl)) ?_
  intro W base args ds gs before hval0 hW hcnd _
  have hval : ∀ (j : Nat) t v, Try.f24.params[j]? = some t → args[j]? = some v → Value.okWide Try.prog W .any base t v := hval0
  have hW' := hW
  obtain ⟨p, q, hA0, hV, rfl, hfz, hnd⟩ := hW
  have hA : DataW.TrodAll enc Try.prog W 0 (fun _ => true) true Try.f24.params.toList args.toList ds p := hA0
  rw [Try.params24] at hA hval
  obtain ⟨v0, vs0, d0, ds0, p0, q0, hargs, rfl, rfl, h0, r0⟩ := trodAll_cons hA
  obtain ⟨rfl, rfl, rfl⟩ := trodAll_nil r0
  obtain rfl : args = #[v0] := by cases args; simp_all
  obtain ⟨rfl, rfl⟩ := trodVars_none hV
  obtain ⟨a0, rfl, rfl, rfl, w0⟩ := open_int Try.underlying3 (hval 0 3 v0 rfl rfl) h0
  clear hA0 hval0
  simp only [List.append_nil] at hW'
  refine (walk a0 w0 W).mono fun e W' ⟨he, hg⟩ => ?_
  subst he
  exact ⟨_, rfl, post_of_same (pa := []) (pv := []) hW' (fun _ _ _ => (trodAll_cons_mk (shut_bool Try.underlying4 _) trodAll_mk0)) (fun sp _ => (trodAll_cons_mk (shut_int Try.underlying3 w0) trodAll_mk0)) (fun _ _ => rfl) rfl
    (hg.frame _) hg.2.1 (ok_one (by kernel_rfl) rfl (okWide_bool_mk Try.underlying4 _))⟩

theorem closed : joinedFacts Try.prog 24 Try.f24 Rows.waveSmoothSpec Rows.waveSmoothRow = true := by
  unfold joinedFacts
  rw [fact_laid, fact_maps, fact_keys, fact_heard, fact_stops, fact_knobs, fact_enter, fact_lifts, fact_make]
  kernel_rfl

theorem over : Rows.waveSmoothRow.holds Try.pinned (OpenSpec.ofChange Rows.waveSmoothSpec) :=
  OpenClaim.holds_of_wide 24 Try.f24 rfl rfl rfl rfl rfl rfl rfl ⟨rfl, rfl, rfl, rfl, rfl⟩ rfl rfl rfl rfl rfl (by kernel_rfl) Try.func24 closed
    (of_decide_eq_true (by kernel_rfl)) (by unfold Func.isWrapper; first | (rw [if_pos (by decide +kernel)]; kernel_rfl) | (rw [if_neg (by decide +kernel)]; exact ⟨rfl, rfl⟩))
    (fun os started H enc _ => lifted os started H enc)

/-- ████ THE STATEMENT ████ -/
theorem proved : Rows.WaveSmoothSaid :=
  over
#print axioms proved
end Go.Proofs.Ytdkaaifbmjnknaa.waveSmooth
