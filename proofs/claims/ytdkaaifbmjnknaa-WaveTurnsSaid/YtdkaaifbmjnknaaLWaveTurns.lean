/- For every angle and number of turns WaveTurns returns true: whole turns change nothing, half a turn changes the sign, a sine is alike on both sides of a quarter, none is above One. -/
import Derived.Test.YtdkaaifbmjnknaaRows
import Derived.WalkKit
import Derived.ProofKit
import Derived.OpenShut
import Derived.Test.YtdkaaifbmjnknaaFacts
import Derived.Test.YtdkaaifbmjnknaaWaveAlive
namespace Go.Proofs.Ytdkaaifbmjnknaa.waveTurns
open Go.ChangeShapes Go.WideShapes Go.ChangeAt Go.RowKit M
set_option maxRecDepth 100000
set_option maxHeartbeats 4000000
set_option linter.unusedVariables false      -- a walk need not use every 'w<i>' (that an integer argument fits its kind)

theorem own : ownKnob Try.prog.godebug = none := by kernel_rfl

/-! ### STEP 1: THE WALK: the Go text returns true. 'Grown w w'': the world has at most new blocks (Derived/RowKit3.lean). Part the cases AHEAD of 'go_enter' where a test parts the walk; take each callee by a contract of your own. -/
theorem walk (a0 : Int) (a1 : Int) (w0 : (Lit.int .i64 a0).wf = true) (w1 : (Lit.int .i64 a1).wf = true) (w : World) :
    Calls Try.prog 19 #[.int .i64 a0, .int .i64 a1] w fun e w' => e = .returned (.bool true) ∧ Grown w w' := by
  have A := i64_wf w0
  have B := i64_wf w1
  have c0 := Lib.hid (alive5_c)
  by_cases hb : a1 < -1000 ∨ 1000 < a1
  · go_enter Try.func19, Try.ntmps19
    go_wp2_with fail
    all_goals
      (with_reducible refine (c0.out _).mono ?_); rintro e w' ⟨rfl, hg⟩
      have G := Lib.hid hg
      clear hg
      go_wp2_with fail
      go_ret
      exact ⟨rfl, G.out⟩
  · have b0 : -1000 ≤ a1 := by omega
    have b1 : a1 ≤ 1000 := by omega
    have c1 := norm_c a0 A
    have n0 : 0 ≤ a0 % 65536 := by omega
    have n1 : a0 % 65536 < 65536 := by omega
    generalize a0 % 65536 = n at *
    have c2 := sin_c n (by unfold I64; omega)
    have c3 := cos_c n (by unfold I64; omega)
    have c4 := sin_c (n + a1 * 65536) (by unfold I64; omega)
    have c5 := cos_c (n + a1 * 65536) (by unfold I64; omega)
    have c6 := sin_c (n + 32768) (by unfold I64; omega)
    have c7 := sin_c (32768 - n) (by unfold I64; omega)
    have c8 := cos_c (65536 - n) (by unfold I64; omega)
    rw [sinR_turn] at c4
    rw [cosR_turn] at c5
    rw [sinR_half] at c6
    rw [sinR_mirror] at c7
    rw [cosR_mirror] at c8
    have sb := sinR_bounds n
    have e1 : wrap64 (-sinR n) = -sinR n := wrap64_id (by unfold I64; omega)
    rw [← e1] at c6
    have d1 := decide_eq_true (show sinR n ≤ 4294967296 from sb.2)
    have d2 := decide_eq_true (show -4294967296 ≤ sinR n from sb.1)
    generalize sinR n = s at *
    generalize cosR n = c at *
    have C1 := Lib.hid c1; have C2 := Lib.hid c2; have C3 := Lib.hid c3; have C4 := Lib.hid c4; have C5 := Lib.hid c5; have C6 := Lib.hid c6; have C7 := Lib.hid c7; have C8 := Lib.hid c8
    clear c1 c2 c3 c4 c5 c6 c7 c8 hb e1 sb
    go_enter Try.func19, Try.ntmps19
    go_wp2_with fail
    (with_reducible refine (c0.out _).mono ?_); rintro e w' ⟨rfl, hg⟩
    have G := Lib.hid hg
    clear hg
    go_wp2_with fail
    (with_reducible refine (C1.out _).mono ?_); rintro e w' ⟨rfl, nd1, rfl⟩
    go_wp2_with fail
    (with_reducible refine (C2.out _).mono ?_); rintro e w' ⟨rfl, nd2, rfl⟩
    go_wp2_with fail
    (with_reducible refine (C3.out _).mono ?_); rintro e w' ⟨rfl, nd3, rfl⟩
    go_wp2_with fail
    (with_reducible refine (C4.out _).mono ?_); rintro e w' ⟨rfl, nd4, rfl⟩
    go_wp2_with fail
    (with_reducible refine (C5.out _).mono ?_); rintro e w' ⟨rfl, nd5, rfl⟩
    go_wp2_with fail
    (with_reducible refine (C6.out _).mono ?_); rintro e w' ⟨rfl, nd6, rfl⟩
    go_wp2_with fail
    (with_reducible refine (C7.out _).mono ?_); rintro e w' ⟨rfl, nd7, rfl⟩
    go_wp2_with fail
    (with_reducible refine (C8.out _).mono ?_); rintro e w' ⟨rfl, nd8, rfl⟩
    go_wp2_with fail
    go_ret
    exact ⟨rfl, Grown.drewN G.out _⟩

/-! ### THE ROW's STEP: WRITTEN OUT: LEAVE IT -/
set_option maxRecDepth 100000 in
theorem lifted (os : Os) (started : os.Started) (H : Type) (enc : TypeId × Value → H) :
    ReturnsInHanded {} Try.checked os 19 .any (Rows.waveTurnsSpec.pre6 enc Try.prog Try.f19 Rows.waveTurnsRow.domain false) (Rows.waveTurnsSpec.post enc Try.prog Try.f19 false true false false) := by
  refine returnsInHanded_of_change (C := Try.checked) own started (by kernel_rfl) Try.func19
    (ChangeSpec.witness6 (enc := enc) (C := Try.checked) false ⟨#[], #[.int .i64 0, .int .i64 0], []⟩ 8 (by kernel_rfl) (by kernel_rfl) (by kernel_rfl) (by kernel_rfl)) ?_
  intro W base args ds gs before hval0 hW hcnd _
  have hval : ∀ (j : Nat) t v, Try.f19.params[j]? = some t → args[j]? = some v → Value.okWide Try.prog W .any base t v := hval0
  have hW' := hW
  obtain ⟨p, q, hA0, hV, rfl, hfz, hnd⟩ := hW
  have hA : DataW.TrodAll enc Try.prog W 0 (fun _ => true) true Try.f19.params.toList args.toList ds p := hA0
  rw [Try.params19] at hA hval
  obtain ⟨v0, vs0, d0, ds0, p0, q0, hargs, rfl, rfl, h0, r0⟩ := trodAll_cons hA
  obtain ⟨v1, vs1, d1, ds1, p1, q1, rfl, rfl, rfl, h1, r1⟩ := trodAll_cons r0
  obtain ⟨rfl, rfl, rfl⟩ := trodAll_nil r1
  obtain rfl : args = #[v0, v1] := by cases args; simp_all
  obtain ⟨rfl, rfl⟩ := trodVars_none hV
  obtain ⟨a0, rfl, rfl, rfl, w0⟩ := open_int Try.underlying3 (hval 0 3 v0 rfl rfl) h0
  obtain ⟨a1, rfl, rfl, rfl, w1⟩ := open_int Try.underlying3 (hval 1 3 v1 rfl rfl) h1
  clear hA0 hval0
  simp only [List.append_nil] at hW'
  refine (walk a0 a1 w0 w1 W).mono fun e W' ⟨he, hg⟩ => ?_
  subst he
  exact ⟨_, rfl, post_of_same (pa := []) (pv := []) hW' (fun _ _ _ => (trodAll_cons_mk (shut_bool Try.underlying4 _) trodAll_mk0)) (fun sp _ => (trodAll_cons_mk (shut_int Try.underlying3 w0) (trodAll_cons_mk (shut_int Try.underlying3 w1) trodAll_mk0))) (fun _ _ => rfl) rfl
    (hg.frame _) hg.2.1 (ok_one (by kernel_rfl) rfl (okWide_bool_mk Try.underlying4 _))⟩

theorem closed : joinedFacts Try.prog 19 Try.f19 Rows.waveTurnsSpec Rows.waveTurnsRow = true := by
  unfold joinedFacts
  rw [fact_laid, fact_maps, fact_keys, fact_heard, fact_stops, fact_knobs, fact_enter, fact_lifts, fact_make]
  kernel_rfl

theorem over : Rows.waveTurnsRow.holds Try.pinned (OpenSpec.ofChange Rows.waveTurnsSpec) :=
  OpenClaim.holds_of_wide 19 Try.f19 rfl rfl rfl rfl rfl rfl rfl ⟨rfl, rfl, rfl, rfl, rfl⟩ rfl rfl rfl rfl rfl (by kernel_rfl) Try.func19 closed
    (of_decide_eq_true (by kernel_rfl)) (by unfold Func.isWrapper; first | (rw [if_pos (by decide +kernel)]; kernel_rfl) | (rw [if_neg (by decide +kernel)]; exact ⟨rfl, rfl⟩))
    (fun os started H enc _ => lifted os started H enc)

/-- ████ THE STATEMENT ████ -/
theorem proved : Rows.WaveTurnsSaid :=
  over
#print axioms proved
end Go.Proofs.Ytdkaaifbmjnknaa.waveTurns
