/- For every two numbers and every whole number FixTells returns true: sum, difference, product, quotient, negative and whole number are the reference's. -/
import Derived.Test.YtdkaaifbmjnknaaRows
import Derived.WalkKit
import Derived.ProofKit
import Derived.OpenShut
import Derived.Test.YtdkaaifbmjnknaaFacts
import Derived.Test.YtdkaaifbmjnknaaFixAlive
import Derived.Test.YtdkaaifbmjnknaaRefLo
import Derived.BigQuiet
import Derived.Deep.QuietTactic
namespace Go.Proofs.Ytdkaaifbmjnknaa.fixTells
open Go.ChangeShapes Go.WideShapes Go.ChangeAt Go.RowKit M
set_option maxRecDepth 100000
set_option maxHeartbeats 4000000
set_option linter.unusedVariables false      -- a walk need not use every 'w<i>' (that an integer argument fits its kind)

theorem own : ownKnob Try.prog.godebug = none := by kernel_rfl

/-! ### STEP 1: THE WALK: the Go text returns true. 'Grown w w'': the world has at most new blocks (Derived/RowKit3.lean). Part the cases AHEAD of 'go_enter' where a test parts the walk; take each callee by a contract of your own. -/
theorem walk (a0 : Int) (a1 : Int) (a2 : Int) (w0 : (Lit.int .i64 a0).wf = true) (w1 : (Lit.int .i64 a1).wf = true) (w2 : (Lit.int .i64 a2).wf = true) (w : World) :
    Calls Try.prog 15 #[.int .i64 a0, .int .i64 a1, .int .i64 a2] w fun e w' => e = .returned (.bool true) ∧ Grown w w' := by
  have A := i64_wf w0
  have B := i64_wf w1
  have C := i64_wf w2
  have c0 := Lib.hid (alive1_c)
  have c1 := fun p w' hc hf => refAdd_c p 0 a0 a1 A B w' hc hf
  have c2 := fun p w' hc hf => refSub_c p 0 a0 a1 A B w' hc hf
  have c3 := fun p w' hc hf => refMul_c p 0 a0 a1 A B w' hc hf
  have c4 := fun p w' hc hf => refDiv_c p 0 a0 a1 A B w' hc hf
  have c5 := fun p w' hc hf => refSub_c p 0 0 a0 (i64_lit (by decide)) A w' hc hf
  have d1 := fixAdd_c a0 a1 A B
  have d2 := fixSub_c a0 a1 A B
  have d3 := fixMul_c a0 a1 A B
  have d4 := fixDiv_c a0 a1 A B
  have d5 := fixNeg_c a0 A
  have d6 := fixOf_c a2 C
  have d7 := fixWhole_c a0 A
  have d8 := refWhole_c a0 A
  simp only [thenR_zero] at c1 c2 c3 c4 c5
  generalize addR a0 a1 = r1 at *
  generalize subR a0 a1 = r2 at *
  generalize mulR a0 a1 = r3 at *
  generalize divR a0 a1 = r4 at *
  generalize subR 0 a0 = r5 at *
  generalize a0 / 4294967296 = h at *
  obtain ⟨x1, e1⟩ := r1
  obtain ⟨x2, e2⟩ := r2
  obtain ⟨x3, e3⟩ := r3
  obtain ⟨x4, e4⟩ := r4
  obtain ⟨x5, e5⟩ := r5
  dsimp only at *
  have C1 := Lib.hid c1; have C2 := Lib.hid c2; have C3 := Lib.hid c3; have C4 := Lib.hid c4; have C5 := Lib.hid c5
  have D1 := Lib.hid d1; have D2 := Lib.hid d2; have D3 := Lib.hid d3; have D4 := Lib.hid d4; have D5 := Lib.hid d5; have D6 := Lib.hid d6; have D7 := Lib.hid d7; have D8 := Lib.hid d8
  clear c1 c2 c3 c4 c5 d1 d2 d3 d4 d5 d6 d7 d8
  go_enter Try.func15, Try.ntmps15
  go_wp2_with fail
  (with_reducible refine (c0.out _).mono ?_); rintro e w' ⟨rfl, nd1, rfl⟩
  go_wp2_with fail
  (with_reducible refine (C1.out _ _ ?_ ?_).mono ?_)
  · simp [go_sem]
  · simp [go_sem]
  rintro e w' ⟨rfl, n1, rfl⟩
  go_wp2_with fail
  (with_reducible refine (C2.out _ _ ?_ ?_).mono ?_)
  · simp [go_sem]
  · simp [go_sem]
  rintro e w' ⟨rfl, n2, rfl⟩
  go_wp2_with fail
  (with_reducible refine (C3.out _ _ ?_ ?_).mono ?_)
  · simp [go_sem]
  · simp [go_sem]
  rintro e w' ⟨rfl, n3, rfl⟩
  go_wp2_with fail
  (with_reducible refine (C4.out _ _ ?_ ?_).mono ?_)
  · simp [go_sem]
  · simp [go_sem]
  rintro e w' ⟨rfl, n4, rfl⟩
  go_wp2_with fail
  (with_reducible refine (C5.out _ _ ?_ ?_).mono ?_)
  · simp [go_sem]
  · simp [go_sem]
  rintro e w' ⟨rfl, n5, rfl⟩
  go_wp2_with fail
  (with_reducible refine (D1.out _).mono ?_); rintro e w' ⟨rfl, nd2, rfl⟩
  go_wp2_with fail
  (with_reducible refine (D2.out _).mono ?_); rintro e w' ⟨rfl, nd3, rfl⟩
  go_wp2_with fail
  (with_reducible refine (D3.out _).mono ?_); rintro e w' ⟨rfl, nd4, rfl⟩
  go_wp2_with fail
  (with_reducible refine (D4.out _).mono ?_); rintro e w' ⟨rfl, nd5, rfl⟩
  go_wp2_with fail
  (with_reducible refine (D5.out _).mono ?_); rintro e w' ⟨rfl, nd6, rfl⟩
  go_wp2_with fail
  refine wp_loop_rounds 6 ?_
  rw [rounds_succ]
  go_wp2_with fail
  go_quiet (fail)
  go_wp2_with fail
  rw [rounds_succ]
  go_wp2_with fail
  go_quiet (fail)
  go_wp2_with fail
  rw [rounds_succ]
  go_wp2_with fail
  go_quiet (fail)
  go_wp2_with fail
  rw [rounds_succ]
  go_wp2_with fail
  go_quiet (fail)
  go_wp2_with fail
  rw [rounds_succ]
  go_wp2_with fail
  go_quiet (fail)
  go_wp2_with fail
  rw [rounds_succ]
  go_wp2_with fail
  have d6 := D6.out
  unfold ofR at d6
  by_cases hin : -2147483648 ≤ a2 ∧ a2 ≤ 2147483647
  · rw [if_pos hin] at d6
    obtain ⟨b1, b2⟩ := hin
    have E6 := Lib.hid d6
    clear d6 D6
    (with_reducible refine (E6.out _).mono ?_); rintro e w' ⟨rfl, nd7, rfl⟩
    go_wp2_with fail
    (with_reducible refine (D7.out _).mono ?_); rintro e w' ⟨rfl, nd8, rfl⟩
    go_wp2_with fail
    (with_reducible refine (D8.out _).mono ?_); rintro e w' ⟨rfl, nd9, rfl⟩
    go_wp2_with fail
    go_ret
    exact ⟨rfl, Grown.drewN (by go_grown) _⟩
  · rw [if_neg hin] at d6
    have E6 := Lib.hid d6
    clear d6 D6
    by_cases h1 : -2147483648 ≤ a2
    · have h2 : 2147483648 ≤ a2 := by omega
      clear hin
      (with_reducible refine (E6.out _).mono ?_); rintro e w' ⟨rfl, nd10, rfl⟩
      go_wp2_with fail
      (with_reducible refine (D7.out _).mono ?_); rintro e w' ⟨rfl, nd11, rfl⟩
      go_wp2_with fail
      (with_reducible refine (D8.out _).mono ?_); rintro e w' ⟨rfl, nd12, rfl⟩
      go_wp2_with fail
      go_ret
      exact ⟨rfl, Grown.drewN (by go_grown) _⟩
    · clear hin
      (with_reducible refine (E6.out _).mono ?_); rintro e w' ⟨rfl, nd13, rfl⟩
      go_wp2_with fail
      (with_reducible refine (D7.out _).mono ?_); rintro e w' ⟨rfl, nd14, rfl⟩
      go_wp2_with fail
      (with_reducible refine (D8.out _).mono ?_); rintro e w' ⟨rfl, nd15, rfl⟩
      go_wp2_with fail
      go_ret
      exact ⟨rfl, Grown.drewN (by go_grown) _⟩

/-! ### THE ROW's STEP: WRITTEN OUT: LEAVE IT -/
set_option maxRecDepth 100000 in
theorem lifted (os : Os) (started : os.Started) (H : Type) (enc : TypeId × Value → H) :
    ReturnsInHanded {} Try.checked os 15 .any (Rows.fixTellsSpec.pre6 enc Try.prog Try.f15 Rows.fixTellsRow.domain false) (Rows.fixTellsSpec.post enc Try.prog Try.f15 false true false false) := by
  refine returnsInHanded_of_change (C := Try.checked) own started (by kernel_rfl) Try.func15
    (ChangeSpec.witness6 (enc := enc) (C := Try.checked) false ⟨#[], #[.int .i64 0, .int .i64 0, .int .i64 0], []⟩ 8 (by kernel_rfl) (by kernel_rfl) (by kernel_rfl) (by kernel_rfl)) ?_
  intro W base args ds gs before hval0 hW hcnd _
  have hval : ∀ (j : Nat) t v, Try.f15.params[j]? = some t → args[j]? = some v → Value.okWide Try.prog W .any base t v := hval0
  have hW' := hW
  obtain ⟨p, q, hA0, hV, rfl, hfz, hnd⟩ := hW
  have hA : DataW.TrodAll enc Try.prog W 0 (fun _ => true) true Try.f15.params.toList args.toList ds p := hA0
  rw [Try.params15] at hA hval
  obtain ⟨v0, vs0, d0, ds0, p0, q0, hargs, rfl, rfl, h0, r0⟩ := trodAll_cons hA
  obtain ⟨v1, vs1, d1, ds1, p1, q1, rfl, rfl, rfl, h1, r1⟩ := trodAll_cons r0
  obtain ⟨v2, vs2, d2, ds2, p2, q2, rfl, rfl, rfl, h2, r2⟩ := trodAll_cons r1
  obtain ⟨rfl, rfl, rfl⟩ := trodAll_nil r2
  obtain rfl : args = #[v0, v1, v2] := by cases args; simp_all
  obtain ⟨rfl, rfl⟩ := trodVars_none hV
  obtain ⟨a0, rfl, rfl, rfl, w0⟩ := open_int Try.underlying23 (hval 0 23 v0 rfl rfl) h0
  obtain ⟨a1, rfl, rfl, rfl, w1⟩ := open_int Try.underlying23 (hval 1 23 v1 rfl rfl) h1
  obtain ⟨a2, rfl, rfl, rfl, w2⟩ := open_int Try.underlying3 (hval 2 3 v2 rfl rfl) h2
  clear hA0 hval0
  simp only [List.append_nil] at hW'
  refine (walk a0 a1 a2 w0 w1 w2 W).mono fun e W' ⟨he, hg⟩ => ?_
  subst he
  exact ⟨_, rfl, post_of_same (pa := []) (pv := []) hW' (fun _ _ _ => (trodAll_cons_mk (shut_bool Try.underlying4 _) trodAll_mk0)) (fun sp _ => (trodAll_cons_mk (shut_int Try.underlying23 w0) (trodAll_cons_mk (shut_int Try.underlying23 w1) (trodAll_cons_mk (shut_int Try.underlying3 w2) trodAll_mk0)))) (fun _ _ => rfl) rfl
    (hg.frame _) hg.2.1 (ok_one (by kernel_rfl) rfl (okWide_bool_mk Try.underlying4 _))⟩

theorem closed : joinedFacts Try.prog 15 Try.f15 Rows.fixTellsSpec Rows.fixTellsRow = true := by
  unfold joinedFacts
  rw [fact_laid, fact_maps, fact_keys, fact_heard, fact_stops, fact_knobs, fact_enter, fact_lifts, fact_make]
  kernel_rfl

theorem over : Rows.fixTellsRow.holds Try.pinned (OpenSpec.ofChange Rows.fixTellsSpec) :=
  OpenClaim.holds_of_wide 15 Try.f15 rfl rfl rfl rfl rfl rfl rfl ⟨rfl, rfl, rfl, rfl, rfl⟩ rfl rfl rfl rfl rfl (by kernel_rfl) Try.func15 closed
    (of_decide_eq_true (by kernel_rfl)) (by unfold Func.isWrapper; first | (rw [if_pos (by decide +kernel)]; kernel_rfl) | (rw [if_neg (by decide +kernel)]; exact ⟨rfl, rfl⟩))
    (fun os started H enc _ => lifted os started H enc)

/-- ████ THE STATEMENT ████ -/
theorem proved : Rows.FixTellsSaid :=
  over
#print axioms proved
end Go.Proofs.Ytdkaaifbmjnknaa.fixTells
