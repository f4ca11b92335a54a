/- For every two numbers RootSquares returns true: a root's square is not above the number, the next one's is. -/
import Derived.Test.YtdkaaifbmjnknaaRows
import Derived.WalkKit
import Derived.ProofKit
import Derived.OpenShut
import Derived.Test.YtdkaaifbmjnknaaFacts
import Derived.Test.YtdkaaifbmjnknaaRootLo
namespace Go.Proofs.Ytdkaaifbmjnknaa.rootSquares
open Go.ChangeShapes Go.WideShapes Go.ChangeAt Go.RowKit M
set_option maxRecDepth 100000
set_option maxHeartbeats 4000000
set_option linter.unusedVariables false      -- a walk need not use every 'w<i>' (that an integer argument fits its kind)

theorem own : ownKnob Try.prog.godebug = none := by kernel_rfl

/-! ### STEP 1: THE WALK: the Go text returns true. 'Grown w w'': the world has at most new blocks (Derived/RowKit3.lean). Part the cases AHEAD of 'go_enter' where a test parts the walk; take each callee by a contract of your own. -/
theorem walk (a0 : Int) (a1 : Int) (w0 : (Lit.int .u64 a0).wf = true) (w1 : (Lit.int .i64 a1).wf = true) (w : World) :
    Calls Try.prog 4 #[.int .u64 a0, .int .i64 a1] w fun e w' => e = .returned (.bool true) ∧ Grown w w' := by
  have A := u64_wf w0
  have B := i64_wf w1
  have c0 := Lib.hid (alive4_c)
  have c1 := int_c a0 A
  have s1 := isq_spec (n := a0) (by unfold U64 at A; omega) (by unfold U64 at A; omega)
  have s2 := isq_lt (n := a0) (b := 4294967296) (by unfold U64 at A; omega) (by unfold U64 at A; omega) (by omega) (by unfold U64 at A; omega)
  have s3 := isq_nonneg a0
  generalize isq a0 = r at *
  have c2 := mul64_c r r (by unfold U64; omega) (by unfold U64; omega)
  have c3 := mul64_c (r + 1) (r + 1) (by unfold U64; omega) (by unfold U64; omega)
  have p0 : 0 ≤ r * r := Int.mul_nonneg s3 s3
  have p1 : 0 ≤ (r + 1) * (r + 1) := Int.mul_nonneg (by omega) (by omega)
  generalize r * r = R at *
  generalize (r + 1) * (r + 1) = T at *
  have e1 : R / 18446744073709551616 = 0 := by unfold U64 at A; omega
  have e2 : R % 18446744073709551616 = R := by unfold U64 at A; omega
  rw [e1, e2] at c2
  have d1 : decide (a0 < R) = false := decide_eq_false (by omega)
  have d2 : decide (4294967296 ≤ r) = false := decide_eq_false (by omega)
  have d3 : T / 18446744073709551616 = 0 → a0 < T % 18446744073709551616 := by omega
  generalize T / 18446744073709551616 = h at *
  generalize T % 18446744073709551616 = l at *
  have C1 := Lib.hid c1; have C2 := Lib.hid c2; have C3 := Lib.hid c3
  have D := Lib.hid d3
  clear c1 c2 c3 s1 p0 p1 e1 e2 d3
  by_cases hb : a1 < 0
  · have b0 := decide_eq_true hb
    go_enter Try.func4, Try.ntmps4
    go_wp2_with fail
    (with_reducible refine (c0.out _).mono ?_); rintro e w' ⟨rfl, nd1, rfl⟩
    go_wp2_with fail
    (with_reducible refine (C1.out _).mono ?_); rintro e w' ⟨rfl, nd2, rfl⟩
    go_wp2_with fail
    (with_reducible refine (C2.out _).mono ?_); rintro e w' ⟨rfl, nd3, rfl⟩
    go_wp2_with fail
    (with_reducible refine (C3.out _).mono ?_); rintro e w' ⟨rfl, nd4, rfl⟩
    go_wp2_with fail
    · exfalso
      have k := D.out ‹h = 0›
      have k2 : l ≤ a0 := ‹_›
      omega
    all_goals
      go_ret
      exact ⟨rfl, Grown.drewN (Grown.refl _) _⟩
  · have b0 := decide_eq_false hb
    have hb' : 0 ≤ a1 := by omega
    have B' : a1 ≤ 9223372036854775807 := B.2
    have c4 := sqrt_c a1 B
    unfold sqrtR at c4
    rw [if_neg hb] at c4
    have t1 := isq_spec (n := a1 * 4294967296) (by omega) (by omega)
    have t2 := sqrt_small hb' B
    have t3 := isq_nonneg (a1 * 4294967296)
    generalize isq (a1 * 4294967296) = s at *
    have c5 := mul64_c s s (by unfold U64; omega) (by unfold U64; omega)
    have c6 := mul64_c (s + 1) (s + 1) (by unfold U64; omega) (by unfold U64; omega)
    have p0 : 0 ≤ s * s := Int.mul_nonneg t3 t3
    have p1 : 0 ≤ (s + 1) * (s + 1) := Int.mul_nonneg (by omega) (by omega)
    generalize s * s = S at *
    generalize (s + 1) * (s + 1) = T' at *
    have f1 : S / 18446744073709551616 < a1 / 4294967296 ∨ (S / 18446744073709551616 = a1 / 4294967296 ∧ S % 18446744073709551616 ≤ IntKind.u64.wrap (a1 * 4294967296)) := by
      simp only [IntKind.wrap_u64]; omega
    have f2 : a1 / 4294967296 < T' / 18446744073709551616 ∨ (T' / 18446744073709551616 = a1 / 4294967296 ∧ IntKind.u64.wrap (a1 * 4294967296) < T' % 18446744073709551616) := by
      simp only [IntKind.wrap_u64]; omega
    generalize S / 18446744073709551616 = p at *
    generalize S % 18446744073709551616 = q at *
    generalize T' / 18446744073709551616 = p' at *
    generalize T' % 18446744073709551616 = q' at *
    have C4 := Lib.hid c4; have C5 := Lib.hid c5; have C6 := Lib.hid c6
    have F1 := Lib.hid f1; have F2 := Lib.hid f2
    clear c4 c5 c6 t1 p0 p1 f1 f2 hb
    go_enter Try.func4, Try.ntmps4
    go_wp2_with fail
    (with_reducible refine (c0.out _).mono ?_); rintro e w' ⟨rfl, nd5, rfl⟩
    go_wp2_with fail
    (with_reducible refine (C1.out _).mono ?_); rintro e w' ⟨rfl, nd6, rfl⟩
    go_wp2_with fail
    (with_reducible refine (C2.out _).mono ?_); rintro e w' ⟨rfl, nd7, rfl⟩
    go_wp2_with fail
    (with_reducible refine (C3.out _).mono ?_); rintro e w' ⟨rfl, nd8, rfl⟩
    go_wp2_with fail
    · exfalso
      have k := D.out ‹h = 0›
      have k2 : l ≤ a0 := ‹_›
      omega
    all_goals
      (with_reducible refine (C4.out _).mono ?_); rintro e w' ⟨rfl, nd9, rfl⟩
      go_wp2_with fail
      (with_reducible refine (C5.out _).mono ?_); rintro e w' ⟨rfl, nd10, rfl⟩
      go_wp2_with fail
      (with_reducible refine (C6.out _).mono ?_); rintro e w' ⟨rfl, nd11, rfl⟩
      go_wp2_with fail
    all_goals
      go_ret
      refine ⟨rb ?_, Grown.drewN (Grown.refl _) _⟩
      first
      | rfl
      | (have f1 := F1.out; have f2 := F2.out; simp; omega)
      | (exfalso; have f1 := F1.out; have f2 := F2.out; omega)

/-! ### THE ROW's STEP: WRITTEN OUT: LEAVE IT -/
set_option maxRecDepth 100000 in
theorem lifted (os : Os) (started : os.Started) (H : Type) (enc : TypeId × Value → H) :
    ReturnsInHanded {} Try.checked os 4 .any (Rows.rootSquaresSpec.pre6 enc Try.prog Try.f4 Rows.rootSquaresRow.domain false) (Rows.rootSquaresSpec.post enc Try.prog Try.f4 false true false false) := by
  refine returnsInHanded_of_change (C := Try.checked) own started (by kernel_rfl) Try.func4
    (ChangeSpec.witness6 (enc := enc) (C := Try.checked) false ⟨#[], #[.int .u64 0, .int .i64 0], []⟩ 8 (by kernel_rfl) (by kernel_rfl) (by kernel_rfl) (by kernel_rfl)) ?_
  intro W base args ds gs before hval0 hW hcnd _
  have hval : ∀ (j : Nat) t v, Try.f4.params[j]? = some t → args[j]? = some v → Value.okWide Try.prog W .any base t v := hval0
  have hW' := hW
  obtain ⟨p, q, hA0, hV, rfl, hfz, hnd⟩ := hW
  have hA : DataW.TrodAll enc Try.prog W 0 (fun _ => true) true Try.f4.params.toList args.toList ds p := hA0
  rw [Try.params4] at hA hval
  obtain ⟨v0, vs0, d0, ds0, p0, q0, hargs, rfl, rfl, h0, r0⟩ := trodAll_cons hA
  obtain ⟨v1, vs1, d1, ds1, p1, q1, rfl, rfl, rfl, h1, r1⟩ := trodAll_cons r0
  obtain ⟨rfl, rfl, rfl⟩ := trodAll_nil r1
  obtain rfl : args = #[v0, v1] := by cases args; simp_all
  obtain ⟨rfl, rfl⟩ := trodVars_none hV
  obtain ⟨a0, rfl, rfl, rfl, w0⟩ := open_int Try.underlying22 (hval 0 22 v0 rfl rfl) h0
  obtain ⟨a1, rfl, rfl, rfl, w1⟩ := open_int Try.underlying23 (hval 1 23 v1 rfl rfl) h1
  clear hA0 hval0
  simp only [List.append_nil] at hW'
  refine (walk a0 a1 w0 w1 W).mono fun e W' ⟨he, hg⟩ => ?_
  subst he
  exact ⟨_, rfl, post_of_same (pa := []) (pv := []) hW' (fun _ _ _ => (trodAll_cons_mk (shut_bool Try.underlying4 _) trodAll_mk0)) (fun sp _ => (trodAll_cons_mk (shut_int Try.underlying22 w0) (trodAll_cons_mk (shut_int Try.underlying23 w1) trodAll_mk0))) (fun _ _ => rfl) rfl
    (hg.frame _) hg.2.1 (ok_one (by kernel_rfl) rfl (okWide_bool_mk Try.underlying4 _))⟩

theorem closed : joinedFacts Try.prog 4 Try.f4 Rows.rootSquaresSpec Rows.rootSquaresRow = true := by
  unfold joinedFacts
  rw [fact_laid, fact_maps, fact_keys, fact_heard, fact_stops, fact_knobs, fact_enter, fact_lifts, fact_make]
  kernel_rfl

theorem over : Rows.rootSquaresRow.holds Try.pinned (OpenSpec.ofChange Rows.rootSquaresSpec) :=
  OpenClaim.holds_of_wide 4 Try.f4 rfl rfl rfl rfl rfl rfl rfl ⟨rfl, rfl, rfl, rfl, rfl⟩ rfl rfl rfl rfl rfl (by kernel_rfl) Try.func4 closed
    (of_decide_eq_true (by kernel_rfl)) (by unfold Func.isWrapper; first | (rw [if_pos (by decide +kernel)]; kernel_rfl) | (rw [if_neg (by decide +kernel)]; exact ⟨rfl, rfl⟩))
    (fun os started H enc _ => lifted os started H enc)

/-- ████ THE STATEMENT ████ -/
theorem proved : Rows.RootSquaresSaid :=
  over
#print axioms proved
end Go.Proofs.Ytdkaaifbmjnknaa.rootSquares
