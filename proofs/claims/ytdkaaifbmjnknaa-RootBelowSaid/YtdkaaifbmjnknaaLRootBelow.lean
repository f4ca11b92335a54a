/- For every number RootBelow returns true: below 0 there is no root; of 0 and One they are themselves. -/
import Derived.Test.YtdkaaifbmjnknaaRows
import Derived.WalkKit
import Derived.ProofKit
import Derived.OpenShut
import Derived.Test.YtdkaaifbmjnknaaFacts
import Derived.Test.YtdkaaifbmjnknaaRootLo
namespace Go.Proofs.Ytdkaaifbmjnknaa.rootBelow
open Go.ChangeShapes Go.WideShapes Go.ChangeAt Go.RowKit M
set_option maxRecDepth 100000
set_option maxHeartbeats 4000000
set_option linter.unusedVariables false      -- a walk need not use every 'w<i>' (that an integer argument fits its kind)

theorem own : ownKnob Try.prog.godebug = none := by kernel_rfl

/-! ### STEP 1: THE WALK: the Go text returns true. 'Grown w w'': the world has at most new blocks (Derived/RowKit3.lean). Part the cases AHEAD of 'go_enter' where a test parts the walk; take each callee by a contract of your own. -/
theorem walk (a0 : Int) (w0 : (Lit.int .i64 a0).wf = true) (w : World) :
    Calls Try.prog 9 #[.int .i64 a0] w fun e w' => e = .returned (.bool true) ∧ Grown w w' := by
  have A := i64_wf w0
  have c0 := Lib.hid (alive4_c)
  have h2 : sqrtR 0 = (0, 0) := by decide +kernel
  have h3 : sqrtR 4294967296 = (4294967296, 0) := by decide +kernel
  have h4 : isq 0 = 0 := by decide +kernel
  have c1 := sqrt_c a0 A
  have c2 := sqrt_c 0 (i64_lit (by decide))
  have c3 := sqrt_c 4294967296 (i64_lit (by decide))
  have c4 := int_c 0 (by unfold U64; omega)
  rw [h2] at c2; rw [h3] at c3; rw [h4] at c4
  have C2 := Lib.hid c2; have C3 := Lib.hid c3; have C4 := Lib.hid c4
  unfold sqrtR at c1
  clear h2 h3 h4 c2 c3 c4
  by_cases hb : a0 < 0
  · rw [if_pos hb] at c1
    have C1 := Lib.hid c1
    have b0 := decide_eq_true hb
    clear c1
    go_enter Try.func9, Try.ntmps9
    go_wp2_with fail
    (with_reducible refine (c0.out _).mono ?_); rintro e w' ⟨rfl, nd1, rfl⟩
    go_wp2_with fail
    (with_reducible refine (C1.out _).mono ?_); rintro e w' ⟨rfl, nd2, rfl⟩
    go_wp2_with fail
    (with_reducible refine (C2.out _).mono ?_); rintro e w' ⟨rfl, nd3, rfl⟩
    go_wp2_with fail
    (with_reducible refine (C3.out _).mono ?_); rintro e w' ⟨rfl, nd4, rfl⟩
    go_wp2_with fail
    (with_reducible refine (C4.out _).mono ?_); rintro e w' ⟨rfl, nd5, rfl⟩
    go_wp2_with fail
    all_goals
      go_ret
      refine ⟨rb ?_, Grown.drewN (Grown.refl _) _⟩
      first | rfl | (simp; omega) | (exfalso; omega)
  · rw [if_neg hb] at c1
    have b0 := decide_eq_false hb
    have b1 : 0 ≤ a0 := by omega
    generalize isq (a0 * 4294967296) = r at *
    have C1 := Lib.hid c1
    clear c1 hb
    go_enter Try.func9, Try.ntmps9
    go_wp2_with fail
    (with_reducible refine (c0.out _).mono ?_); rintro e w' ⟨rfl, nd6, rfl⟩
    go_wp2_with fail
    (with_reducible refine (C1.out _).mono ?_); rintro e w' ⟨rfl, nd7, rfl⟩
    go_wp2_with fail
    (with_reducible refine (C2.out _).mono ?_); rintro e w' ⟨rfl, nd8, rfl⟩
    go_wp2_with fail
    (with_reducible refine (C3.out _).mono ?_); rintro e w' ⟨rfl, nd9, rfl⟩
    go_wp2_with fail
    (with_reducible refine (C4.out _).mono ?_); rintro e w' ⟨rfl, nd10, rfl⟩
    go_wp2_with fail
    all_goals
      go_ret
      refine ⟨rb ?_, Grown.drewN (Grown.refl _) _⟩
      first | rfl | (simp; omega) | (exfalso; omega)

/-! ### THE ROW's STEP: WRITTEN OUT: LEAVE IT -/
set_option maxRecDepth 100000 in
theorem lifted (os : Os) (started : os.Started) (H : Type) (enc : TypeId × Value → H) :
    ReturnsInHanded {} Try.checked os 9 .any (Rows.rootBelowSpec.pre6 enc Try.prog Try.f9 Rows.rootBelowRow.domain false) (Rows.rootBelowSpec.post enc Try.prog Try.f9 false true false false) := by
  refine returnsInHanded_of_change (C := Try.checked) own started (by kernel_rfl) Try.func9
    (ChangeSpec.witness6 (enc := enc) (C := Try.checked) false ⟨#[], #[.int .i64 0], []⟩ 8 (by kernel_rfl) (by kernel_rfl) (by kernel_rfl) (by kernel_rfl)) ?_
  intro W base args ds gs before hval0 hW hcnd _
  have hval : ∀ (j : Nat) t v, Try.f9.params[j]? = some t → args[j]? = some v → Value.okWide Try.prog W .any base t v := hval0
  have hW' := hW
  obtain ⟨p, q, hA0, hV, rfl, hfz, hnd⟩ := hW
  have hA : DataW.TrodAll enc Try.prog W 0 (fun _ => true) true Try.f9.params.toList args.toList ds p := hA0
  rw [Try.params9] at hA hval
  obtain ⟨v0, vs0, d0, ds0, p0, q0, hargs, rfl, rfl, h0, r0⟩ := trodAll_cons hA
  obtain ⟨rfl, rfl, rfl⟩ := trodAll_nil r0
  obtain rfl : args = #[v0] := by cases args; simp_all
  obtain ⟨rfl, rfl⟩ := trodVars_none hV
  obtain ⟨a0, rfl, rfl, rfl, w0⟩ := open_int Try.underlying23 (hval 0 23 v0 rfl rfl) h0
  clear hA0 hval0
  simp only [List.append_nil] at hW'
  refine (walk a0 w0 W).mono fun e W' ⟨he, hg⟩ => ?_
  subst he
  exact ⟨_, rfl, post_of_same (pa := []) (pv := []) hW' (fun _ _ _ => (trodAll_cons_mk (shut_bool Try.underlying4 _) trodAll_mk0)) (fun sp _ => (trodAll_cons_mk (shut_int Try.underlying23 w0) trodAll_mk0)) (fun _ _ => rfl) rfl
    (hg.frame _) hg.2.1 (ok_one (by kernel_rfl) rfl (okWide_bool_mk Try.underlying4 _))⟩

theorem closed : joinedFacts Try.prog 9 Try.f9 Rows.rootBelowSpec Rows.rootBelowRow = true := by
  unfold joinedFacts
  rw [fact_laid, fact_maps, fact_keys, fact_heard, fact_stops, fact_knobs, fact_enter, fact_lifts, fact_make]
  kernel_rfl

theorem over : Rows.rootBelowRow.holds Try.pinned (OpenSpec.ofChange Rows.rootBelowSpec) :=
  OpenClaim.holds_of_wide 9 Try.f9 rfl rfl rfl rfl rfl rfl rfl ⟨rfl, rfl, rfl, rfl, rfl⟩ rfl rfl rfl rfl rfl (by kernel_rfl) Try.func9 closed
    (of_decide_eq_true (by kernel_rfl)) (by unfold Func.isWrapper; first | (rw [if_pos (by decide +kernel)]; kernel_rfl) | (rw [if_neg (by decide +kernel)]; exact ⟨rfl, rfl⟩))
    (fun os started H enc _ => lifted os started H enc)

/-- ████ THE STATEMENT ████ -/
theorem proved : Rows.RootBelowSaid :=
  over
#print axioms proved
end Go.Proofs.Ytdkaaifbmjnknaa.rootBelow
