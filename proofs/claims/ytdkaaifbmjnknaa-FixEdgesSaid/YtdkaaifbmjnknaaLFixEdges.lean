/- FixEdges returns true for every n: at the ends of the numbers there are, one more, one less, the least one turned. -/
import Derived.Test.YtdkaaifbmjnknaaRows
import Derived.WalkKit
import Derived.ProofKit
import Derived.OpenShut
import Derived.Test.YtdkaaifbmjnknaaFacts
import Derived.Test.YtdkaaifbmjnknaaFixAlive
namespace Go.Proofs.Ytdkaaifbmjnknaa.fixEdges
open Go.ChangeShapes Go.WideShapes Go.ChangeAt Go.RowKit M
set_option maxRecDepth 100000
set_option linter.unusedVariables false      -- a walk need not use every 'w<i>' (that an integer argument fits its kind)

theorem own : ownKnob Try.prog.godebug = none := by kernel_rfl

/-! ### STEP 1: THE WALK: the Go text returns true. 'Grown w w'': the world has at most new blocks (Derived/RowKit3.lean). Part the cases AHEAD of 'go_enter' where a test parts the walk; take each callee by a contract of your own. -/
theorem walk (a0 : Int) (w0 : (Lit.int .i64 a0).wf = true) (w : World) :
    Calls Try.prog 17 #[.int .i64 a0] w fun e w' => e = .returned (.bool true) ∧ Grown w w' := by
  have A := i64_wf w0
  have c0 := Lib.hid (alive1_c)
  by_cases hn : a0 < 1 ∨ 1099511627776 < a0
  · go_enter Try.func17, Try.ntmps17
    go_wp2_with fail
    all_goals
      refine (c0.out _).mono ?_; rintro e w' ⟨rfl, n1, rfl⟩
      go_wp2_with fail
      go_ret
      exact ⟨rfl, Grown.drewN (Grown.refl _) _⟩
  · have h1 : 1 ≤ a0 := by omega
    have h2 : a0 ≤ 1099511627776 := by omega
    have c1 := fixAdd_c 9223372036854775807 a0 (i64_lit (by decide)) A
    have c2 := fixSub_c (-9223372036854775808) a0 (i64_lit (by decide)) A
    have c3 := fixSub_c 9223372036854775807 a0 (i64_lit (by decide)) A
    have c4 := fixNeg_c (-9223372036854775808) (i64_lit (by decide))
    have c5 := fixNeg_c 9223372036854775807 (i64_lit (by decide))
    have c6 := fixDiv_c (-9223372036854775808) (-4294967296) (i64_lit (by decide)) (i64_lit (by decide))
    have e1 : addR 9223372036854775807 a0 = (0, 3) := by unfold addR; rw [if_neg (by omega)]
    have e2 : subR (-9223372036854775808) a0 = (0, 3) := by unfold subR; rw [if_neg (by omega)]
    have e3 : subR 9223372036854775807 a0 = (9223372036854775807 - a0, 0) := by unfold subR; rw [if_pos (by omega)]
    have e4 : subR 0 (-9223372036854775808) = (0, 3) := by decide +kernel
    have e5 : subR 0 9223372036854775807 = (-9223372036854775807, 0) := by decide +kernel
    have e6 : divR (-9223372036854775808) (-4294967296) = (0, 3) := by decide +kernel
    rw [e1] at c1; rw [e2] at c2; rw [e3] at c3; rw [e4] at c4; rw [e5] at c5; rw [e6] at c6
    clear e1 e2 e3 e4 e5 e6 hn
    have C1 := Lib.hid c1; have C2 := Lib.hid c2; have C3 := Lib.hid c3; have C4 := Lib.hid c4; have C5 := Lib.hid c5; have C6 := Lib.hid c6
    clear c1 c2 c3 c4 c5 c6
    go_enter Try.func17, Try.ntmps17
    go_wp2_with fail
    refine (c0.out _).mono ?_; rintro e w' ⟨rfl, nd1, rfl⟩
    go_wp2_with fail
    refine (C1.out _).mono ?_; rintro e w' ⟨rfl, nd2, rfl⟩
    go_wp2_with fail
    refine (C2.out _).mono ?_; rintro e w' ⟨rfl, nd3, rfl⟩
    go_wp2_with fail
    refine (C3.out _).mono ?_; rintro e w' ⟨rfl, nd4, rfl⟩
    go_wp2_with fail
    refine (C4.out _).mono ?_; rintro e w' ⟨rfl, nd5, rfl⟩
    go_wp2_with fail
    refine (C5.out _).mono ?_; rintro e w' ⟨rfl, nd6, rfl⟩
    go_wp2_with fail
    refine (C6.out _).mono ?_; rintro e w' ⟨rfl, nd7, rfl⟩
    go_wp2_with fail
    go_ret
    exact ⟨rb (by simp), Grown.drewN (Grown.refl _) _⟩

/-! ### THE ROW's STEP: WRITTEN OUT: LEAVE IT -/
set_option maxRecDepth 100000 in
theorem lifted (os : Os) (started : os.Started) (H : Type) (enc : TypeId × Value → H) :
    ReturnsInHanded {} Try.checked os 17 .any (Rows.fixEdgesSpec.pre6 enc Try.prog Try.f17 Rows.fixEdgesRow.domain false) (Rows.fixEdgesSpec.post enc Try.prog Try.f17 false true false false) := by
  refine returnsInHanded_of_change (C := Try.checked) own started (by kernel_rfl) Try.func17
    (ChangeSpec.witness6 (enc := enc) (C := Try.checked) false ⟨#[], #[.int .i64 0], []⟩ 8 (by kernel_rfl) (by kernel_rfl) (by kernel_rfl) (by kernel_rfl)) ?_
  intro W base args ds gs before hval0 hW hcnd _
  have hval : ∀ (j : Nat) t v, Try.f17.params[j]? = some t → args[j]? = some v → Value.okWide Try.prog W .any base t v := hval0
  have hW' := hW
  obtain ⟨p, q, hA0, hV, rfl, hfz, hnd⟩ := hW
  have hA : DataW.TrodAll enc Try.prog W 0 (fun _ => true) true Try.f17.params.toList args.toList ds p := hA0
  rw [Try.params17] at hA hval
  obtain ⟨v0, vs0, d0, ds0, p0, q0, hargs, rfl, rfl, h0, r0⟩ := trodAll_cons hA
  obtain ⟨rfl, rfl, rfl⟩ := trodAll_nil r0
  obtain rfl : args = #[v0] := by cases args; simp_all
  obtain ⟨rfl, rfl⟩ := trodVars_none hV
  obtain ⟨a0, rfl, rfl, rfl, w0⟩ := open_int Try.underlying3 (hval 0 3 v0 rfl rfl) h0
  clear hA0 hval0
  simp only [List.append_nil] at hW'
  refine (walk a0 w0 W).mono fun e W' ⟨he, hg⟩ => ?_
  subst he
  exact ⟨_, rfl, post_of_same (pa := []) (pv := []) hW' (fun _ _ _ => (trodAll_cons_mk (shut_bool Try.underlying4 _) trodAll_mk0)) (fun sp _ => (trodAll_cons_mk (shut_int Try.underlying3 w0) trodAll_mk0)) (fun _ _ => rfl) rfl
    (hg.frame _) hg.2.1 (ok_one (by kernel_rfl) rfl (okWide_bool_mk Try.underlying4 _))⟩

theorem closed : joinedFacts Try.prog 17 Try.f17 Rows.fixEdgesSpec Rows.fixEdgesRow = true := by
  unfold joinedFacts
  rw [fact_laid, fact_maps, fact_keys, fact_heard, fact_stops, fact_knobs, fact_enter, fact_lifts, fact_make]
  kernel_rfl

theorem over : Rows.fixEdgesRow.holds Try.pinned (OpenSpec.ofChange Rows.fixEdgesSpec) :=
  OpenClaim.holds_of_wide 17 Try.f17 rfl rfl rfl rfl rfl rfl rfl ⟨rfl, rfl, rfl, rfl, rfl⟩ rfl rfl rfl rfl rfl (by kernel_rfl) Try.func17 closed
    (of_decide_eq_true (by kernel_rfl)) (by unfold Func.isWrapper; first | (rw [if_pos (by decide +kernel)]; kernel_rfl) | (rw [if_neg (by decide +kernel)]; exact ⟨rfl, rfl⟩))
    (fun os started H enc _ => lifted os started H enc)

/-- ████ THE STATEMENT ████ -/
theorem proved : Rows.FixEdgesSaid :=
  over
#print axioms proved
end Go.Proofs.Ytdkaaifbmjnknaa.fixEdges
