/- For every two numbers FixLaws returns true: sums and products go in whichever order, what is added can be taken away, a product by One or 0 is that. -/
import Derived.Test.YtdkaaifbmjnknaaRows
import Derived.WalkKit
import Derived.ProofKit
import Derived.OpenShut
import Derived.Test.YtdkaaifbmjnknaaFacts
import Derived.Test.YtdkaaifbmjnknaaFixAlive
namespace Go.Proofs.Ytdkaaifbmjnknaa.fixLaws
open Go.ChangeShapes Go.WideShapes Go.ChangeAt Go.RowKit M
set_option maxRecDepth 100000
set_option linter.unusedVariables false      -- a walk need not use every 'w<i>' (that an integer argument fits its kind)

theorem own : ownKnob Try.prog.godebug = none := by kernel_rfl

/-! ### STEP 1: THE WALK: the Go text returns true. 'Grown w w'': the world has at most new blocks (Derived/RowKit3.lean). Part the cases AHEAD of 'go_enter' where a test parts the walk; take each callee by a contract of your own. -/
theorem walk (a0 : Int) (a1 : Int) (w0 : (Lit.int .i64 a0).wf = true) (w1 : (Lit.int .i64 a1).wf = true) (w : World) :
    Calls Try.prog 13 #[.int .i64 a0, .int .i64 a1] w fun e w' => e = .returned (.bool true) ∧ Grown w w' := by
  have A := i64_wf w0
  have B := i64_wf w1
  have c0 := Lib.hid (alive1_c)
  have c1 := fixAdd_c a0 a1 A B
  have c2 := fixAdd_c a1 a0 B A
  have c3 := fixMul_c a0 a1 A B
  have c4 := fixMul_c a1 a0 B A
  have c5 := fixMul_c a0 4294967296 A (i64_lit (by decide))
  have c6 := fixMul_c a0 0 A (i64_lit (by decide))
  rw [addR_comm] at c2
  rw [mulR_comm] at c4
  rw [mulR_one A] at c5
  rw [mulR_zero] at c6
  generalize mulR a0 a1 = p at *
  obtain ⟨p, g⟩ := p
  have C3 := Lib.hid c3; have C4 := Lib.hid c4; have C5 := Lib.hid c5; have C6 := Lib.hid c6
  clear c3 c4 c5 c6
  rcases addR_err a0 a1 with h | h
  · obtain ⟨h1, h2⟩ := addR_ok h
    rw [h1] at c1 c2
    have c7 := fixSub_c (a0 + a1) a1 h2 B
    rw [subR_in (by rw [Int.add_sub_cancel]; exact A), Int.add_sub_cancel] at c7
    clear h h1 h2
    generalize a0 + a1 = x at *
    have C1 := Lib.hid c1; have C2 := Lib.hid c2; have C7 := Lib.hid c7
    clear c1 c2 c7
    go_enter Try.func13, Try.ntmps13
    go_wp2_with fail
    refine (c0.out _).mono ?_; rintro e w' ⟨rfl, nd1, rfl⟩
    go_wp2_with fail
    refine (C1.out _).mono ?_; rintro e w' ⟨rfl, nd2, rfl⟩
    go_wp2_with fail
    refine (C2.out _).mono ?_; rintro e w' ⟨rfl, nd3, rfl⟩
    go_wp2_with fail
    refine (C3.out _).mono ?_; rintro e w' ⟨rfl, nd4, rfl⟩
    go_wp2_with fail
    refine (C4.out _).mono ?_; rintro e w' ⟨rfl, nd5, rfl⟩
    go_wp2_with fail
    refine (C5.out _).mono ?_; rintro e w' ⟨rfl, nd6, rfl⟩
    go_wp2_with fail
    refine (C6.out _).mono ?_; rintro e w' ⟨rfl, nd7, rfl⟩
    go_wp2_with fail
    refine (C7.out _).mono ?_; rintro e w' ⟨rfl, nd8, rfl⟩
    go_wp2_with fail
    go_ret
    exact ⟨rfl, Grown.drewN (Grown.refl _) _⟩
  · rw [h] at c1 c2
    have C1 := Lib.hid c1; have C2 := Lib.hid c2
    clear h c1 c2
    go_enter Try.func13, Try.ntmps13
    go_wp2_with fail
    refine (c0.out _).mono ?_; rintro e w' ⟨rfl, nd9, rfl⟩
    go_wp2_with fail
    refine (C1.out _).mono ?_; rintro e w' ⟨rfl, nd10, rfl⟩
    go_wp2_with fail
    refine (C2.out _).mono ?_; rintro e w' ⟨rfl, nd11, rfl⟩
    go_wp2_with fail
    refine (C3.out _).mono ?_; rintro e w' ⟨rfl, nd12, rfl⟩
    go_wp2_with fail
    refine (C4.out _).mono ?_; rintro e w' ⟨rfl, nd13, rfl⟩
    go_wp2_with fail
    refine (C5.out _).mono ?_; rintro e w' ⟨rfl, nd14, rfl⟩
    go_wp2_with fail
    refine (C6.out _).mono ?_; rintro e w' ⟨rfl, nd15, rfl⟩
    go_wp2_with fail
    go_ret
    exact ⟨rfl, Grown.drewN (Grown.refl _) _⟩

/-! ### THE ROW's STEP: WRITTEN OUT: LEAVE IT -/
set_option maxRecDepth 100000 in
theorem lifted (os : Os) (started : os.Started) (H : Type) (enc : TypeId × Value → H) :
    ReturnsInHanded {} Try.checked os 13 .any (Rows.fixLawsSpec.pre6 enc Try.prog Try.f13 Rows.fixLawsRow.domain false) (Rows.fixLawsSpec.post enc Try.prog Try.f13 false true false false) := by
  refine returnsInHanded_of_change (C := Try.checked) own started (by kernel_rfl) Try.func13
    (ChangeSpec.witness6 (enc := enc) (C := Try.checked) false ⟨#[], #[.int .i64 0, .int .i64 0], []⟩ 8 (by kernel_rfl) (by kernel_rfl) (by kernel_rfl) (by kernel_rfl)) ?_
  intro W base args ds gs before hval0 hW hcnd _
  have hval : ∀ (j : Nat) t v, Try.f13.params[j]? = some t → args[j]? = some v → Value.okWide Try.prog W .any base t v := hval0
  have hW' := hW
  obtain ⟨p, q, hA0, hV, rfl, hfz, hnd⟩ := hW
  have hA : DataW.TrodAll enc Try.prog W 0 (fun _ => true) true Try.f13.params.toList args.toList ds p := hA0
  rw [Try.params13] at hA hval
  obtain ⟨v0, vs0, d0, ds0, p0, q0, hargs, rfl, rfl, h0, r0⟩ := trodAll_cons hA
  obtain ⟨v1, vs1, d1, ds1, p1, q1, rfl, rfl, rfl, h1, r1⟩ := trodAll_cons r0
  obtain ⟨rfl, rfl, rfl⟩ := trodAll_nil r1
  obtain rfl : args = #[v0, v1] := by cases args; simp_all
  obtain ⟨rfl, rfl⟩ := trodVars_none hV
  obtain ⟨a0, rfl, rfl, rfl, w0⟩ := open_int Try.underlying23 (hval 0 23 v0 rfl rfl) h0
  obtain ⟨a1, rfl, rfl, rfl, w1⟩ := open_int Try.underlying23 (hval 1 23 v1 rfl rfl) h1
  clear hA0 hval0
  simp only [List.append_nil] at hW'
  refine (walk a0 a1 w0 w1 W).mono fun e W' ⟨he, hg⟩ => ?_
  subst he
  exact ⟨_, rfl, post_of_same (pa := []) (pv := []) hW' (fun _ _ _ => (trodAll_cons_mk (shut_bool Try.underlying4 _) trodAll_mk0)) (fun sp _ => (trodAll_cons_mk (shut_int Try.underlying23 w0) (trodAll_cons_mk (shut_int Try.underlying23 w1) trodAll_mk0))) (fun _ _ => rfl) rfl
    (hg.frame _) hg.2.1 (ok_one (by kernel_rfl) rfl (okWide_bool_mk Try.underlying4 _))⟩

theorem closed : joinedFacts Try.prog 13 Try.f13 Rows.fixLawsSpec Rows.fixLawsRow = true := by
  unfold joinedFacts
  rw [fact_laid, fact_maps, fact_keys, fact_heard, fact_stops, fact_knobs, fact_enter, fact_lifts, fact_make]
  kernel_rfl

theorem over : Rows.fixLawsRow.holds Try.pinned (OpenSpec.ofChange Rows.fixLawsSpec) :=
  OpenClaim.holds_of_wide 13 Try.f13 rfl rfl rfl rfl rfl rfl rfl ⟨rfl, rfl, rfl, rfl, rfl⟩ rfl rfl rfl rfl rfl (by kernel_rfl) Try.func13 closed
    (of_decide_eq_true (by kernel_rfl)) (by unfold Func.isWrapper; first | (rw [if_pos (by decide +kernel)]; kernel_rfl) | (rw [if_neg (by decide +kernel)]; exact ⟨rfl, rfl⟩))
    (fun os started H enc _ => lifted os started H enc)

/-- ████ THE STATEMENT ████ -/
theorem proved : Rows.FixLawsSaid :=
  over
#print axioms proved
end Go.Proofs.Ytdkaaifbmjnknaa.fixLaws
