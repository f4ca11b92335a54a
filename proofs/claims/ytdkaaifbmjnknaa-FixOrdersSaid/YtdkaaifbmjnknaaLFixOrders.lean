/- For every three numbers FixOrders returns true: what is greater stays greater with the same added, and not less times the same positive number. -/
import Derived.Test.YtdkaaifbmjnknaaRows
import Derived.WalkKit
import Derived.ProofKit
import Derived.OpenShut
import Derived.Test.YtdkaaifbmjnknaaFacts
import Derived.Test.YtdkaaifbmjnknaaFixAlive
namespace Go.Proofs.Ytdkaaifbmjnknaa.fixOrders
open Go.ChangeShapes Go.WideShapes Go.ChangeAt Go.RowKit M
set_option maxRecDepth 100000
set_option maxHeartbeats 4000000
set_option linter.unusedVariables false      -- a walk need not use every 'w<i>' (that an integer argument fits its kind)

theorem own : ownKnob Try.prog.godebug = none := by kernel_rfl

theorem mul_mono {a b c : Int} (hc : 0 ≤ c) (h : a ≤ b) (g1 : (mulR a c).2 = 0) (g2 : (mulR b c).2 = 0) : (mulR a c).1 ≤ (mulR b c).1 := by
  unfold mulR at *
  rw [wholeR_ok g1, wholeR_ok g2]
  rw [absF_of_nonneg hc]
  have hd : decide (c < 0) = false := decide_eq_false (by omega)
  rw [hd]
  by_cases ha : a < 0 <;> by_cases hb : b < 0
  · rw [decide_eq_true ha, decide_eq_true hb, absF_of_neg ha, absF_of_neg hb]
    have : -b * c ≤ -a * c := Int.mul_le_mul_of_nonneg_right (by omega) hc
    have := Int.ediv_le_ediv (show (0 : Int) < 4294967296 by omega) this
    show -(-a * c / 4294967296) ≤ -(-b * c / 4294967296)
    omega
  · rw [decide_eq_true ha, decide_eq_false hb, absF_of_neg ha, absF_of_nonneg (a := b) (by omega)]
    have h1 := Int.ediv_nonneg (Int.mul_nonneg (show 0 ≤ -a by omega) hc) (show (0 : Int) ≤ 4294967296 by omega)
    have h2 := Int.ediv_nonneg (Int.mul_nonneg (show 0 ≤ b by omega) hc) (show (0 : Int) ≤ 4294967296 by omega)
    show -(-a * c / 4294967296) ≤ b * c / 4294967296
    omega
  · omega
  · rw [decide_eq_false ha, decide_eq_false hb, absF_of_nonneg (a := a) (by omega), absF_of_nonneg (a := b) (by omega)]
    have : a * c ≤ b * c := Int.mul_le_mul_of_nonneg_right (by omega) hc
    exact Int.ediv_le_ediv (show (0 : Int) < 4294967296 by omega) this
/-! ### STEP 1: THE WALK: the Go text returns true. 'Grown w w'': the world has at most new blocks (Derived/RowKit3.lean). Part the cases AHEAD of 'go_enter' where a test parts the walk; take each callee by a contract of your own. -/
theorem walk (a0 : Int) (a1 : Int) (a2 : Int) (w0 : (Lit.int .i64 a0).wf = true) (w1 : (Lit.int .i64 a1).wf = true) (w2 : (Lit.int .i64 a2).wf = true) (w : World) :
    Calls Try.prog 12 #[.int .i64 a0, .int .i64 a1, .int .i64 a2] w fun e w' => e = .returned (.bool true) ∧ Grown w w' := by
  have A := i64_wf w0
  have B := i64_wf w1
  have C := i64_wf w2
  have c0 := Lib.hid (alive1_c)
  have c1 := fixAdd_c a0 a2 A C
  have c2 := fixAdd_c a1 a2 B C
  have c3 := fixMul_c a0 a2 A C
  have c4 := fixMul_c a1 a2 B C
  have m := fun (hc : 0 ≤ a2) (h : a0 ≤ a1) => mul_mono (a := a0) (b := a1) (c := a2) hc h
  have m2 : (addR a0 a2).2 = 0 → (addR a1 a2).2 = 0 → (decide ((addR a0 a2).1 < (addR a1 a2).1) = decide (a0 < a1)) := by
    intro h1 h2
    rw [(addR_ok h1).1, (addR_ok h2).1]
    by_cases h : a0 < a1
    · rw [decide_eq_true h]; exact decide_eq_true (by show a0 + a2 < a1 + a2; omega)
    · rw [decide_eq_false h]; exact decide_eq_false (by show ¬ a0 + a2 < a1 + a2; omega)
  generalize mulR a0 a2 = p at *
  generalize mulR a1 a2 = q at *
  generalize addR a0 a2 = x at *
  generalize addR a1 a2 = y at *
  obtain ⟨p, g⟩ := p
  obtain ⟨q, h⟩ := q
  obtain ⟨x, e⟩ := x
  obtain ⟨y, f⟩ := y
  dsimp only at *
  have M := Lib.hid m; have M2 := Lib.hid m2
  have C1 := Lib.hid c1; have C2 := Lib.hid c2; have C3 := Lib.hid c3; have C4 := Lib.hid c4
  clear m m2 c1 c2 c3 c4
  go_enter Try.func12, Try.ntmps12
  go_wp2_with fail
  refine (c0.out _).mono ?_; rintro e w' ⟨rfl, nd1, rfl⟩
  go_wp2_with fail
  refine (C1.out _).mono ?_; rintro e w' ⟨rfl, nd2, rfl⟩
  go_wp2_with fail
  refine (C2.out _).mono ?_; rintro e w' ⟨rfl, nd3, rfl⟩
  go_wp2_with fail
  · have h1 := M2.out ‹_› ‹_›
    have h2 : (!decide (x < y) == decide (a0 < a1)) = true := ‹_›
    rw [h1] at h2; simp at h2
  all_goals
    refine (C3.out _).mono ?_; rintro e w' ⟨rfl, nd4, rfl⟩
    go_wp2_with fail
    refine (C4.out _).mono ?_; rintro e w' ⟨rfl, nd5, rfl⟩
    go_wp2_with fail
  all_goals
    go_ret
    refine ⟨rb ?_, Grown.drewN (Grown.refl _) _⟩
    first | rfl | (have k := M.out ‹0 ≤ a2› ‹a0 ≤ a1› ‹g = 0› ‹h = 0›; simp [k])

/-! ### THE ROW's STEP: WRITTEN OUT: LEAVE IT -/
set_option maxRecDepth 100000 in
theorem lifted (os : Os) (started : os.Started) (H : Type) (enc : TypeId × Value → H) :
    ReturnsInHanded {} Try.checked os 12 .any (Rows.fixOrdersSpec.pre6 enc Try.prog Try.f12 Rows.fixOrdersRow.domain false) (Rows.fixOrdersSpec.post enc Try.prog Try.f12 false true false false) := by
  refine returnsInHanded_of_change (C := Try.checked) own started (by kernel_rfl) Try.func12
    (ChangeSpec.witness6 (enc := enc) (C := Try.checked) false ⟨#[], #[.int .i64 0, .int .i64 0, .int .i64 0], []⟩ 8 (by kernel_rfl) (by kernel_rfl) (by kernel_rfl) (by kernel_rfl)) ?_
  intro W base args ds gs before hval0 hW hcnd _
  have hval : ∀ (j : Nat) t v, Try.f12.params[j]? = some t → args[j]? = some v → Value.okWide Try.prog W .any base t v := hval0
  have hW' := hW
  obtain ⟨p, q, hA0, hV, rfl, hfz, hnd⟩ := hW
  have hA : DataW.TrodAll enc Try.prog W 0 (fun _ => true) true Try.f12.params.toList args.toList ds p := hA0
  rw [Try.params12] at hA hval
  obtain ⟨v0, vs0, d0, ds0, p0, q0, hargs, rfl, rfl, h0, r0⟩ := trodAll_cons hA
  obtain ⟨v1, vs1, d1, ds1, p1, q1, rfl, rfl, rfl, h1, r1⟩ := trodAll_cons r0
  obtain ⟨v2, vs2, d2, ds2, p2, q2, rfl, rfl, rfl, h2, r2⟩ := trodAll_cons r1
  obtain ⟨rfl, rfl, rfl⟩ := trodAll_nil r2
  obtain rfl : args = #[v0, v1, v2] := by cases args; simp_all
  obtain ⟨rfl, rfl⟩ := trodVars_none hV
  obtain ⟨a0, rfl, rfl, rfl, w0⟩ := open_int Try.underlying23 (hval 0 23 v0 rfl rfl) h0
  obtain ⟨a1, rfl, rfl, rfl, w1⟩ := open_int Try.underlying23 (hval 1 23 v1 rfl rfl) h1
  obtain ⟨a2, rfl, rfl, rfl, w2⟩ := open_int Try.underlying23 (hval 2 23 v2 rfl rfl) h2
  clear hA0 hval0
  simp only [List.append_nil] at hW'
  refine (walk a0 a1 a2 w0 w1 w2 W).mono fun e W' ⟨he, hg⟩ => ?_
  subst he
  exact ⟨_, rfl, post_of_same (pa := []) (pv := []) hW' (fun _ _ _ => (trodAll_cons_mk (shut_bool Try.underlying4 _) trodAll_mk0)) (fun sp _ => (trodAll_cons_mk (shut_int Try.underlying23 w0) (trodAll_cons_mk (shut_int Try.underlying23 w1) (trodAll_cons_mk (shut_int Try.underlying23 w2) trodAll_mk0)))) (fun _ _ => rfl) rfl
    (hg.frame _) hg.2.1 (ok_one (by kernel_rfl) rfl (okWide_bool_mk Try.underlying4 _))⟩

theorem closed : joinedFacts Try.prog 12 Try.f12 Rows.fixOrdersSpec Rows.fixOrdersRow = true := by
  unfold joinedFacts
  rw [fact_laid, fact_maps, fact_keys, fact_heard, fact_stops, fact_knobs, fact_enter, fact_lifts, fact_make]
  kernel_rfl

theorem over : Rows.fixOrdersRow.holds Try.pinned (OpenSpec.ofChange Rows.fixOrdersSpec) :=
  OpenClaim.holds_of_wide 12 Try.f12 rfl rfl rfl rfl rfl rfl rfl ⟨rfl, rfl, rfl, rfl, rfl⟩ rfl rfl rfl rfl rfl (by kernel_rfl) Try.func12 closed
    (of_decide_eq_true (by kernel_rfl)) (by unfold Func.isWrapper; first | (rw [if_pos (by decide +kernel)]; kernel_rfl) | (rw [if_neg (by decide +kernel)]; exact ⟨rfl, rfl⟩))
    (fun os started H enc _ => lifted os started H enc)

/-- ████ THE STATEMENT ████ -/
theorem proved : Rows.FixOrdersSaid :=
  over
#print axioms proved
end Go.Proofs.Ytdkaaifbmjnknaa.fixOrders
