/- For every two numbers FixSigns returns true: turned signs turn a product's and a quotient's sign and nothing else; two turned ones nothing. -/
import Derived.Test.YtdkaaifbmjnknaaRows
import Derived.WalkKit
import Derived.ProofKit
import Derived.OpenShut
import Derived.Test.YtdkaaifbmjnknaaFacts
import Derived.Test.YtdkaaifbmjnknaaFixAlive
namespace Go.Proofs.Ytdkaaifbmjnknaa.fixSigns
open Go.ChangeShapes Go.WideShapes Go.ChangeAt Go.RowKit M
set_option maxRecDepth 100000
set_option maxHeartbeats 4000000
set_option linter.unusedVariables false      -- a walk need not use every 'w<i>' (that an integer argument fits its kind)

theorem own : ownKnob Try.prog.godebug = none := by kernel_rfl

theorem neg_neg_mul {a b : Int} (ha : a ≠ 0) (hb : b ≠ 0) : mulR (-a) (-b) = mulR a b := by
  unfold mulR; rw [absF_neg, absF_neg]
  have k1 : decide (-a < 0) = !decide (a < 0) := by by_cases h : a < 0 <;> simp [h] <;> omega
  have k2 : decide (-b < 0) = !decide (b < 0) := by by_cases h : b < 0 <;> simp [h] <;> omega
  rw [k1, k2]; cases decide (a < 0) <;> cases decide (b < 0) <;> rfl
theorem mulR_z1 (b : Int) : mulR 0 b = (0, 0) := by rw [mulR_comm]; exact mulR_zero b
theorem neg_neg_mul' (a b : Int) : mulR (-a) (-b) = mulR a b := by
  by_cases ha : a = 0
  · subst ha; rw [show (-0 : Int) = 0 from rfl, mulR_z1, mulR_z1]
  by_cases hb : b = 0
  · subst hb; rw [show (-0 : Int) = 0 from rfl, mulR_zero, mulR_zero]
  exact neg_neg_mul ha hb
theorem wholeR_z (l : Bool) : wholeR l 0 = (0, 0) := by cases l <;> rfl
theorem neg_neg_div (a b : Int) : divR (-a) (-b) = divR a b := by
  unfold divR; rw [absF_neg, absF_neg]
  by_cases hb : b = 0
  · subst hb; rfl
  rw [if_neg (by omega), if_neg hb]
  by_cases ha : a = 0
  · subst ha; simp [absF, wholeR_z]
  have k1 : decide (-a < 0) = !decide (a < 0) := by by_cases h : a < 0 <;> simp [h] <;> omega
  have k2 : decide (-b < 0) = !decide (b < 0) := by by_cases h : b < 0 <;> simp [h] <;> omega
  rw [k1, k2]; cases decide (a < 0) <;> cases decide (b < 0) <;> rfl
/-- One sign turned: if the one is told, so is the other, but at the very end. -/
theorem wholeR_turn (l : Bool) {n : Int} (hn : 0 ≤ n) (h : (wholeR l n).2 = 0) : ((wholeR (!l) n).2 ≠ 0 ∧ (wholeR l n).1 = -9223372036854775808) ∨ ((wholeR (!l) n).2 = 0 ∧ (wholeR (!l) n).1 = -(wholeR l n).1) := by
  revert h; unfold wholeR; cases l <;> simp <;> intro h
  · by_cases k : n < 9223372036854775808
    · right; rw [if_pos k, if_pos (by omega)]; simp
    · rw [if_neg k] at h; simp at h
  · by_cases k : n ≤ 9223372036854775808
    · by_cases k2 : n < 9223372036854775808
      · right; rw [if_pos k, if_pos k2]; simp
      · left; rw [if_pos k, if_neg k2]; simp; omega
    · rw [if_neg k] at h; simp at h
theorem mul_turn {a b : Int} (h : (mulR a b).2 = 0) : ((mulR (-a) b).2 ≠ 0 ∧ (mulR a b).1 = -9223372036854775808) ∨ ((mulR (-a) b).2 = 0 ∧ (mulR (-a) b).1 = -(mulR a b).1) := by
  by_cases ha : a = 0
  · subst ha; right; rw [show (-0 : Int) = 0 from rfl, mulR_z1]; simp
  unfold mulR at *
  rw [absF_neg]
  have k1 : decide (-a < 0) = !decide (a < 0) := by by_cases h : a < 0 <;> simp [h] <;> omega
  have k2 : ((!decide (a < 0)) != decide (b < 0)) = !(decide (a < 0) != decide (b < 0)) := by cases decide (a < 0) <;> cases decide (b < 0) <;> rfl
  rw [k1, k2]
  exact wholeR_turn _ (Int.ediv_nonneg (Int.mul_nonneg (absF_nonneg _) (absF_nonneg _)) (by omega)) h
/-! ### STEP 1: THE WALK: the Go text returns true. 'Grown w w'': the world has at most new blocks (Derived/RowKit3.lean). Part the cases AHEAD of 'go_enter' where a test parts the walk; take each callee by a contract of your own. -/
theorem walk (a0 : Int) (a1 : Int) (w0 : (Lit.int .i64 a0).wf = true) (w1 : (Lit.int .i64 a1).wf = true) (w : World) :
    Calls Try.prog 16 #[.int .i64 a0, .int .i64 a1] w fun e w' => e = .returned (.bool true) ∧ Grown w w' := by
  have A := i64_wf w0
  have B := i64_wf w1
  have c0 := Lib.hid (alive1_c)
  by_cases hm : a0 = -9223372036854775808 ∨ a1 = -9223372036854775808
  · have h0 : (a0 == -9223372036854775808) = true ∨ ((a0 == -9223372036854775808) = false ∧ (a1 == -9223372036854775808) = true) := by
      by_cases h : a0 = -9223372036854775808
      · exact Or.inl (beq_iff_eq.2 h)
      · exact Or.inr ⟨beq_eq_false_iff_ne.2 h, beq_iff_eq.2 (hm.resolve_left h)⟩
    clear hm
    rcases h0 with h1 | ⟨h1, h2⟩
    all_goals
      go_enter Try.func16, Try.ntmps16
      go_wp2_with fail
      refine (c0.out _).mono ?_; rintro e w' ⟨rfl, nd1, rfl⟩
      go_wp2_with fail
      go_ret
      exact ⟨rfl, Grown.drewN (Grown.refl _) _⟩
  · have h1 : (a0 == -9223372036854775808) = false := beq_eq_false_iff_ne.2 (by omega)
    have h2 : (a1 == -9223372036854775808) = false := beq_eq_false_iff_ne.2 (by omega)
    have A' : I64 (-a0) := by unfold I64 at *; omega
    have B' : I64 (-a1) := by unfold I64 at *; omega
    have c1 := fixMul_c a0 a1 A B
    have c2 := fixMul_c (-a0) a1 A' B
    have c3 := fixMul_c (-a0) (-a1) A' B'
    have c4 := fixDiv_c a0 a1 A B
    have c5 := fixDiv_c (-a0) (-a1) A' B'
    have c6 := fixNeg_c a0 A
    rw [subR_in (a := 0) (b := a0) (by unfold I64 at *; omega), Int.zero_sub] at c6
    rw [neg_neg_mul'] at c3
    rw [neg_neg_div] at c5
    have t := fun h => mul_turn (a := a0) (b := a1) h
    have t2 := mulR_i64 (-a0) a1
    generalize mulR a0 a1 = p at *
    generalize mulR (-a0) a1 = q at *
    generalize divR a0 a1 = u at *
    obtain ⟨p, e⟩ := p
    obtain ⟨q, f⟩ := q
    obtain ⟨u, i⟩ := u
    dsimp only at *
    have b0 : -9223372036854775807 ≤ a0 ∧ a0 ≤ 9223372036854775807 := by unfold I64 at A; omega
    have b1 : -9223372036854775807 ≤ a1 ∧ a1 ≤ 9223372036854775807 := by unfold I64 at B; omega
    have TT := Lib.hid t
    have T2 := Lib.hid t2
    have C1 := Lib.hid c1; have C2 := Lib.hid c2; have C3 := Lib.hid c3; have C4 := Lib.hid c4; have C5 := Lib.hid c5; have C6 := Lib.hid c6
    clear hm t t2 c1 c2 c3 c4 c5 c6
    go_enter Try.func16, Try.ntmps16
    go_wp2_with fail
    refine (c0.out _).mono ?_; rintro e w' ⟨rfl, nd2, rfl⟩
    go_wp2_with fail
    refine (C1.out _).mono ?_; rintro e w' ⟨rfl, nd3, rfl⟩
    go_wp2_with fail
    refine (C2.out _).mono ?_; rintro e w' ⟨rfl, nd4, rfl⟩
    go_wp2_with fail
    refine (C3.out _).mono ?_; rintro e w' ⟨rfl, nd5, rfl⟩
    go_wp2_with fail
    refine (C4.out _).mono ?_; rintro e w' ⟨rfl, nd6, rfl⟩
    go_wp2_with fail
    refine (C5.out _).mono ?_; rintro e w' ⟨rfl, nd7, rfl⟩
    go_wp2_with fail
    refine (C6.out _).mono ?_; rintro e w' ⟨rfl, nd8, rfl⟩
    go_wp2_with fail
    · have k := TT.out ‹_›
      have hf : f = 0 := ‹_›
      go_ret
      refine ⟨rb ?_, Grown.drewN (Grown.refl _) _⟩
      have k2 := (k.resolve_left (fun h => h.1 hf)).2
      have b2 : I64 (-p) := by rw [← k2]; exact T2.out
      rw [wrap64_id b2, k2]; simp
    · go_ret
      exact ⟨rfl, Grown.drewN (Grown.refl _) _⟩
    · exfalso
      have k := TT.out ‹_›
      have hf : ¬ f = 0 := ‹_›
      have hp : ¬ p = -9223372036854775808 := ‹_›
      rcases k with k | k
      · exact hp k.2
      · exact hf k.1
    · go_ret
      exact ⟨rfl, Grown.drewN (Grown.refl _) _⟩

/-! ### THE ROW's STEP: WRITTEN OUT: LEAVE IT -/
set_option maxRecDepth 100000 in
theorem lifted (os : Os) (started : os.Started) (H : Type) (enc : TypeId × Value → H) :
    ReturnsInHanded {} Try.checked os 16 .any (Rows.fixSignsSpec.pre6 enc Try.prog Try.f16 Rows.fixSignsRow.domain false) (Rows.fixSignsSpec.post enc Try.prog Try.f16 false true false false) := by
  refine returnsInHanded_of_change (C := Try.checked) own started (by kernel_rfl) Try.func16
    (ChangeSpec.witness6 (enc := enc) (C := Try.checked) false ⟨#[], #[.int .i64 0, .int .i64 0], []⟩ 8 (by kernel_rfl) (by kernel_rfl) (by kernel_rfl) (by kernel_rfl)) ?_
  intro W base args ds gs before hval0 hW hcnd _
  have hval : ∀ (j : Nat) t v, Try.f16.params[j]? = some t → args[j]? = some v → Value.okWide Try.prog W .any base t v := hval0
  have hW' := hW
  obtain ⟨p, q, hA0, hV, rfl, hfz, hnd⟩ := hW
  have hA : DataW.TrodAll enc Try.prog W 0 (fun _ => true) true Try.f16.params.toList args.toList ds p := hA0
  rw [Try.params16] at hA hval
  obtain ⟨v0, vs0, d0, ds0, p0, q0, hargs, rfl, rfl, h0, r0⟩ := trodAll_cons hA
  obtain ⟨v1, vs1, d1, ds1, p1, q1, rfl, rfl, rfl, h1, r1⟩ := trodAll_cons r0
  obtain ⟨rfl, rfl, rfl⟩ := trodAll_nil r1
  obtain rfl : args = #[v0, v1] := by cases args; simp_all
  obtain ⟨rfl, rfl⟩ := trodVars_none hV
  obtain ⟨a0, rfl, rfl, rfl, w0⟩ := open_int Try.underlying23 (hval 0 23 v0 rfl rfl) h0
  obtain ⟨a1, rfl, rfl, rfl, w1⟩ := open_int Try.underlying23 (hval 1 23 v1 rfl rfl) h1
  clear hA0 hval0
  simp only [List.append_nil] at hW'
  refine (walk a0 a1 w0 w1 W).mono fun e W' ⟨he, hg⟩ => ?_
  subst he
  exact ⟨_, rfl, post_of_same (pa := []) (pv := []) hW' (fun _ _ _ => (trodAll_cons_mk (shut_bool Try.underlying4 _) trodAll_mk0)) (fun sp _ => (trodAll_cons_mk (shut_int Try.underlying23 w0) (trodAll_cons_mk (shut_int Try.underlying23 w1) trodAll_mk0))) (fun _ _ => rfl) rfl
    (hg.frame _) hg.2.1 (ok_one (by kernel_rfl) rfl (okWide_bool_mk Try.underlying4 _))⟩

theorem closed : joinedFacts Try.prog 16 Try.f16 Rows.fixSignsSpec Rows.fixSignsRow = true := by
  unfold joinedFacts
  rw [fact_laid, fact_maps, fact_keys, fact_heard, fact_stops, fact_knobs, fact_enter, fact_lifts, fact_make]
  kernel_rfl

theorem over : Rows.fixSignsRow.holds Try.pinned (OpenSpec.ofChange Rows.fixSignsSpec) :=
  OpenClaim.holds_of_wide 16 Try.f16 rfl rfl rfl rfl rfl rfl rfl ⟨rfl, rfl, rfl, rfl, rfl⟩ rfl rfl rfl rfl rfl (by kernel_rfl) Try.func16 closed
    (of_decide_eq_true (by kernel_rfl)) (by unfold Func.isWrapper; first | (rw [if_pos (by decide +kernel)]; kernel_rfl) | (rw [if_neg (by decide +kernel)]; exact ⟨rfl, rfl⟩))
    (fun os started H enc _ => lifted os started H enc)

/-- ████ THE STATEMENT ████ -/
theorem proved : Rows.FixSignsSaid :=
  over
#print axioms proved
end Go.Proofs.Ytdkaaifbmjnknaa.fixSigns
