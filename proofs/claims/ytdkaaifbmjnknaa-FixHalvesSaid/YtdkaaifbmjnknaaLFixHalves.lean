/- For every number FixHalves returns true: half of it, taken twice, is the number if it is even; a product by a half is a quotient by two. -/
import Derived.Test.YtdkaaifbmjnknaaRows
import Derived.WalkKit
import Derived.ProofKit
import Derived.OpenShut
import Derived.Test.YtdkaaifbmjnknaaFacts
import Derived.Test.YtdkaaifbmjnknaaFixAlive
namespace Go.Proofs.Ytdkaaifbmjnknaa.fixHalves
open Go.ChangeShapes Go.WideShapes Go.ChangeAt Go.RowKit M
set_option maxRecDepth 100000
set_option maxHeartbeats 4000000
set_option linter.unusedVariables false      -- a walk need not use every 'w<i>' (that an integer argument fits its kind)

theorem own : ownKnob Try.prog.godebug = none := by kernel_rfl

def half (a : Int) : Int := if a < 0 then -(-a / 2) else a / 2
theorem half_b (a : Int) : (half a + half a = a ∨ half a + half a = a - 1 ∨ half a + half a = a + 1) := by unfold half; split <;> omega
theorem half_mul {a : Int} (ha : I64 a) : mulR a 2147483648 = (half a, 0) := by
  unfold I64 at ha
  unfold mulR
  refine wholeR_signed ?_ ?_ (Int.ediv_nonneg (Int.mul_nonneg (absF_nonneg _) (absF_nonneg _)) (by omega))
  · have := half_b a; unfold I64; omega
  · unfold half
    by_cases h : a < 0
    · rw [absF_of_neg h, absF_of_nonneg (by omega), decide_eq_true h]; simp; omega
    · rw [absF_of_nonneg (by omega), absF_of_nonneg (by omega), decide_eq_false h]; simp; omega
theorem half_div {a : Int} (ha : I64 a) : divR a 8589934592 = (half a, 0) := by
  unfold I64 at ha
  unfold divR; rw [if_neg (by omega)]
  refine wholeR_signed ?_ ?_ (Int.ediv_nonneg (Int.mul_nonneg (absF_nonneg _) (by omega)) (absF_nonneg _))
  · have := half_b a; unfold I64; omega
  · unfold half
    by_cases h : a < 0
    · rw [absF_of_neg h, absF_of_nonneg (by omega), decide_eq_true h]; simp; omega
    · rw [absF_of_nonneg (by omega), absF_of_nonneg (by omega), decide_eq_false h]; simp; omega
theorem and_one (a : Int) : bits .and .i64 a 1 = a % 2 := by
  have e : (BitVec.ofInt 64 a &&& BitVec.ofInt 64 1).toNat = ((a % 18446744073709551616) % 2).toNat := by
    rw [BitVec.toNat_and]
    have : (BitVec.ofInt 64 (1 : Int)).toNat = 1 := by decide
    rw [this, Nat.and_one_is_mod, BitVec.toNat_ofInt]
    omega
  show IntKind.i64.wrap (((BitVec.ofInt 64 a &&& BitVec.ofInt 64 1).toNat : Nat) : Int) = a % 2
  rw [e, IntKind.wrap_i64]; omega
/-- Of a number and what its halves make: which of the tests hold. -/
theorem half_ways {a d : Int} (h : (a % 2 = 0 ∧ d = a) ∨ (a % 2 = 1 ∧ (d = a - 1 ∨ d = a + 1))) (hd : I64 d) :
    (bits .and .i64 a 1 = 0 ∧ (d == a) = true) ∨
    (bits .and .i64 a 1 = 1 ∧ (d == wrap64 (a - 1)) = true) ∨
    (bits .and .i64 a 1 = 1 ∧ (d == wrap64 (a - 1)) = false ∧ (d == wrap64 (a + 1)) = true) := by
  rw [and_one]
  rcases h with ⟨h1, h2⟩ | ⟨h1, h2 | h2⟩
  · exact Or.inl ⟨h1, beq_iff_eq.2 h2⟩
  · exact Or.inr (Or.inl ⟨h1, by rw [← h2, wrap64_id hd]; exact beq_iff_eq.2 rfl⟩)
  · refine Or.inr (Or.inr ⟨h1, ?_, by rw [← h2, wrap64_id hd]; exact beq_iff_eq.2 rfl⟩)
    rw [beq_eq_false_iff_ne]; unfold I64 at hd; simp only [wrap64]; omega
/-! ### STEP 1: THE WALK: the Go text returns true. 'Grown w w'': the world has at most new blocks (Derived/RowKit3.lean). Part the cases AHEAD of 'go_enter' where a test parts the walk; take each callee by a contract of your own. -/
theorem walk (a0 : Int) (w0 : (Lit.int .i64 a0).wf = true) (w : World) :
    Calls Try.prog 11 #[.int .i64 a0] w fun e w' => e = .returned (.bool true) ∧ Grown w w' := by
  have A := i64_wf w0
  have c0 := Lib.hid (alive1_c)
  have c1 := fixMul_c a0 2147483648 A (i64_lit (by decide))
  have c2 := fixDiv_c a0 8589934592 A (i64_lit (by decide))
  rw [half_mul A] at c1
  rw [half_div A] at c2
  have hd := half_b a0
  have T : I64 (half a0) := by unfold I64 at *; omega
  have T2 : I64 (half a0 + half a0) := by
    clear hd; unfold half; unfold I64 at *; split <;> omega
  have c3 := fixAdd_c (half a0) (half a0) T T
  rw [addR_in T2] at c3
  have C1 := Lib.hid c1; have C2 := Lib.hid c2; have C3 := Lib.hid c3
  clear c1 c2 c3
  have hd : (a0 % 2 = 0 ∧ half a0 + half a0 = a0) ∨ (a0 % 2 = 1 ∧ (half a0 + half a0 = a0 - 1 ∨ half a0 + half a0 = a0 + 1)) := by unfold half; split <;> omega
  have hd := half_ways hd T2
  generalize half a0 + half a0 = d at *
  generalize half a0 = q at *
  have D := Lib.hid hd
  clear hd
  go_enter Try.func11, Try.ntmps11
  go_wp2_with fail
  refine (c0.out _).mono ?_; rintro e w' ⟨rfl, nd1, rfl⟩
  go_wp2_with fail
  refine (C1.out _).mono ?_; rintro e w' ⟨rfl, nd2, rfl⟩
  go_wp2_with fail
  refine (C2.out _).mono ?_; rintro e w' ⟨rfl, nd3, rfl⟩
  go_wp2_with fail
  refine (C3.out _).mono ?_; rintro e w' ⟨rfl, nd9, rfl⟩
  rcases D.out with ⟨o1, o2⟩ | ⟨o1, o2⟩ | ⟨o1, o2, o3⟩
  all_goals
    clear C1 C2 C3 c0 D T T2 A
    go_wp2_with fail
    go_ret
    exact ⟨rfl, Grown.drewN (Grown.refl _) _⟩

/-! ### THE ROW's STEP: WRITTEN OUT: LEAVE IT -/
set_option maxRecDepth 100000 in
theorem lifted (os : Os) (started : os.Started) (H : Type) (enc : TypeId × Value → H) :
    ReturnsInHanded {} Try.checked os 11 .any (Rows.fixHalvesSpec.pre6 enc Try.prog Try.f11 Rows.fixHalvesRow.domain false) (Rows.fixHalvesSpec.post enc Try.prog Try.f11 false true false false) := by
  refine returnsInHanded_of_change (C := Try.checked) own started (by kernel_rfl) Try.func11
    (ChangeSpec.witness6 (enc := enc) (C := Try.checked) false ⟨#[], #[.int .i64 0], []⟩ 8 (by kernel_rfl) (by kernel_rfl) (by kernel_rfl) (by kernel_rfl)) ?_
  intro W base args ds gs before hval0 hW hcnd _
  have hval : ∀ (j : Nat) t v, Try.f11.params[j]? = some t → args[j]? = some v → Value.okWide Try.prog W .any base t v := hval0
  have hW' := hW
  obtain ⟨p, q, hA0, hV, rfl, hfz, hnd⟩ := hW
  have hA : DataW.TrodAll enc Try.prog W 0 (fun _ => true) true Try.f11.params.toList args.toList ds p := hA0
  rw [Try.params11] at hA hval
  obtain ⟨v0, vs0, d0, ds0, p0, q0, hargs, rfl, rfl, h0, r0⟩ := trodAll_cons hA
  obtain ⟨rfl, rfl, rfl⟩ := trodAll_nil r0
  obtain rfl : args = #[v0] := by cases args; simp_all
  obtain ⟨rfl, rfl⟩ := trodVars_none hV
  obtain ⟨a0, rfl, rfl, rfl, w0⟩ := open_int Try.underlying23 (hval 0 23 v0 rfl rfl) h0
  clear hA0 hval0
  simp only [List.append_nil] at hW'
  refine (walk a0 w0 W).mono fun e W' ⟨he, hg⟩ => ?_
  subst he
  exact ⟨_, rfl, post_of_same (pa := []) (pv := []) hW' (fun _ _ _ => (trodAll_cons_mk (shut_bool Try.underlying4 _) trodAll_mk0)) (fun sp _ => (trodAll_cons_mk (shut_int Try.underlying23 w0) trodAll_mk0)) (fun _ _ => rfl) rfl
    (hg.frame _) hg.2.1 (ok_one (by kernel_rfl) rfl (okWide_bool_mk Try.underlying4 _))⟩

theorem closed : joinedFacts Try.prog 11 Try.f11 Rows.fixHalvesSpec Rows.fixHalvesRow = true := by
  unfold joinedFacts
  rw [fact_laid, fact_maps, fact_keys, fact_heard, fact_stops, fact_knobs, fact_enter, fact_lifts, fact_make]
  kernel_rfl

theorem over : Rows.fixHalvesRow.holds Try.pinned (OpenSpec.ofChange Rows.fixHalvesSpec) :=
  OpenClaim.holds_of_wide 11 Try.f11 rfl rfl rfl rfl rfl rfl rfl ⟨rfl, rfl, rfl, rfl, rfl⟩ rfl rfl rfl rfl rfl (by kernel_rfl) Try.func11 closed
    (of_decide_eq_true (by kernel_rfl)) (by unfold Func.isWrapper; first | (rw [if_pos (by decide +kernel)]; kernel_rfl) | (rw [if_neg (by decide +kernel)]; exact ⟨rfl, rfl⟩))
    (fun os started H enc _ => lifted os started H enc)

/-- ████ THE STATEMENT ████ -/
theorem proved : Rows.FixHalvesSaid :=
  over
#print axioms proved
end Go.Proofs.Ytdkaaifbmjnknaa.fixHalves
