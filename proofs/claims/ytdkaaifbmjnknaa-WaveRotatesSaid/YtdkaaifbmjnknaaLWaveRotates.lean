/- For every place and number of turns WaveRotates returns true: whole turns leave it, half a turn turns its signs, a quarter turns it by a quarter. -/
import Derived.Test.YtdkaaifbmjnknaaRows
import Derived.WalkKit
import Derived.ProofKit
import Derived.OpenShut
import Derived.Test.YtdkaaifbmjnknaaFacts
import Derived.Test.YtdkaaifbmjnknaaWaveAlive
namespace Go.Proofs.Ytdkaaifbmjnknaa.waveRotates
open Go.ChangeShapes Go.WideShapes Go.ChangeAt Go.RowKit M
set_option maxRecDepth 100000
set_option maxHeartbeats 4000000
set_option linter.unusedVariables false      -- a walk need not use every 'w<i>' (that an integer argument fits its kind)

theorem own : ownKnob Try.prog.godebug = none := by kernel_rfl

theorem mulR_mone {a : Int} (h : -9223372036854775807 ≤ a ∧ a ≤ 9223372036854775807) : mulR a (-4294967296) = (-a, 0) := by
  unfold mulR
  refine wholeR_signed (by unfold I64; omega) ?_ (Int.ediv_nonneg (Int.mul_nonneg (absF_nonneg _) (absF_nonneg _)) (by omega))
  rw [absF_of_neg (a := -4294967296) (by omega), decide_eq_true (show (-4294967296 : Int) < 0 by omega)]
  by_cases h : a < 0
  · rw [absF_of_neg h, decide_eq_true h]; simp <;> omega
  · rw [absF_of_nonneg (by omega), decide_eq_false h]; simp <;> omega
theorem rot_whole {x y : Int} (hx : -9223372036854775807 ≤ x ∧ x ≤ 9223372036854775807) (hy : -9223372036854775807 ≤ y ∧ y ≤ 9223372036854775807) (a : Int) :
    (sinR a = 0 → cosR a = 4294967296 → rotR x y a = (x, y, 0)) ∧ (sinR a = 0 → cosR a = -4294967296 → rotR x y a = (-x, -y, 0)) ∧ (sinR a = 4294967296 → cosR a = 0 → rotR x y a = (-y, x, 0)) := by
  have X : I64 x := by unfold I64; omega
  have Y : I64 y := by unfold I64; omega
  have a1 : ∀ u v : Int, I64 (u - v) → subR u v = (u - v, 0) := fun u v h => subR_in h
  have a2 : ∀ u v : Int, I64 (u + v) → addR u v = (u + v, 0) := fun u v h => addR_in h
  refine ⟨fun s c => ?_, fun s c => ?_, fun s c => ?_⟩ <;> unfold rotR rotE <;> rw [s, c]
  · rw [mulR_one X, mulR_zero, mulR_zero, mulR_one Y, a1 x 0 (by rw [Int.sub_zero]; exact X), a2 0 y (by rw [Int.zero_add]; exact Y)]; simp [firstE]
  · rw [mulR_mone hx, mulR_zero, mulR_zero, mulR_mone hy, a1 (-x) 0 (by unfold I64; omega), a2 0 (-y) (by unfold I64; omega)]; simp [firstE]
  · rw [mulR_one X, mulR_zero, mulR_zero, mulR_one Y, a1 0 y (by unfold I64; omega), a2 x 0 (by rw [Int.add_zero]; exact X)]; simp [firstE]
/-! ### STEP 1: THE WALK: the Go text returns true. 'Grown w w'': the world has at most new blocks (Derived/RowKit3.lean). Part the cases AHEAD of 'go_enter' where a test parts the walk; take each callee by a contract of your own. -/
theorem walk (a0 : Int) (a1 : Int) (a2 : Int) (w0 : (Lit.int .i64 a0).wf = true) (w1 : (Lit.int .i64 a1).wf = true) (w2 : (Lit.int .i64 a2).wf = true) (w : World) :
    Calls Try.prog 21 #[.int .i64 a0, .int .i64 a1, .int .i64 a2] w fun e w' => e = .returned (.bool true) ∧ Grown w w' := by
  have A := i64_wf w0
  have B := i64_wf w1
  have C := i64_wf w2
  have c0 := Lib.hid (alive5_c)
  by_cases hm : a0 = -9223372036854775808 ∨ a1 = -9223372036854775808
  · have h0 : (a0 == -9223372036854775808) = true ∨ ((a0 == -9223372036854775808) = false ∧ (a1 == -9223372036854775808) = true) := by
      by_cases h : a0 = -9223372036854775808
      · exact Or.inl (beq_iff_eq.2 h)
      · exact Or.inr ⟨beq_eq_false_iff_ne.2 h, beq_iff_eq.2 (hm.resolve_left h)⟩
    clear hm
    rcases h0 with h1 | ⟨h1, h2⟩
    all_goals
      go_enter Try.func21, Try.ntmps21
      go_wp2_with fail
      (with_reducible refine (c0.out _).mono ?_); rintro e w' ⟨rfl, hg⟩
      have G := Lib.hid hg
      clear hg
      go_wp2_with fail
      go_ret
      exact ⟨rfl, G.out⟩
  have h1 : (a0 == -9223372036854775808) = false := beq_eq_false_iff_ne.2 (by omega)
  have h2 : (a1 == -9223372036854775808) = false := beq_eq_false_iff_ne.2 (by omega)
  by_cases hb : a2 < -1000 ∨ 1000 < a2
  · go_enter Try.func21, Try.ntmps21
    go_wp2_with fail
    all_goals
      (with_reducible refine (c0.out _).mono ?_); rintro e w' ⟨rfl, hg⟩
      have G := Lib.hid hg
      clear hg
      go_wp2_with fail
      go_ret
      exact ⟨rfl, G.out⟩
  · have b0 : -1000 ≤ a2 := by omega
    have b1 : a2 ≤ 1000 := by omega
    have hx : -9223372036854775807 ≤ a0 ∧ a0 ≤ 9223372036854775807 := by unfold I64 at A; omega
    have hy : -9223372036854775807 ≤ a1 ∧ a1 ≤ 9223372036854775807 := by unfold I64 at B; omega
    have c1 := rotate_c a0 a1 (a2 * 65536) A B (by unfold I64; omega)
    have c2 := rotate_c a0 a1 (a2 * 65536 + 32768) A B (by unfold I64; omega)
    have c3 := rotate_c a0 a1 (a2 * 65536 + 16384) A B (by unfold I64; omega)
    have s0 : sinR 0 = 0 := by decide +kernel
    have k0 : cosR 0 = 4294967296 := by decide +kernel
    have s2 : sinR 32768 = 0 := by decide +kernel
    have k2 : cosR 32768 = -4294967296 := by decide +kernel
    have s1 : sinR 16384 = 4294967296 := by decide +kernel
    have k1 : cosR 16384 = 0 := by decide +kernel
    rw [(rot_whole hx hy _).1 (by have := sinR_turn 0 a2; rw [Int.zero_add] at this; rw [this, s0]) (by have := cosR_turn 0 a2; rw [Int.zero_add] at this; rw [this, k0])] at c1
    rw [(rot_whole hx hy _).2.1 (by rw [Int.add_comm, sinR_turn, s2]) (by rw [Int.add_comm, cosR_turn, k2])] at c2
    rw [(rot_whole hx hy _).2.2 (by rw [Int.add_comm, sinR_turn, s1]) (by rw [Int.add_comm, cosR_turn, k1])] at c3
    have C1 := Lib.hid c1; have C2 := Lib.hid c2; have C3 := Lib.hid c3
    clear c1 c2 c3 s0 k0 s1 k1 s2 k2 hm hb
    go_enter Try.func21, Try.ntmps21
    go_wp2_with fail
    (with_reducible refine (c0.out _).mono ?_); rintro e w1 ⟨rfl, hg⟩
    have G := Lib.hid hg
    clear hg
    go_wp2_with fail
    (with_reducible refine (C1.out _).mono ?_); rintro e w2 ⟨rfl, hg⟩
    have G2 := Lib.hid hg
    clear hg
    go_wp2_with fail
    (with_reducible refine (C2.out _).mono ?_); rintro e w3 ⟨rfl, hg⟩
    have G3 := Lib.hid hg
    clear hg
    go_wp2_with fail
    (with_reducible refine (C3.out _).mono ?_); rintro e w4 ⟨rfl, hg⟩
    have G4 := Lib.hid hg
    clear hg
    go_wp2_with fail
    go_ret
    exact ⟨rfl, Grown.trans G.out (Grown.trans G2.out (Grown.trans G3.out G4.out))⟩

/-! ### THE ROW's STEP: WRITTEN OUT: LEAVE IT -/
set_option maxRecDepth 100000 in
theorem lifted (os : Os) (started : os.Started) (H : Type) (enc : TypeId × Value → H) :
    ReturnsInHanded {} Try.checked os 21 .any (Rows.waveRotatesSpec.pre6 enc Try.prog Try.f21 Rows.waveRotatesRow.domain false) (Rows.waveRotatesSpec.post enc Try.prog Try.f21 false true false false) := by
  refine returnsInHanded_of_change (C := Try.checked) own started (by kernel_rfl) Try.func21
    (ChangeSpec.witness6 (enc := enc) (C := Try.checked) false ⟨#[], #[.int .i64 0, .int .i64 0, .int .i64 0], []⟩ 8 (by kernel_rfl) (by kernel_rfl) (by kernel_rfl) (by kernel_rfl)) ?_
  intro W base args ds gs before hval0 hW hcnd _
  have hval : ∀ (j : Nat) t v, Try.f21.params[j]? = some t → args[j]? = some v → Value.okWide Try.prog W .any base t v := hval0
  have hW' := hW
  obtain ⟨p, q, hA0, hV, rfl, hfz, hnd⟩ := hW
  have hA : DataW.TrodAll enc Try.prog W 0 (fun _ => true) true Try.f21.params.toList args.toList ds p := hA0
  rw [Try.params21] at hA hval
  obtain ⟨v0, vs0, d0, ds0, p0, q0, hargs, rfl, rfl, h0, r0⟩ := trodAll_cons hA
  obtain ⟨v1, vs1, d1, ds1, p1, q1, rfl, rfl, rfl, h1, r1⟩ := trodAll_cons r0
  obtain ⟨v2, vs2, d2, ds2, p2, q2, rfl, rfl, rfl, h2, r2⟩ := trodAll_cons r1
  obtain ⟨rfl, rfl, rfl⟩ := trodAll_nil r2
  obtain rfl : args = #[v0, v1, v2] := by cases args; simp_all
  obtain ⟨rfl, rfl⟩ := trodVars_none hV
  obtain ⟨a0, rfl, rfl, rfl, w0⟩ := open_int Try.underlying23 (hval 0 23 v0 rfl rfl) h0
  obtain ⟨a1, rfl, rfl, rfl, w1⟩ := open_int Try.underlying23 (hval 1 23 v1 rfl rfl) h1
  obtain ⟨a2, rfl, rfl, rfl, w2⟩ := open_int Try.underlying3 (hval 2 3 v2 rfl rfl) h2
  clear hA0 hval0
  simp only [List.append_nil] at hW'
  refine (walk a0 a1 a2 w0 w1 w2 W).mono fun e W' ⟨he, hg⟩ => ?_
  subst he
  exact ⟨_, rfl, post_of_same (pa := []) (pv := []) hW' (fun _ _ _ => (trodAll_cons_mk (shut_bool Try.underlying4 _) trodAll_mk0)) (fun sp _ => (trodAll_cons_mk (shut_int Try.underlying23 w0) (trodAll_cons_mk (shut_int Try.underlying23 w1) (trodAll_cons_mk (shut_int Try.underlying3 w2) trodAll_mk0)))) (fun _ _ => rfl) rfl
    (hg.frame _) hg.2.1 (ok_one (by kernel_rfl) rfl (okWide_bool_mk Try.underlying4 _))⟩

theorem closed : joinedFacts Try.prog 21 Try.f21 Rows.waveRotatesSpec Rows.waveRotatesRow = true := by
  unfold joinedFacts
  rw [fact_laid, fact_maps, fact_keys, fact_heard, fact_stops, fact_knobs, fact_enter, fact_lifts, fact_make]
  kernel_rfl

theorem over : Rows.waveRotatesRow.holds Try.pinned (OpenSpec.ofChange Rows.waveRotatesSpec) :=
  OpenClaim.holds_of_wide 21 Try.f21 rfl rfl rfl rfl rfl rfl rfl ⟨rfl, rfl, rfl, rfl, rfl⟩ rfl rfl rfl rfl rfl (by kernel_rfl) Try.func21 closed
    (of_decide_eq_true (by kernel_rfl)) (by unfold Func.isWrapper; first | (rw [if_pos (by decide +kernel)]; kernel_rfl) | (rw [if_neg (by decide +kernel)]; exact ⟨rfl, rfl⟩))
    (fun os started H enc _ => lifted os started H enc)

/-- ████ THE STATEMENT ████ -/
theorem proved : Rows.WaveRotatesSaid :=
  over
#print axioms proved
end Go.Proofs.Ytdkaaifbmjnknaa.waveRotates
