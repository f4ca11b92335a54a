/- For every angle and place WaveTells returns true: every sine, cosine and turned place is the reference's. -/
import Derived.Test.YtdkaaifbmjnknaaRows
import Derived.WalkKit
import Derived.ProofKit
import Derived.OpenShut
import Derived.Test.YtdkaaifbmjnknaaFacts
import Derived.Test.YtdkaaifbmjnknaaWaveAlive
import Derived.Test.YtdkaaifbmjnknaaWaveRef
namespace Go.Proofs.Ytdkaaifbmjnknaa.waveTells
open Go.ChangeShapes Go.WideShapes Go.ChangeAt Go.RowKit M
set_option maxRecDepth 100000
set_option maxHeartbeats 4000000
set_option linter.unusedVariables false      -- a walk need not use every 'w<i>' (that an integer argument fits its kind)

theorem own : ownKnob Try.prog.godebug = none := by kernel_rfl

/-! ### STEP 1: THE WALK: the Go text returns true. 'Grown w w'': the world has at most new blocks (Derived/RowKit3.lean). Part the cases AHEAD of 'go_enter' where a test parts the walk; take each callee by a contract of your own. -/
theorem walk (a0 : Int) (a1 : Int) (a2 : Int) (w0 : (Lit.int .i64 a0).wf = true) (w1 : (Lit.int .i64 a1).wf = true) (w2 : (Lit.int .i64 a2).wf = true) (w : World) :
    Calls Try.prog 18 #[.int .i64 a0, .int .i64 a1, .int .i64 a2] w fun e w' => e = .returned (.bool true) ∧ Grown w w' := by
  have A := i64_wf w0
  have B := i64_wf w1
  have C := i64_wf w2
  have c0 := Lib.hid (alive5_c)
  have c1 := fun p w' hc hf => refRotate_c p a1 a2 a0 B C A w' hc hf
  have c2 := rotate_c a1 a2 a0 B C A
  have c3 := norm_c a0 A
  have c4 := refNorm_c a0 A
  have c5 := sin_c a0 A
  have c6 := refSin_c a0 A
  have c7 := cos_c a0 A
  have c8 := refCos_c a0 A
  generalize rotR a1 a2 a0 = r at *
  generalize sinR a0 = s at *
  generalize cosR a0 = c at *
  generalize a0 % 65536 = m at *
  obtain ⟨u, v, t⟩ := r
  dsimp only at *
  have C1 := Lib.hid c1; have C2 := Lib.hid c2; have C3 := Lib.hid c3; have C4 := Lib.hid c4; have C5 := Lib.hid c5; have C6 := Lib.hid c6; have C7 := Lib.hid c7; have C8 := Lib.hid c8
  clear c1 c2 c3 c4 c5 c6 c7 c8
  go_enter Try.func18, Try.ntmps18
  go_wp2_with fail
  (with_reducible refine (c0.out _).mono ?_); rintro e x1 ⟨rfl, hg⟩
  have G := Lib.hid hg
  clear hg
  go_wp2_with fail
  (with_reducible refine (C1.out _ _ ?_ ?_).mono ?_)
  · simp [go_sem]
  · simp [go_sem]
  rintro e w' ⟨rfl, n1, rfl⟩
  go_wp2_with fail
  (with_reducible refine (C2.out _).mono ?_); rintro e x2 ⟨rfl, hg⟩
  have hk := hg.1.cell (b := x1.heap.size) (off := 0) (by simp [go_sem]) id
  have hk2 : x2.cell? ⟨x1.heap.size, 0, none⟩ = some (.int .i64 t) := by
    rw [hk]; simp [go_sem]
  have hs : x1.heap.size + 1 ≤ x2.heap.size := by
    have := hg.2.2
    simpa [go_sem] using this
  have G2 := Lib.hid hg
  clear hg hk
  go_wp2_with fail
  (with_reducible refine (C3.out _).mono ?_); rintro e w' ⟨rfl, nd1, rfl⟩
  go_wp2_with fail
  (with_reducible refine (C4.out _).mono ?_); rintro e w' ⟨rfl, nd2, rfl⟩
  go_wp2_with fail
  (with_reducible refine (C5.out _).mono ?_); rintro e w' ⟨rfl, nd3, rfl⟩
  go_wp2_with fail
  (with_reducible refine (C6.out _).mono ?_); rintro e w' ⟨rfl, nd4, rfl⟩
  go_wp2_with fail
  (with_reducible refine (C7.out _).mono ?_); rintro e w' ⟨rfl, nd5, rfl⟩
  go_wp2_with fail
  (with_reducible refine (C8.out _).mono ?_); rintro e w' ⟨rfl, nd6, rfl⟩
  go_wp2_with fail
  go_wp2_with fail
  go_ret
  exact ⟨rfl, Grown.drewN (Grown.trans G.out (Grown.trans (Grown.drewN (Grown.alloc (Grown.refl _) _ _) _) G2.out)) _⟩

/-! ### THE ROW's STEP: WRITTEN OUT: LEAVE IT -/
set_option maxRecDepth 100000 in
theorem lifted (os : Os) (started : os.Started) (H : Type) (enc : TypeId × Value → H) :
    ReturnsInHanded {} Try.checked os 18 .any (Rows.waveTellsSpec.pre6 enc Try.prog Try.f18 Rows.waveTellsRow.domain false) (Rows.waveTellsSpec.post enc Try.prog Try.f18 false true false false) := by
  refine returnsInHanded_of_change (C := Try.checked) own started (by kernel_rfl) Try.func18
    (ChangeSpec.witness6 (enc := enc) (C := Try.checked) false ⟨#[], #[.int .i64 0, .int .i64 0, .int .i64 0], []⟩ 8 (by kernel_rfl) (by kernel_rfl) (by kernel_rfl) (by kernel_rfl)) ?_
  intro W base args ds gs before hval0 hW hcnd _
  have hval : ∀ (j : Nat) t v, Try.f18.params[j]? = some t → args[j]? = some v → Value.okWide Try.prog W .any base t v := hval0
  have hW' := hW
  obtain ⟨p, q, hA0, hV, rfl, hfz, hnd⟩ := hW
  have hA : DataW.TrodAll enc Try.prog W 0 (fun _ => true) true Try.f18.params.toList args.toList ds p := hA0
  rw [Try.params18] at hA hval
  obtain ⟨v0, vs0, d0, ds0, p0, q0, hargs, rfl, rfl, h0, r0⟩ := trodAll_cons hA
  obtain ⟨v1, vs1, d1, ds1, p1, q1, rfl, rfl, rfl, h1, r1⟩ := trodAll_cons r0
  obtain ⟨v2, vs2, d2, ds2, p2, q2, rfl, rfl, rfl, h2, r2⟩ := trodAll_cons r1
  obtain ⟨rfl, rfl, rfl⟩ := trodAll_nil r2
  obtain rfl : args = #[v0, v1, v2] := by cases args; simp_all
  obtain ⟨rfl, rfl⟩ := trodVars_none hV
  obtain ⟨a0, rfl, rfl, rfl, w0⟩ := open_int Try.underlying3 (hval 0 3 v0 rfl rfl) h0
  obtain ⟨a1, rfl, rfl, rfl, w1⟩ := open_int Try.underlying23 (hval 1 23 v1 rfl rfl) h1
  obtain ⟨a2, rfl, rfl, rfl, w2⟩ := open_int Try.underlying23 (hval 2 23 v2 rfl rfl) h2
  clear hA0 hval0
  simp only [List.append_nil] at hW'
  refine (walk a0 a1 a2 w0 w1 w2 W).mono fun e W' ⟨he, hg⟩ => ?_
  subst he
  exact ⟨_, rfl, post_of_same (pa := []) (pv := []) hW' (fun _ _ _ => (trodAll_cons_mk (shut_bool Try.underlying4 _) trodAll_mk0)) (fun sp _ => (trodAll_cons_mk (shut_int Try.underlying3 w0) (trodAll_cons_mk (shut_int Try.underlying23 w1) (trodAll_cons_mk (shut_int Try.underlying23 w2) trodAll_mk0)))) (fun _ _ => rfl) rfl
    (hg.frame _) hg.2.1 (ok_one (by kernel_rfl) rfl (okWide_bool_mk Try.underlying4 _))⟩

theorem closed : joinedFacts Try.prog 18 Try.f18 Rows.waveTellsSpec Rows.waveTellsRow = true := by
  unfold joinedFacts
  rw [fact_laid, fact_maps, fact_keys, fact_heard, fact_stops, fact_knobs, fact_enter, fact_lifts, fact_make]
  kernel_rfl

theorem over : Rows.waveTellsRow.holds Try.pinned (OpenSpec.ofChange Rows.waveTellsSpec) :=
  OpenClaim.holds_of_wide 18 Try.f18 rfl rfl rfl rfl rfl rfl rfl ⟨rfl, rfl, rfl, rfl, rfl⟩ rfl rfl rfl rfl rfl (by kernel_rfl) Try.func18 closed
    (of_decide_eq_true (by kernel_rfl)) (by unfold Func.isWrapper; first | (rw [if_pos (by decide +kernel)]; kernel_rfl) | (rw [if_neg (by decide +kernel)]; exact ⟨rfl, rfl⟩))
    (fun os started H enc _ => lifted os started H enc)

/-- ████ THE STATEMENT ████ -/
theorem proved : Rows.WaveTellsSaid :=
  over
#print axioms proved
end Go.Proofs.Ytdkaaifbmjnknaa.waveTells
