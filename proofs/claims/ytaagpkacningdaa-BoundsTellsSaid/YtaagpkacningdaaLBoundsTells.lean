/- For every body, every two boxes and every place BoundsTells returns true: boxes, meetings, places in boxes and nearest places are the reference's. -/
import Derived.Test.YtaagpkacningdaaRows
import Derived.WalkKit
import Derived.ProofKit
import Derived.OpenShut
import Derived.Test.YtaagpkacningdaaFacts
import Derived.Test.YtaagpkacningdaaArgs
import Derived.Test.YtaagpkacningdaaRefRight
import Derived.Test.YtaagpkacningdaaRefBounds
import Derived.Test.YtaagpkacningdaaClo8
import Derived.Test.YtaagpkacningdaaBoundsAlive
import Derived.Deep.DrawnRows
import Derived.Test.YtaagpkacningdaaWBoundsTellsEA
import Derived.Test.YtaagpkacningdaaWBoundsTellsEB
import Derived.Test.YtaagpkacningdaaWBoundsTellsEC
import Derived.Test.YtaagpkacningdaaWBoundsTellsOA
import Derived.Test.YtaagpkacningdaaWBoundsTellsOB
import Derived.Test.YtaagpkacningdaaWBoundsTellsOC
namespace Go.Proofs.Ytaagpkacningdaa.boundsTells
open Go.ChangeShapes Go.WideShapes Go.ChangeAt Go.RowKit M
set_option maxRecDepth 100000
set_option maxHeartbeats 8000000
set_option linter.unusedVariables false
set_option linter.unusedSimpArgs false
attribute [local go_sem ↓] Go.wp_at_zero Go.wp_at_succ
theorem own : ownKnob Try.prog.godebug = none := by kernel_rfl

/-- The walk: the Go text returns true; of what was there nothing turns. -/
theorem walk (b : Bd) (hb : b.ok) (x : Bx) (hx : x.ok) (y : Bx) (hy : y.ok) (v1 v2 : Int) (hv1 : I64 v1) (hv2 : I64 v2) (w : World) :
    Calls Try.prog 6 #[.agg #[.int .i64 b.shape, .int .i64 b.sx, .int .i64 b.sy, .int .i64 b.mass, .int .i64 b.px, .int .i64 b.py, .int .i64 b.mx, .int .i64 b.my], .agg #[.int .i64 x.lx, .int .i64 x.ly, .int .i64 x.hx, .int .i64 x.hy], .agg #[.int .i64 y.lx, .int .i64 y.ly, .int .i64 y.hx, .int .i64 y.hy], .agg #[.int .i64 v1, .int .i64 v2]] w fun e w' => e = .returned (.bool true) ∧ Bw w w' := by
  have hin : (inBx (v1, v2) x = false ∧ ¬ x.lx ≤ v1) ∨ (inBx (v1, v2) x = false ∧ x.lx ≤ v1 ∧ ¬ v1 ≤ x.hx) ∨ (inBx (v1, v2) x = false ∧ x.lx ≤ v1 ∧ v1 ≤ x.hx ∧ ¬ x.ly ≤ v2) ∨ (inBx (v1, v2) x = false ∧ x.lx ≤ v1 ∧ v1 ≤ x.hx ∧ x.ly ≤ v2 ∧ ¬ v2 ≤ x.hy) ∨ (inBx (v1, v2) x = true ∧ x.lx ≤ v1 ∧ v1 ≤ x.hx ∧ x.ly ≤ v2 ∧ v2 ≤ x.hy) := by
    unfold inBx
    by_cases a : x.lx ≤ v1 <;> by_cases b : v1 ≤ x.hx <;> by_cases c : x.ly ≤ v2 <;> by_cases d : v2 ≤ x.hy <;> simp [a, b, c, d]
  rcases hP : boxX b with j | q
  · rcases hin with h | h | h | h | h
    · exact walkEA b hb x hx y hy v1 v2 hv1 hv2 w j hP (.inl h)
    · exact walkEA b hb x hx y hy v1 v2 hv1 hv2 w j hP (.inr h)
    · exact walkEB b hb x hx y hy v1 v2 hv1 hv2 w j hP (.inl h)
    · exact walkEB b hb x hx y hy v1 v2 hv1 hv2 w j hP (.inr h)
    · exact walkEC b hb x hx y hy v1 v2 hv1 hv2 w j hP h
  · rcases hin with h | h | h | h | h
    · exact walkOA b hb x hx y hy v1 v2 hv1 hv2 w q hP (.inl h)
    · exact walkOA b hb x hx y hy v1 v2 hv1 hv2 w q hP (.inr h)
    · exact walkOB b hb x hx y hy v1 v2 hv1 hv2 w q hP (.inl h)
    · exact walkOB b hb x hx y hy v1 v2 hv1 hv2 w q hP (.inr h)
    · exact walkOC b hb x hx y hy v1 v2 hv1 hv2 w q hP h

theorem lifted (os : Os) (started : os.Started) (H : Type) (enc : TypeId × Value → H) :
    ReturnsInHanded {} Try.checked os 6 .any (Rows.boundsTellsSpec.pre6 enc Try.prog Try.f6 Rows.boundsTellsRow.domain false) (Rows.boundsTellsSpec.post enc Try.prog Try.f6 false true false false) := by
  refine returnsInHanded_of_change (C := Try.checked) own started (by kernel_rfl) Try.func6
    (ChangeSpec.witness6 (enc := enc) (C := Try.checked) false ⟨#[], #[.agg #[.int .i64 0, .int .i64 0, .int .i64 0, .int .i64 0, .int .i64 0, .int .i64 0, .int .i64 0, .int .i64 0], .agg #[.int .i64 0, .int .i64 0, .int .i64 0, .int .i64 0], .agg #[.int .i64 0, .int .i64 0, .int .i64 0, .int .i64 0], .agg #[.int .i64 0, .int .i64 0]], []⟩ 8 (by kernel_rfl) (by kernel_rfl) (by kernel_rfl) (by kernel_rfl)) ?_
  intro W base args ds gs before hval0 hW hcnd _
  have hval : ∀ (j : Nat) t v, Try.f6.params[j]? = some t → args[j]? = some v → Value.okWide Try.prog W .any base t v := hval0
  have hW' := hW
  obtain ⟨p, q, hA0, hV, rfl, hfz, hnd⟩ := hW
  have hA : DataW.TrodAll enc Try.prog W 0 (fun _ => true) true Try.f6.params.toList args.toList ds p := hA0
  rw [Try.params6] at hA hval
  obtain ⟨v0, vs0, d0, ds0, p0, q0, hargs, rfl, rfl, h0, r0⟩ := trodAll_cons hA
  obtain ⟨v1, vs1, d1, ds1, p1, q1, rfl, rfl, rfl, h1, r1⟩ := trodAll_cons r0
  obtain ⟨v2, vs2, d2, ds2, p2, q2, rfl, rfl, rfl, h2, r2⟩ := trodAll_cons r1
  obtain ⟨v3, vs3, d3, ds3, p3, q3, rfl, rfl, rfl, h3, r3⟩ := trodAll_cons r2
  obtain ⟨rfl, rfl, rfl⟩ := trodAll_nil r3
  obtain rfl : args = #[v0, v1, v2, v3] := by cases args; simp_all
  obtain ⟨rfl, rfl⟩ := trodVars_none hV
  obtain ⟨b, rfl, rfl, rfl, wb⟩ := open_body (hval 0 33 v0 rfl rfl) h0
  obtain ⟨x, rfl, rfl, rfl, wx0, wx1, wx2, wx3⟩ := open_box (hval 1 26 v1 rfl rfl) h1
  obtain ⟨y, rfl, rfl, rfl, wy0, wy1, wy2, wy3⟩ := open_box (hval 2 26 v2 rfl rfl) h2
  obtain ⟨v1, v2, rfl, rfl, rfl, wv1, wv2⟩ := open_vec (hval 3 24 v3 rfl rfl) h3
  clear hA0 hval0
  simp only [List.append_nil] at hW'
  refine (walk b wb.ok x ⟨i64_wf wx0, i64_wf wx1, i64_wf wx2, i64_wf wx3⟩ y ⟨i64_wf wy0, i64_wf wy1, i64_wf wy2, i64_wf wy3⟩ v1 v2 (i64_wf wv1) (i64_wf wv2) W).mono fun e W' ⟨he, hg⟩ => ?_
  subst he
  exact ⟨_, rfl, post_below (pa := []) (pv := []) hW' (fun _ _ _ => (trodAll_cons_mk (shut_bool Try.underlying4 _) trodAll_mk0)) (fun sp _ => (trodAll_cons_mk (shut_body wb) (trodAll_cons_mk (shut_box wx0 wx1 wx2 wx3) (trodAll_cons_mk (shut_box wy0 wy1 wy2 wy3) (trodAll_cons_mk (shut_vec wv1 wv2) trodAll_mk0))))) (fun _ _ => rfl) rfl
    hg (ok_one (by kernel_rfl) rfl (okWide_bool_mk Try.underlying4 _))⟩

theorem closed : joinedFacts Try.prog 6 Try.f6 Rows.boundsTellsSpec Rows.boundsTellsRow = true := by
  unfold joinedFacts
  rw [fact_laid, fact_maps, fact_keys, fact_heard, fact_stops, fact_knobs, fact_enter, fact_lifts, fact_make]
  kernel_rfl

theorem over : Rows.boundsTellsRow.holds Try.pinned (OpenSpec.ofChange Rows.boundsTellsSpec) :=
  OpenClaim.holds_of_wide 6 Try.f6 rfl rfl rfl rfl rfl rfl rfl ⟨rfl, rfl, rfl, rfl, rfl⟩ rfl rfl rfl rfl rfl (by kernel_rfl) Try.func6 closed
    (of_decide_eq_true (by kernel_rfl)) (by unfold Func.isWrapper; first | (rw [if_pos (by decide +kernel)]; kernel_rfl) | (rw [if_neg (by decide +kernel)]; exact ⟨rfl, rfl⟩))
    (fun os started H enc _ => lifted os started H enc)

/-- The statement. -/
theorem proved : Rows.BoundsTellsSaid :=
  over
#print axioms proved
end Go.Proofs.Ytaagpkacningdaa.boundsTells
