/- For every body that may be and every place ShapeMoves returns true: it may be anywhere within its bounds. -/
import Derived.Test.YtaagpkacningdaaRows
import Derived.WalkKit
import Derived.ProofKit
import Derived.OpenShut
import Derived.Test.YtaagpkacningdaaFacts
import Derived.Test.YtaagpkacningdaaArgs
import Derived.Test.YtaagpkacningdaaShapeAlive
namespace Go.Proofs.Ytaagpkacningdaa.shapeMoves
open Go.ChangeShapes Go.WideShapes Go.ChangeAt Go.RowKit M
set_option maxRecDepth 100000
set_option maxHeartbeats 8000000
set_option linter.unusedVariables false
set_option linter.unusedSimpArgs false
attribute [local go_sem ↓] Go.wp_at_zero Go.wp_at_succ
theorem own : ownKnob Try.prog.godebug = none := by kernel_rfl
theorem right_moved {b : Bd} (h : rightB b = true) (x y : Int) :
    rightB { b with px := x * 4294967296, py := y * 4294967296 } = decide (-10000 ≤ x ∧ x ≤ 10000 ∧ -10000 ≤ y ∧ y ≤ 10000) := by
  rw [Bool.eq_iff_iff]
  unfold rightB inB at *
  simp only [Bool.and_eq_true, Bool.or_eq_true, beq_iff_eq, bne_iff_ne, decide_eq_true_eq] at *
  omega
/-- The walk: the Go text returns true; of what was there nothing turns. -/
theorem walk (b : Bd) (hb : b.ok) (x : Int) (hx : I64 x) (y : Int) (hy : I64 y) (w : World) :
    Calls Try.prog 12 #[.agg #[.int .i64 b.shape, .int .i64 b.sx, .int .i64 b.sy, .int .i64 b.mass, .int .i64 b.px, .int .i64 b.py, .int .i64 b.mx, .int .i64 b.my], .int .i64 x, .int .i64 y] w fun e w' => e = .returned (.bool true) ∧ Bw w w' := by
  have c0 := Lib.hid alive7_c
  have c1 := right_x b
  have c2 := right_x { b with px := x * 4294967296, py := y * 4294967296 }
  dsimp only at c2
  have hr := right_moved (b := b)
  generalize rightB b = R at *
  cases R
  · have C1 := Lib.hid c1
    clear c1 c2 hr
    go_enter Try.func12, Try.ntmps12
    go_wp2_with fail
    (with_reducible refine (C1.out _).mono ?_); rintro en w1 ⟨rfl, hb⟩
    have G1 : Below w.heap.size w w1 := Below.trans (by (repeat (with_reducible refine M.Below.drewN ?_ _)); go_grown) (hb.mono (by go_size))
    have V1_b : M.Var w1 (w.heap.size) #[.int .i64 b.shape, .int .i64 b.sx, .int .i64 b.sy, .int .i64 b.mass, .int .i64 b.px, .int .i64 b.py, .int .i64 b.mx, .int .i64 b.my] := M.Var.mono (by (repeat (first | (with_reducible assumption) | exact M.var_alloc' _ _ _ (by first | rfl | simp [go_sem]) | (with_reducible refine M.Var.alloc ?_ _) | (with_reducible refine M.Var.drewN ?_ _) | (with_reducible refine M.Var.drew ?_) | (with_reducible refine M.Var.far ?_ _ _ (by first | omega | (simp [go_sem] <;> omega)))))) hb
    have q1_b_0 := V1_b.c 0 _ rfl
    have q1_b_1 := V1_b.c 1 _ rfl
    have q1_b_2 := V1_b.c 2 _ rfl
    have q1_b_3 := V1_b.c 3 _ rfl
    have q1_b_4 := V1_b.c 4 _ rfl
    have q1_b_5 := V1_b.c 5 _ rfl
    have q1_b_6 := V1_b.c 6 _ rfl
    have q1_b_7 := V1_b.c 7 _ rfl
    have f1_b := V1_b.2.2; have L1_b := V1_b.lt; have N1_b := Nat.ne_of_gt L1_b; have M1_b := Nat.ne_of_lt L1_b
    have HV1_b := Lib.hid V1_b
    have S1 := G1.size; clear hb
    go_wp2_with fail
    (with_reducible refine (c0.out _).mono ?_); rintro en w2 ⟨rfl, hb⟩
    have G2 : Below w.heap.size w w2 := Below.trans (by (repeat (with_reducible refine M.Below.drewN ?_ _)); go_grown) (hb.mono (by go_size))
    have V2_b : M.Var w2 (w.heap.size) #[.int .i64 b.shape, .int .i64 b.sx, .int .i64 b.sy, .int .i64 b.mass, .int .i64 b.px, .int .i64 b.py, .int .i64 b.mx, .int .i64 b.my] := M.Var.mono (by (repeat (first | (with_reducible assumption) | exact M.var_alloc' _ _ _ (by first | rfl | simp [go_sem]) | (with_reducible refine M.Var.alloc ?_ _) | (with_reducible refine M.Var.drewN ?_ _) | (with_reducible refine M.Var.drew ?_) | (with_reducible refine M.Var.far ?_ _ _ (by first | omega | (simp [go_sem] <;> omega)))))) hb
    have q2_b_0 := V2_b.c 0 _ rfl
    have q2_b_1 := V2_b.c 1 _ rfl
    have q2_b_2 := V2_b.c 2 _ rfl
    have q2_b_3 := V2_b.c 3 _ rfl
    have q2_b_4 := V2_b.c 4 _ rfl
    have q2_b_5 := V2_b.c 5 _ rfl
    have q2_b_6 := V2_b.c 6 _ rfl
    have q2_b_7 := V2_b.c 7 _ rfl
    have f2_b := V2_b.2.2; have L2_b := V2_b.lt; have N2_b := Nat.ne_of_gt L2_b; have M2_b := Nat.ne_of_lt L2_b
    have HV2_b := Lib.hid V2_b
    have S2 := G2.size; clear hb
    go_wp2_with fail
    go_ret
    exact ⟨rfl, by (repeat (with_reducible refine M.Below.drewN ?_ _)); go_grown⟩
  · rw [hr rfl] at c2
    generalize hq : decide (-10000 ≤ x ∧ x ≤ 10000 ∧ -10000 ≤ y ∧ y ≤ 10000) = q at c2
    have C1 := Lib.hid c1; have C2 := Lib.hid c2; have HQ := Lib.hid hq
    clear c1 c2 hr hq
    go_enter Try.func12, Try.ntmps12
    go_wp2_with fail
    (with_reducible refine (C1.out _).mono ?_); rintro en w1 ⟨rfl, hb⟩
    have G1 : Below w.heap.size w w1 := Below.trans (by (repeat (with_reducible refine M.Below.drewN ?_ _)); go_grown) (hb.mono (by go_size))
    have V1_b : M.Var w1 (w.heap.size) #[.int .i64 b.shape, .int .i64 b.sx, .int .i64 b.sy, .int .i64 b.mass, .int .i64 b.px, .int .i64 b.py, .int .i64 b.mx, .int .i64 b.my] := M.Var.mono (by (repeat (first | (with_reducible assumption) | exact M.var_alloc' _ _ _ (by first | rfl | simp [go_sem]) | (with_reducible refine M.Var.alloc ?_ _) | (with_reducible refine M.Var.drewN ?_ _) | (with_reducible refine M.Var.drew ?_) | (with_reducible refine M.Var.far ?_ _ _ (by first | omega | (simp [go_sem] <;> omega)))))) hb
    have q1_b_0 := V1_b.c 0 _ rfl
    have q1_b_1 := V1_b.c 1 _ rfl
    have q1_b_2 := V1_b.c 2 _ rfl
    have q1_b_3 := V1_b.c 3 _ rfl
    have q1_b_4 := V1_b.c 4 _ rfl
    have q1_b_5 := V1_b.c 5 _ rfl
    have q1_b_6 := V1_b.c 6 _ rfl
    have q1_b_7 := V1_b.c 7 _ rfl
    have f1_b := V1_b.2.2; have L1_b := V1_b.lt; have N1_b := Nat.ne_of_gt L1_b; have M1_b := Nat.ne_of_lt L1_b
    have HV1_b := Lib.hid V1_b
    have S1 := G1.size; clear hb
    go_wp2_with fail
    (with_reducible refine (c0.out _).mono ?_); rintro en w2 ⟨rfl, hb⟩
    have G2 : Below w.heap.size w w2 := Below.trans (by (repeat (with_reducible refine M.Below.drewN ?_ _)); go_grown) (hb.mono (by go_size))
    have V2_b : M.Var w2 (w.heap.size) #[.int .i64 b.shape, .int .i64 b.sx, .int .i64 b.sy, .int .i64 b.mass, .int .i64 b.px, .int .i64 b.py, .int .i64 b.mx, .int .i64 b.my] := M.Var.mono (by (repeat (first | (with_reducible assumption) | exact M.var_alloc' _ _ _ (by first | rfl | simp [go_sem]) | (with_reducible refine M.Var.alloc ?_ _) | (with_reducible refine M.Var.drewN ?_ _) | (with_reducible refine M.Var.drew ?_) | (with_reducible refine M.Var.far ?_ _ _ (by first | omega | (simp [go_sem] <;> omega)))))) hb
    have q2_b_0 := V2_b.c 0 _ rfl
    have q2_b_1 := V2_b.c 1 _ rfl
    have q2_b_2 := V2_b.c 2 _ rfl
    have q2_b_3 := V2_b.c 3 _ rfl
    have q2_b_4 := V2_b.c 4 _ rfl
    have q2_b_5 := V2_b.c 5 _ rfl
    have q2_b_6 := V2_b.c 6 _ rfl
    have q2_b_7 := V2_b.c 7 _ rfl
    have f2_b := V2_b.2.2; have L2_b := V2_b.lt; have N2_b := Nat.ne_of_gt L2_b; have M2_b := Nat.ne_of_lt L2_b
    have HV2_b := Lib.hid V2_b
    have S2 := G2.size; clear hb
    go_wp2_with fail
    all_goals try (go_ret; exact ⟨rfl, by (repeat (with_reducible refine M.Below.drewN ?_ _)); go_grown⟩)
    all_goals
      (with_reducible refine (C2.out _).mono ?_); rintro en w3 ⟨rfl, hb⟩
      have G3 : Below w.heap.size w w3 := Below.trans (by (repeat (with_reducible refine M.Below.drewN ?_ _)); go_grown) (hb.mono (by go_size))
      have S3 := G3.size; clear hb
      go_wp2_with fail
      go_ret
      exact ⟨rb (by have h := HQ.out; rw [← h]; first | (simp; omega) | (by_cases hy : y ≤ 10000 <;> simp [hy] <;> omega) | (trace_state; simp; trace_state; omega)), by (repeat (with_reducible refine M.Below.drewN ?_ _)); go_grown⟩

theorem lifted (os : Os) (started : os.Started) (H : Type) (enc : TypeId × Value → H) :
    ReturnsInHanded {} Try.checked os 12 .any (Rows.shapeMovesSpec.pre6 enc Try.prog Try.f12 Rows.shapeMovesRow.domain false) (Rows.shapeMovesSpec.post enc Try.prog Try.f12 false true false false) := by
  refine returnsInHanded_of_change (C := Try.checked) own started (by kernel_rfl) Try.func12
    (ChangeSpec.witness6 (enc := enc) (C := Try.checked) false ⟨#[], #[.agg #[.int .i64 0, .int .i64 0, .int .i64 0, .int .i64 0, .int .i64 0, .int .i64 0, .int .i64 0, .int .i64 0], .int .i64 0, .int .i64 0], []⟩ 8 (by kernel_rfl) (by kernel_rfl) (by kernel_rfl) (by kernel_rfl)) ?_
  intro W base args ds gs before hval0 hW hcnd _
  have hval : ∀ (j : Nat) t v, Try.f12.params[j]? = some t → args[j]? = some v → Value.okWide Try.prog W .any base t v := hval0
  have hW' := hW
  obtain ⟨p, q, hA0, hV, rfl, hfz, hnd⟩ := hW
  have hA : DataW.TrodAll enc Try.prog W 0 (fun _ => true) true Try.f12.params.toList args.toList ds p := hA0
  rw [Try.params12] at hA hval
  obtain ⟨v0, vs0, d0, ds0, p0, q0, hargs, rfl, rfl, h0, r0⟩ := trodAll_cons hA
  obtain ⟨v1, vs1, d1, ds1, p1, q1, rfl, rfl, rfl, h1, r1⟩ := trodAll_cons r0
  obtain ⟨v2, vs2, d2, ds2, p2, q2, rfl, rfl, rfl, h2, r2⟩ := trodAll_cons r1
  obtain ⟨rfl, rfl, rfl⟩ := trodAll_nil r2
  obtain rfl : args = #[v0, v1, v2] := by cases args; simp_all
  obtain ⟨rfl, rfl⟩ := trodVars_none hV
  obtain ⟨b, rfl, rfl, rfl, wb⟩ := open_body (hval 0 33 v0 rfl rfl) h0
  obtain ⟨x, rfl, rfl, rfl, wx⟩ := open_int Try.underlying3 (hval 1 3 v1 rfl rfl) h1
  obtain ⟨y, rfl, rfl, rfl, wy⟩ := open_int Try.underlying3 (hval 2 3 v2 rfl rfl) h2
  clear hA0 hval0
  simp only [List.append_nil] at hW'
  refine (walk b wb.ok x (i64_wf wx) y (i64_wf wy) W).mono fun e W' ⟨he, hg⟩ => ?_
  subst he
  exact ⟨_, rfl, post_below (pa := []) (pv := []) hW' (fun _ _ _ => (trodAll_cons_mk (shut_bool Try.underlying4 _) trodAll_mk0)) (fun sp _ => (trodAll_cons_mk (shut_body wb) (trodAll_cons_mk (shut_int Try.underlying3 wx) (trodAll_cons_mk (shut_int Try.underlying3 wy) trodAll_mk0)))) (fun _ _ => rfl) rfl
    hg (ok_one (by kernel_rfl) rfl (okWide_bool_mk Try.underlying4 _))⟩

theorem closed : joinedFacts Try.prog 12 Try.f12 Rows.shapeMovesSpec Rows.shapeMovesRow = true := by
  unfold joinedFacts
  rw [fact_laid, fact_maps, fact_keys, fact_heard, fact_stops, fact_knobs, fact_enter, fact_lifts, fact_make]
  kernel_rfl

theorem over : Rows.shapeMovesRow.holds Try.pinned (OpenSpec.ofChange Rows.shapeMovesSpec) :=
  OpenClaim.holds_of_wide 12 Try.f12 rfl rfl rfl rfl rfl rfl rfl ⟨rfl, rfl, rfl, rfl, rfl⟩ rfl rfl rfl rfl rfl (by kernel_rfl) Try.func12 closed
    (of_decide_eq_true (by kernel_rfl)) (by unfold Func.isWrapper; first | (rw [if_pos (by decide +kernel)]; kernel_rfl) | (rw [if_neg (by decide +kernel)]; exact ⟨rfl, rfl⟩))
    (fun os started H enc _ => lifted os started H enc)

/-- The statement. -/
theorem proved : Rows.ShapeMovesSaid :=
  over
#print axioms proved
end Go.Proofs.Ytaagpkacningdaa.shapeMoves
