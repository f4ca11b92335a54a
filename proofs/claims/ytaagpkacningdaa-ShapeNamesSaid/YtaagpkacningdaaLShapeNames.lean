/- For every number and every body ShapeNames returns true: each shape has a name of its own, there are two, and a body of another shape may not be. -/
import Derived.Test.YtaagpkacningdaaRows
import Derived.WalkKit
import Derived.ProofKit
import Derived.OpenShut
import Derived.Test.YtaagpkacningdaaFacts
import Derived.Test.YtaagpkacningdaaArgs
import Derived.Test.YtaagpkacningdaaShapeAlive
namespace Go.Proofs.Ytaagpkacningdaa.shapeNames
open Go.ChangeShapes Go.WideShapes Go.ChangeAt Go.RowKit M
set_option maxRecDepth 100000
set_option maxHeartbeats 8000000
set_option linter.unusedVariables false
set_option linter.unusedSimpArgs false
attribute [local go_sem ↓] Go.wp_at_zero Go.wp_at_succ
theorem own : ownKnob Try.prog.godebug = none := by kernel_rfl

/-- The walk: the Go text returns true; of what was there nothing turns. -/
theorem walk (n : Int) (hn : I64 n) (b : Bd) (hb : b.ok) (w : World) :
    Calls Try.prog 11 #[.int .i64 n, .agg #[.int .i64 b.shape, .int .i64 b.sx, .int .i64 b.sy, .int .i64 b.mass, .int .i64 b.px, .int .i64 b.py, .int .i64 b.mx, .int .i64 b.my]] w fun e w' => e = .returned (.bool true) ∧ Bw w w' := by
  have c0 := Lib.hid alive7_c
  have c1 := name_x n
  have c2 := name_x 1
  have c3 := name_x 2
  have c4 := right_x { b with shape := n }
  rw [show nameS 1 = ⟨#[98, 97, 108, 108]⟩ from rfl] at c2
  rw [show nameS 2 = ⟨#[99, 114, 97, 116, 101]⟩ from rfl] at c3
  dsimp only at c4
  have h : n = 1 ∨ n = 2 ∨ ((n == 1) = false ∧ (n == 2) = false ∧ nameS n = ⟨#[]⟩ ∧ rightB { b with shape := n } = false) := by
    by_cases h1 : n = 1
    · exact .inl h1
    · by_cases h2 : n = 2
      · exact .inr (.inl h2)
      · exact .inr (.inr ⟨beq_eq_false_iff_ne.2 h1, beq_eq_false_iff_ne.2 h2, by unfold nameS; rw [if_neg h1, if_neg h2], by unfold rightB; simp [h1, h2]⟩)
  have C2 := Lib.hid c2; have C3 := Lib.hid c3
  clear c2 c3
  rcases h with rfl | rfl | ⟨h1, h2, h3, h4⟩
  · rw [show nameS 1 = ⟨#[98, 97, 108, 108]⟩ from rfl] at c1
    have C1 := Lib.hid c1
    clear c1 c4
    go_enter Try.func11, Try.ntmps11
    go_wp2_with fail
    (with_reducible refine (c0.out _).mono ?_); rintro en w1 ⟨rfl, hb⟩
    have G1 : Below w.heap.size w w1 := Below.trans (by (repeat (with_reducible refine M.Below.drewN ?_ _)); go_grown) (hb.mono (by go_size))
    have V1_b : M.Var w1 (w.heap.size) #[.int .i64 b.shape, .int .i64 b.sx, .int .i64 b.sy, .int .i64 b.mass, .int .i64 b.px, .int .i64 b.py, .int .i64 b.mx, .int .i64 b.my] := M.Var.mono (by (repeat (first | (with_reducible assumption) | exact M.var_alloc' _ _ _ (by first | rfl | simp [go_sem]) | (with_reducible refine M.Var.alloc ?_ _) | (with_reducible refine M.Var.drewN ?_ _) | (with_reducible refine M.Var.drew ?_) | (with_reducible refine M.Var.far ?_ _ _ (by first | omega | (simp [go_sem] <;> omega)))))) hb
    have q1_b_0 := V1_b.c 0 _ rfl
    have q1_b_1 := V1_b.c 1 _ rfl
    have q1_b_2 := V1_b.c 2 _ rfl
    have q1_b_3 := V1_b.c 3 _ rfl
    have q1_b_4 := V1_b.c 4 _ rfl
    have q1_b_5 := V1_b.c 5 _ rfl
    have q1_b_6 := V1_b.c 6 _ rfl
    have q1_b_7 := V1_b.c 7 _ rfl
    have f1_b := V1_b.2.2; have L1_b := V1_b.lt; have N1_b := Nat.ne_of_gt L1_b; have M1_b := Nat.ne_of_lt L1_b
    have HV1_b := Lib.hid V1_b
    have S1 := G1.size; clear hb
    go_wp2_with fail
    (with_reducible refine (C1.out _).mono ?_); rintro en w' ⟨rfl, d2, rfl⟩
    go_wp2_with fail
    (with_reducible refine (C2.out _).mono ?_); rintro en w' ⟨rfl, d3, rfl⟩
    go_wp2_with fail
    (with_reducible refine (C3.out _).mono ?_); rintro en w' ⟨rfl, d4, rfl⟩
    go_wp2_with fail
    go_ret
    exact ⟨rfl, by (repeat (with_reducible refine M.Below.drewN ?_ _)); go_grown⟩
  · rw [show nameS 2 = ⟨#[99, 114, 97, 116, 101]⟩ from rfl] at c1
    have C1 := Lib.hid c1
    clear c1 c4
    go_enter Try.func11, Try.ntmps11
    go_wp2_with fail
    (with_reducible refine (c0.out _).mono ?_); rintro en w1 ⟨rfl, hb⟩
    have G1 : Below w.heap.size w w1 := Below.trans (by (repeat (with_reducible refine M.Below.drewN ?_ _)); go_grown) (hb.mono (by go_size))
    have V1_b : M.Var w1 (w.heap.size) #[.int .i64 b.shape, .int .i64 b.sx, .int .i64 b.sy, .int .i64 b.mass, .int .i64 b.px, .int .i64 b.py, .int .i64 b.mx, .int .i64 b.my] := M.Var.mono (by (repeat (first | (with_reducible assumption) | exact M.var_alloc' _ _ _ (by first | rfl | simp [go_sem]) | (with_reducible refine M.Var.alloc ?_ _) | (with_reducible refine M.Var.drewN ?_ _) | (with_reducible refine M.Var.drew ?_) | (with_reducible refine M.Var.far ?_ _ _ (by first | omega | (simp [go_sem] <;> omega)))))) hb
    have q1_b_0 := V1_b.c 0 _ rfl
    have q1_b_1 := V1_b.c 1 _ rfl
    have q1_b_2 := V1_b.c 2 _ rfl
    have q1_b_3 := V1_b.c 3 _ rfl
    have q1_b_4 := V1_b.c 4 _ rfl
    have q1_b_5 := V1_b.c 5 _ rfl
    have q1_b_6 := V1_b.c 6 _ rfl
    have q1_b_7 := V1_b.c 7 _ rfl
    have f1_b := V1_b.2.2; have L1_b := V1_b.lt; have N1_b := Nat.ne_of_gt L1_b; have M1_b := Nat.ne_of_lt L1_b
    have HV1_b := Lib.hid V1_b
    have S1 := G1.size; clear hb
    go_wp2_with fail
    (with_reducible refine (C1.out _).mono ?_); rintro en w' ⟨rfl, d2, rfl⟩
    go_wp2_with fail
    (with_reducible refine (C2.out _).mono ?_); rintro en w' ⟨rfl, d3, rfl⟩
    go_wp2_with fail
    (with_reducible refine (C3.out _).mono ?_); rintro en w' ⟨rfl, d4, rfl⟩
    go_wp2_with fail
    go_ret
    exact ⟨rfl, by (repeat (with_reducible refine M.Below.drewN ?_ _)); go_grown⟩
  · rw [h3] at c1
    rw [h4] at c4
    have C1 := Lib.hid c1; have C4 := Lib.hid c4
    clear c1 c4 h3 h4
    go_enter Try.func11, Try.ntmps11
    go_wp2_with fail
    (with_reducible refine (c0.out _).mono ?_); rintro en w1 ⟨rfl, hb⟩
    have G1 : Below w.heap.size w w1 := Below.trans (by (repeat (with_reducible refine M.Below.drewN ?_ _)); go_grown) (hb.mono (by go_size))
    have V1_b : M.Var w1 (w.heap.size) #[.int .i64 b.shape, .int .i64 b.sx, .int .i64 b.sy, .int .i64 b.mass, .int .i64 b.px, .int .i64 b.py, .int .i64 b.mx, .int .i64 b.my] := M.Var.mono (by (repeat (first | (with_reducible assumption) | exact M.var_alloc' _ _ _ (by first | rfl | simp [go_sem]) | (with_reducible refine M.Var.alloc ?_ _) | (with_reducible refine M.Var.drewN ?_ _) | (with_reducible refine M.Var.drew ?_) | (with_reducible refine M.Var.far ?_ _ _ (by first | omega | (simp [go_sem] <;> omega)))))) hb
    have q1_b_0 := V1_b.c 0 _ rfl
    have q1_b_1 := V1_b.c 1 _ rfl
    have q1_b_2 := V1_b.c 2 _ rfl
    have q1_b_3 := V1_b.c 3 _ rfl
    have q1_b_4 := V1_b.c 4 _ rfl
    have q1_b_5 := V1_b.c 5 _ rfl
    have q1_b_6 := V1_b.c 6 _ rfl
    have q1_b_7 := V1_b.c 7 _ rfl
    have f1_b := V1_b.2.2; have L1_b := V1_b.lt; have N1_b := Nat.ne_of_gt L1_b; have M1_b := Nat.ne_of_lt L1_b
    have HV1_b := Lib.hid V1_b
    have S1 := G1.size; clear hb
    go_wp2_with fail
    (with_reducible refine (C1.out _).mono ?_); rintro en w' ⟨rfl, d2, rfl⟩
    go_wp2_with fail
    (with_reducible refine (C4.out _).mono ?_); rintro en w3 ⟨rfl, hb⟩
    have G3 : Below w.heap.size w w3 := Below.trans (by (repeat (with_reducible refine M.Below.drewN ?_ _)); go_grown) (hb.mono (by go_size))
    have S3 := G3.size; clear hb
    go_wp2_with fail
    (with_reducible refine (C2.out _).mono ?_); rintro en w' ⟨rfl, d4, rfl⟩
    go_wp2_with fail
    (with_reducible refine (C3.out _).mono ?_); rintro en w' ⟨rfl, d5, rfl⟩
    go_wp2_with fail
    go_ret
    exact ⟨rfl, by (repeat (with_reducible refine M.Below.drewN ?_ _)); go_grown⟩

theorem lifted (os : Os) (started : os.Started) (H : Type) (enc : TypeId × Value → H) :
    ReturnsInHanded {} Try.checked os 11 .any (Rows.shapeNamesSpec.pre6 enc Try.prog Try.f11 Rows.shapeNamesRow.domain false) (Rows.shapeNamesSpec.post enc Try.prog Try.f11 false true false false) := by
  refine returnsInHanded_of_change (C := Try.checked) own started (by kernel_rfl) Try.func11
    (ChangeSpec.witness6 (enc := enc) (C := Try.checked) false ⟨#[], #[.int .i64 0, .agg #[.int .i64 0, .int .i64 0, .int .i64 0, .int .i64 0, .int .i64 0, .int .i64 0, .int .i64 0, .int .i64 0]], []⟩ 8 (by kernel_rfl) (by kernel_rfl) (by kernel_rfl) (by kernel_rfl)) ?_
  intro W base args ds gs before hval0 hW hcnd _
  have hval : ∀ (j : Nat) t v, Try.f11.params[j]? = some t → args[j]? = some v → Value.okWide Try.prog W .any base t v := hval0
  have hW' := hW
  obtain ⟨p, q, hA0, hV, rfl, hfz, hnd⟩ := hW
  have hA : DataW.TrodAll enc Try.prog W 0 (fun _ => true) true Try.f11.params.toList args.toList ds p := hA0
  rw [Try.params11] at hA hval
  obtain ⟨v0, vs0, d0, ds0, p0, q0, hargs, rfl, rfl, h0, r0⟩ := trodAll_cons hA
  obtain ⟨v1, vs1, d1, ds1, p1, q1, rfl, rfl, rfl, h1, r1⟩ := trodAll_cons r0
  obtain ⟨rfl, rfl, rfl⟩ := trodAll_nil r1
  obtain rfl : args = #[v0, v1] := by cases args; simp_all
  obtain ⟨rfl, rfl⟩ := trodVars_none hV
  obtain ⟨n, rfl, rfl, rfl, wn⟩ := open_int Try.underlying3 (hval 0 3 v0 rfl rfl) h0
  obtain ⟨b, rfl, rfl, rfl, wb⟩ := open_body (hval 1 33 v1 rfl rfl) h1
  clear hA0 hval0
  simp only [List.append_nil] at hW'
  refine (walk n (i64_wf wn) b wb.ok W).mono fun e W' ⟨he, hg⟩ => ?_
  subst he
  exact ⟨_, rfl, post_below (pa := []) (pv := []) hW' (fun _ _ _ => (trodAll_cons_mk (shut_bool Try.underlying4 _) trodAll_mk0)) (fun sp _ => (trodAll_cons_mk (shut_int Try.underlying3 wn) (trodAll_cons_mk (shut_body wb) trodAll_mk0))) (fun _ _ => rfl) rfl
    hg (ok_one (by kernel_rfl) rfl (okWide_bool_mk Try.underlying4 _))⟩

theorem closed : joinedFacts Try.prog 11 Try.f11 Rows.shapeNamesSpec Rows.shapeNamesRow = true := by
  unfold joinedFacts
  rw [fact_laid, fact_maps, fact_keys, fact_heard, fact_stops, fact_knobs, fact_enter, fact_lifts, fact_make]
  kernel_rfl

theorem over : Rows.shapeNamesRow.holds Try.pinned (OpenSpec.ofChange Rows.shapeNamesSpec) :=
  OpenClaim.holds_of_wide 11 Try.f11 rfl rfl rfl rfl rfl rfl rfl ⟨rfl, rfl, rfl, rfl, rfl⟩ rfl rfl rfl rfl rfl (by kernel_rfl) Try.func11 closed
    (of_decide_eq_true (by kernel_rfl)) (by unfold Func.isWrapper; first | (rw [if_pos (by decide +kernel)]; kernel_rfl) | (rw [if_neg (by decide +kernel)]; exact ⟨rfl, rfl⟩))
    (fun os started H enc _ => lifted os started H enc)

/-- The statement. -/
theorem proved : Rows.ShapeNamesSaid :=
  over
#print axioms proved
end Go.Proofs.Ytaagpkacningdaa.shapeNames
