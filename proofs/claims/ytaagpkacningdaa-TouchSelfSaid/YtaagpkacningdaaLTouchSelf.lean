/- For every body TouchSelf returns true: a body that may be touches one at its very place; how deep is what both are together. -/
import Derived.Test.YtaagpkacningdaaRows
import Derived.WalkKit
import Derived.ProofKit
import Derived.OpenShut
import Derived.Test.YtaagpkacningdaaFacts
import Derived.Test.YtaagpkacningdaaArgs
import Derived.Test.YtaagpkacningdaaRefRight
import Derived.Test.YtaagpkacningdaaTouchAlive
import Derived.Deep.DrawnRows
namespace Go.Proofs.Ytaagpkacningdaa.touchSelf
open Go.ChangeShapes Go.WideShapes Go.ChangeAt Go.RowKit M
set_option maxRecDepth 100000
set_option maxHeartbeats 8000000
set_option linter.unusedVariables false
set_option linter.unusedSimpArgs false
attribute [local go_sem ↓] Go.wp_at_zero Go.wp_at_succ
theorem own : ownKnob Try.prog.godebug = none := by kernel_rfl

/-- The walk: the Go text returns true; of what was there nothing turns. -/
theorem walk (b : Bd) (hb : b.ok) (w : World) :
    Calls Try.prog 38 #[.agg #[.int .i64 b.shape, .int .i64 b.sx, .int .i64 b.sy, .int .i64 b.mass, .int .i64 b.px, .int .i64 b.py, .int .i64 b.mx, .int .i64 b.my]] w fun e w' => e = .returned (.bool true) ∧ Bw w w' := by
  have c0 := Lib.hid alive10_c
  have hB := hb
  have c1 := refRight_x b
  have hs := rightB_spec (b := b)
  have hv := fun h : rightB b = true => (hitX_lo (lo_of_right h) (lo_of_right h)).trans (congrArg Except.ok (hit_self (lo_of_right h)))
  generalize rightB b = R at *
  cases R
  · have C1 := Lib.hid c1
    clear c1 hs hv
    go_enter Try.func38, Try.ntmps38
    go_wp2_with fail
    (with_reducible refine (C1.out _).mono ?_); rintro en w1 ⟨rfl, hb⟩
    have G1 : Below w.heap.size w w1 := Below.trans (by (repeat (with_reducible refine M.Below.drewN ?_ _)); go_grown) (hb.mono (by go_size))
    have V1_b : M.Var w1 (w.heap.size) #[.int .i64 b.shape, .int .i64 b.sx, .int .i64 b.sy, .int .i64 b.mass, .int .i64 b.px, .int .i64 b.py, .int .i64 b.mx, .int .i64 b.my] := M.Var.mono (by (repeat (first | (with_reducible assumption) | (with_reducible refine M.var_alloc' _ _ _ ?_; first | rfl | (simp [go_sem]; done)) | (with_reducible refine M.Var.alloc ?_ _) | (with_reducible refine M.Var.drewN ?_ _) | (with_reducible refine M.Var.drew ?_) | (with_reducible refine M.Var.far ?_ _ _ ?hFar; case hFar => (first | omega | ((try simp [go_sem]) <;> omega))) | fail))) hb
    have q1_b_0 := V1_b.c 0 _ rfl
    have q1_b_1 := V1_b.c 1 _ rfl
    have q1_b_2 := V1_b.c 2 _ rfl
    have q1_b_3 := V1_b.c 3 _ rfl
    have q1_b_4 := V1_b.c 4 _ rfl
    have q1_b_5 := V1_b.c 5 _ rfl
    have q1_b_6 := V1_b.c 6 _ rfl
    have q1_b_7 := V1_b.c 7 _ rfl
    have f1_b := V1_b.2.2; have L1_b := V1_b.lt; have N1_b := Nat.ne_of_gt L1_b; have M1_b := Nat.ne_of_lt L1_b
    have HV1_b := Lib.hid V1_b
    have S1 := G1.size; clear hb
    go_wp2_with fail
    (with_reducible refine (c0.out _).mono ?_); rintro en w2 ⟨rfl, hb⟩
    have G2 : Below w.heap.size w w2 := Below.trans (by (repeat (with_reducible refine M.Below.drewN ?_ _)); go_grown) (hb.mono (by go_size))
    have V2_b : M.Var w2 (w.heap.size) #[.int .i64 b.shape, .int .i64 b.sx, .int .i64 b.sy, .int .i64 b.mass, .int .i64 b.px, .int .i64 b.py, .int .i64 b.mx, .int .i64 b.my] := M.Var.mono (by (repeat (first | (with_reducible assumption) | (with_reducible refine M.var_alloc' _ _ _ ?_; first | rfl | (simp [go_sem]; done)) | (with_reducible refine M.Var.alloc ?_ _) | (with_reducible refine M.Var.drewN ?_ _) | (with_reducible refine M.Var.drew ?_) | (with_reducible refine M.Var.far ?_ _ _ ?hFar; case hFar => (first | omega | ((try simp [go_sem]) <;> omega))) | fail))) hb
    have q2_b_0 := V2_b.c 0 _ rfl
    have q2_b_1 := V2_b.c 1 _ rfl
    have q2_b_2 := V2_b.c 2 _ rfl
    have q2_b_3 := V2_b.c 3 _ rfl
    have q2_b_4 := V2_b.c 4 _ rfl
    have q2_b_5 := V2_b.c 5 _ rfl
    have q2_b_6 := V2_b.c 6 _ rfl
    have q2_b_7 := V2_b.c 7 _ rfl
    have f2_b := V2_b.2.2; have L2_b := V2_b.lt; have N2_b := Nat.ne_of_gt L2_b; have M2_b := Nat.ne_of_lt L2_b
    have HV2_b := Lib.hid V2_b
    have S2 := G2.size; clear hb
    go_wp2_with fail
    go_ret
    exact ⟨rfl, by (repeat (with_reducible refine M.Below.drewN ?_ _)); go_grown⟩
  have C1 := Lib.hid c1
  obtain ⟨s1, s2, s3, s4, s5, _⟩ := hs rfl
  have e := hv rfl
  clear c1 hs hv s3 s4 s5
  have hw : (b.shape == 2) = false ∨ ((b.shape == 2) = true ∧ ¬ b.sy < b.sx) ∨ ((b.shape == 2) = true ∧ b.sy < b.sx ∧ 67108864 ≤ b.sy) := by
    simp only [beq_iff_eq, beq_eq_false_iff_ne]; omega
  rcases hw with g1 | ⟨g1, g2⟩ | ⟨g1, g2, g3⟩
  · rw [if_neg (by have := beq_eq_false_iff_ne.1 g1; omega)] at e
    have E := Lib.hid e
    clear e
    go_enter Try.func38, Try.ntmps38
    go_wp2_with fail
    (with_reducible refine (C1.out _).mono ?_); rintro en w1 ⟨rfl, hb⟩
    have G1 : Below w.heap.size w w1 := Below.trans (by (repeat (with_reducible refine M.Below.drewN ?_ _)); go_grown) (hb.mono (by go_size))
    have V1_b : M.Var w1 (w.heap.size) #[.int .i64 b.shape, .int .i64 b.sx, .int .i64 b.sy, .int .i64 b.mass, .int .i64 b.px, .int .i64 b.py, .int .i64 b.mx, .int .i64 b.my] := M.Var.mono (by (repeat (first | (with_reducible assumption) | (with_reducible refine M.var_alloc' _ _ _ ?_; first | rfl | (simp [go_sem]; done)) | (with_reducible refine M.Var.alloc ?_ _) | (with_reducible refine M.Var.drewN ?_ _) | (with_reducible refine M.Var.drew ?_) | (with_reducible refine M.Var.far ?_ _ _ ?hFar; case hFar => (first | omega | ((try simp [go_sem]) <;> omega))) | fail))) hb
    have q1_b_0 := V1_b.c 0 _ rfl
    have q1_b_1 := V1_b.c 1 _ rfl
    have q1_b_2 := V1_b.c 2 _ rfl
    have q1_b_3 := V1_b.c 3 _ rfl
    have q1_b_4 := V1_b.c 4 _ rfl
    have q1_b_5 := V1_b.c 5 _ rfl
    have q1_b_6 := V1_b.c 6 _ rfl
    have q1_b_7 := V1_b.c 7 _ rfl
    have f1_b := V1_b.2.2; have L1_b := V1_b.lt; have N1_b := Nat.ne_of_gt L1_b; have M1_b := Nat.ne_of_lt L1_b
    have HV1_b := Lib.hid V1_b
    have S1 := G1.size; clear hb
    go_wp2_with fail
    (with_reducible refine (c0.out _).mono ?_); rintro en w2 ⟨rfl, hb⟩
    have G2 : Below w.heap.size w w2 := Below.trans (by (repeat (with_reducible refine M.Below.drewN ?_ _)); go_grown) (hb.mono (by go_size))
    have V2_b : M.Var w2 (w.heap.size) #[.int .i64 b.shape, .int .i64 b.sx, .int .i64 b.sy, .int .i64 b.mass, .int .i64 b.px, .int .i64 b.py, .int .i64 b.mx, .int .i64 b.my] := M.Var.mono (by (repeat (first | (with_reducible assumption) | (with_reducible refine M.var_alloc' _ _ _ ?_; first | rfl | (simp [go_sem]; done)) | (with_reducible refine M.Var.alloc ?_ _) | (with_reducible refine M.Var.drewN ?_ _) | (with_reducible refine M.Var.drew ?_) | (with_reducible refine M.Var.far ?_ _ _ ?hFar; case hFar => (first | omega | ((try simp [go_sem]) <;> omega))) | fail))) hb
    have q2_b_0 := V2_b.c 0 _ rfl
    have q2_b_1 := V2_b.c 1 _ rfl
    have q2_b_2 := V2_b.c 2 _ rfl
    have q2_b_3 := V2_b.c 3 _ rfl
    have q2_b_4 := V2_b.c 4 _ rfl
    have q2_b_5 := V2_b.c 5 _ rfl
    have q2_b_6 := V2_b.c 6 _ rfl
    have q2_b_7 := V2_b.c 7 _ rfl
    have f2_b := V2_b.2.2; have L2_b := V2_b.lt; have N2_b := Nat.ne_of_gt L2_b; have M2_b := Nat.ne_of_lt L2_b
    have HV2_b := Lib.hid V2_b
    have S2 := G2.size; clear hb
    go_wp2_with fail
    refine (try_c 143 #[.pointer (some ⟨w.heap.size, 0, none⟩), .pointer (some ⟨w2.heap.size, 0, none⟩), .pointer (some ⟨w2.heap.size + 1, 0, none⟩)] _ (0) (usHt (w2.heap.size) (fstX (.ok (⟨4294967296, 0, 2 * b.sx⟩, true))) ++ usB (w2.heap.size + 1) (sndX (.ok ((⟨4294967296, 0, 2 * b.sx⟩ : Ht), true)))) (fun _ => rfl) ?_ ?_).mono ?_
    · intro u hu; (try simp only [List.mem_append] at hu); (repeat' (obtain hu | hu := (hu : _ ∨ _))); all_goals (first | rw [M.usBx_block hu] | rw [M.usV_block hu] | rw [M.usI_block hu] | rw [M.usHt_block hu] | rw [M.usBd_block hu] | rw [M.usB_block hu] | rw [M.cell_block1 hu] | (exfalso; simp at hu; done)); all_goals ((try simp [go_sem]) <;> omega)
    · intro w1' hb; exact (cloHitS _ _ _ b hB _ _ _ _ (.ok (⟨4294967296, 0, 2 * b.sx⟩, true)) E.out w1' (M.Var.mono (b := w.heap.size) (cs := #[.int .i64 b.shape, .int .i64 b.sx, .int .i64 b.sy, .int .i64 b.mass, .int .i64 b.px, .int .i64 b.py, .int .i64 b.mx, .int .i64 b.my]) (by (repeat (first | (with_reducible assumption) | (with_reducible refine M.var_alloc' _ _ _ ?_; first | rfl | (simp [go_sem]; done)) | (with_reducible refine M.Var.alloc ?_ _) | (with_reducible refine M.Var.drewN ?_ _) | (with_reducible refine M.Var.drew ?_) | (with_reducible refine M.Var.far ?_ _ _ ?hFar; case hFar => (first | omega | ((try simp [go_sem]) <;> omega))) | fail))) hb) (M.Var.mono (b := w2.heap.size) (cs := #[.int .i64 0, .int .i64 0, .int .i64 0]) (by (repeat (first | (with_reducible assumption) | (with_reducible refine M.var_alloc' _ _ _ ?_; first | rfl | (simp [go_sem]; done)) | (with_reducible refine M.Var.alloc ?_ _) | (with_reducible refine M.Var.drewN ?_ _) | (with_reducible refine M.Var.drew ?_) | (with_reducible refine M.Var.far ?_ _ _ ?hFar; case hFar => (first | omega | ((try simp [go_sem]) <;> omega))) | fail))) hb) (M.Var.mono (b := w2.heap.size + 1) (cs := #[.bool false]) (by (repeat (first | (with_reducible assumption) | (with_reducible refine M.var_alloc' _ _ _ ?_; first | rfl | (simp [go_sem]; done)) | (with_reducible refine M.Var.alloc ?_ _) | (with_reducible refine M.Var.drewN ?_ _) | (with_reducible refine M.Var.drew ?_) | (with_reducible refine M.Var.far ?_ _ _ ?hFar; case hFar => (first | omega | ((try simp [go_sem]) <;> omega))) | fail))) hb) (by omega)).mono fun e w' h => h
    rintro en w3 ⟨rfl, hb⟩
    have G3 : Below w.heap.size w w3 := Below.trans (M.below_sets_own (usHt (w2.heap.size) (fstX (.ok (⟨4294967296, 0, 2 * b.sx⟩, true))) ++ usB (w2.heap.size + 1) (sndX (.ok ((⟨4294967296, 0, 2 * b.sx⟩ : Ht), true)))) (by (repeat (with_reducible refine M.Below.drewN ?_ _)); go_grown) (by intro u hu; (try simp only [List.mem_append] at hu); (repeat' (obtain hu | hu := (hu : _ ∨ _))); all_goals (first | rw [M.usBx_block hu] | rw [M.usV_block hu] | rw [M.usI_block hu] | rw [M.usHt_block hu] | rw [M.usBd_block hu] | rw [M.usB_block hu] | rw [M.cell_block1 hu] | (exfalso; simp at hu; done)); all_goals ((try simp [go_sem]) <;> omega))) (hb.mono (by go_size))
    have V3_b : M.Var w3 (w.heap.size) #[.int .i64 b.shape, .int .i64 b.sx, .int .i64 b.sy, .int .i64 b.mass, .int .i64 b.px, .int .i64 b.py, .int .i64 b.mx, .int .i64 b.my] := M.Var.mono' (u := M.sets _ (usHt (w2.heap.size) (fstX (.ok (⟨4294967296, 0, 2 * b.sx⟩, true))) ++ usB (w2.heap.size + 1) (sndX (.ok ((⟨4294967296, 0, 2 * b.sx⟩ : Ht), true))))) (by (try simp only [M.sets_append]); exact (M.var_sets_far (usB (w2.heap.size + 1) (sndX (.ok ((⟨4294967296, 0, 2 * b.sx⟩ : Ht), true)))) (M.var_sets_far (usHt (w2.heap.size) (fstX (.ok (⟨4294967296, 0, 2 * b.sx⟩, true)))) (by (repeat (first | (with_reducible assumption) | (with_reducible refine M.var_alloc' _ _ _ ?_; first | rfl | (simp [go_sem]; done)) | (with_reducible refine M.Var.alloc ?_ _) | (with_reducible refine M.Var.drewN ?_ _) | (with_reducible refine M.Var.drew ?_) | (with_reducible refine M.Var.far ?_ _ _ ?hFar; case hFar => (first | omega | ((try simp [go_sem]) <;> omega))) | fail)) : M.Var _ (w.heap.size) #[.int .i64 b.shape, .int .i64 b.sx, .int .i64 b.sy, .int .i64 b.mass, .int .i64 b.px, .int .i64 b.py, .int .i64 b.mx, .int .i64 b.my]) (by intro u hu; all_goals (first | rw [M.usBx_block hu] | rw [M.usV_block hu] | rw [M.usI_block hu] | rw [M.usHt_block hu] | rw [M.usBd_block hu] | rw [M.usB_block hu] | rw [M.cell_block1 hu] | (exfalso; simp at hu; done)); all_goals ((try simp [go_sem]) <;> omega))) (by intro u hu; all_goals (first | rw [M.usBx_block hu] | rw [M.usV_block hu] | rw [M.usI_block hu] | rw [M.usHt_block hu] | rw [M.usBd_block hu] | rw [M.usB_block hu] | rw [M.cell_block1 hu] | (exfalso; simp at hu; done)); all_goals ((try simp [go_sem]) <;> omega)))) (M.sets_size _ _) hb
    have V3_h : M.Var w3 (w2.heap.size) #[.int .i64 4294967296, .int .i64 0, .int .i64 (2 * b.sx)] := M.Var.mono' (u := M.sets _ (usHt (w2.heap.size) (fstX (.ok (⟨4294967296, 0, 2 * b.sx⟩, true))) ++ usB (w2.heap.size + 1) (sndX (.ok ((⟨4294967296, 0, 2 * b.sx⟩ : Ht), true))))) (by (try simp only [M.sets_append]); exact (M.var_sets_far (usB (w2.heap.size + 1) (sndX (.ok ((⟨4294967296, 0, 2 * b.sx⟩ : Ht), true)))) (M.var_setHt (by (repeat (first | (with_reducible assumption) | (with_reducible refine M.var_alloc' _ _ _ ?_; first | rfl | (simp [go_sem]; done)) | (with_reducible refine M.Var.alloc ?_ _) | (with_reducible refine M.Var.drewN ?_ _) | (with_reducible refine M.Var.drew ?_) | (with_reducible refine M.Var.far ?_ _ _ ?hFar; case hFar => (first | omega | ((try simp [go_sem]) <;> omega))) | fail)) : M.Var _ (w2.heap.size) #[.int .i64 0, .int .i64 0, .int .i64 0]) _ _ _) (by intro u hu; all_goals (first | rw [M.usBx_block hu] | rw [M.usV_block hu] | rw [M.usI_block hu] | rw [M.usHt_block hu] | rw [M.usBd_block hu] | rw [M.usB_block hu] | rw [M.cell_block1 hu] | (exfalso; simp at hu; done)); all_goals ((try simp [go_sem]) <;> omega)))) (M.sets_size _ _) hb
    have V3_k : M.Var w3 (w2.heap.size + 1) #[.bool true] := M.Var.mono' (u := M.sets _ (usHt (w2.heap.size) (fstX (.ok (⟨4294967296, 0, 2 * b.sx⟩, true))) ++ usB (w2.heap.size + 1) (sndX (.ok ((⟨4294967296, 0, 2 * b.sx⟩ : Ht), true))))) (by (try simp only [M.sets_append]); exact (M.var_setB (M.var_sets_far (usHt (w2.heap.size) (fstX (.ok (⟨4294967296, 0, 2 * b.sx⟩, true)))) (by (repeat (first | (with_reducible assumption) | (with_reducible refine M.var_alloc' _ _ _ ?_; first | rfl | (simp [go_sem]; done)) | (with_reducible refine M.Var.alloc ?_ _) | (with_reducible refine M.Var.drewN ?_ _) | (with_reducible refine M.Var.drew ?_) | (with_reducible refine M.Var.far ?_ _ _ ?hFar; case hFar => (first | omega | ((try simp [go_sem]) <;> omega))) | fail)) : M.Var _ (w2.heap.size + 1) #[.bool false]) (by intro u hu; all_goals (first | rw [M.usBx_block hu] | rw [M.usV_block hu] | rw [M.usI_block hu] | rw [M.usHt_block hu] | rw [M.usBd_block hu] | rw [M.usB_block hu] | rw [M.cell_block1 hu] | (exfalso; simp at hu; done)); all_goals ((try simp [go_sem]) <;> omega))) _)) (M.sets_size _ _) hb
    have q3_b_0 := V3_b.c 0 _ rfl
    have q3_b_1 := V3_b.c 1 _ rfl
    have q3_b_2 := V3_b.c 2 _ rfl
    have q3_b_3 := V3_b.c 3 _ rfl
    have q3_b_4 := V3_b.c 4 _ rfl
    have q3_b_5 := V3_b.c 5 _ rfl
    have q3_b_6 := V3_b.c 6 _ rfl
    have q3_b_7 := V3_b.c 7 _ rfl
    have f3_b := V3_b.2.2; have L3_b := V3_b.lt; have N3_b := Nat.ne_of_gt L3_b; have M3_b := Nat.ne_of_lt L3_b
    have HV3_b := Lib.hid V3_b
    have q3_h_0 := V3_h.c 0 _ rfl
    have q3_h_1 := V3_h.c 1 _ rfl
    have q3_h_2 := V3_h.c 2 _ rfl
    have f3_h := V3_h.2.2; have L3_h := V3_h.lt; have N3_h := Nat.ne_of_gt L3_h; have M3_h := Nat.ne_of_lt L3_h
    have HV3_h := Lib.hid V3_h
    have q3_k_0 := V3_k.c 0 _ rfl
    have f3_k := V3_k.2.2; have L3_k := V3_k.lt; have N3_k := Nat.ne_of_gt L3_k; have M3_k := Nat.ne_of_lt L3_k
    have HV3_k := Lib.hid V3_k
    have S3 := G3.size; clear hb
    go_wp2_with fail
    go_ret
    exact ⟨rfl, by (repeat (with_reducible refine M.Below.drewN ?_ _)); go_grown⟩
  · rw [if_neg (by omega)] at e
    have E := Lib.hid e
    clear e
    go_enter Try.func38, Try.ntmps38
    go_wp2_with fail
    (with_reducible refine (C1.out _).mono ?_); rintro en w1 ⟨rfl, hb⟩
    have G1 : Below w.heap.size w w1 := Below.trans (by (repeat (with_reducible refine M.Below.drewN ?_ _)); go_grown) (hb.mono (by go_size))
    have V1_b : M.Var w1 (w.heap.size) #[.int .i64 b.shape, .int .i64 b.sx, .int .i64 b.sy, .int .i64 b.mass, .int .i64 b.px, .int .i64 b.py, .int .i64 b.mx, .int .i64 b.my] := M.Var.mono (by (repeat (first | (with_reducible assumption) | (with_reducible refine M.var_alloc' _ _ _ ?_; first | rfl | (simp [go_sem]; done)) | (with_reducible refine M.Var.alloc ?_ _) | (with_reducible refine M.Var.drewN ?_ _) | (with_reducible refine M.Var.drew ?_) | (with_reducible refine M.Var.far ?_ _ _ ?hFar; case hFar => (first | omega | ((try simp [go_sem]) <;> omega))) | fail))) hb
    have q1_b_0 := V1_b.c 0 _ rfl
    have q1_b_1 := V1_b.c 1 _ rfl
    have q1_b_2 := V1_b.c 2 _ rfl
    have q1_b_3 := V1_b.c 3 _ rfl
    have q1_b_4 := V1_b.c 4 _ rfl
    have q1_b_5 := V1_b.c 5 _ rfl
    have q1_b_6 := V1_b.c 6 _ rfl
    have q1_b_7 := V1_b.c 7 _ rfl
    have f1_b := V1_b.2.2; have L1_b := V1_b.lt; have N1_b := Nat.ne_of_gt L1_b; have M1_b := Nat.ne_of_lt L1_b
    have HV1_b := Lib.hid V1_b
    have S1 := G1.size; clear hb
    go_wp2_with fail
    (with_reducible refine (c0.out _).mono ?_); rintro en w2 ⟨rfl, hb⟩
    have G2 : Below w.heap.size w w2 := Below.trans (by (repeat (with_reducible refine M.Below.drewN ?_ _)); go_grown) (hb.mono (by go_size))
    have V2_b : M.Var w2 (w.heap.size) #[.int .i64 b.shape, .int .i64 b.sx, .int .i64 b.sy, .int .i64 b.mass, .int .i64 b.px, .int .i64 b.py, .int .i64 b.mx, .int .i64 b.my] := M.Var.mono (by (repeat (first | (with_reducible assumption) | (with_reducible refine M.var_alloc' _ _ _ ?_; first | rfl | (simp [go_sem]; done)) | (with_reducible refine M.Var.alloc ?_ _) | (with_reducible refine M.Var.drewN ?_ _) | (with_reducible refine M.Var.drew ?_) | (with_reducible refine M.Var.far ?_ _ _ ?hFar; case hFar => (first | omega | ((try simp [go_sem]) <;> omega))) | fail))) hb
    have q2_b_0 := V2_b.c 0 _ rfl
    have q2_b_1 := V2_b.c 1 _ rfl
    have q2_b_2 := V2_b.c 2 _ rfl
    have q2_b_3 := V2_b.c 3 _ rfl
    have q2_b_4 := V2_b.c 4 _ rfl
    have q2_b_5 := V2_b.c 5 _ rfl
    have q2_b_6 := V2_b.c 6 _ rfl
    have q2_b_7 := V2_b.c 7 _ rfl
    have f2_b := V2_b.2.2; have L2_b := V2_b.lt; have N2_b := Nat.ne_of_gt L2_b; have M2_b := Nat.ne_of_lt L2_b
    have HV2_b := Lib.hid V2_b
    have S2 := G2.size; clear hb
    go_wp2_with fail
    refine (try_c 143 #[.pointer (some ⟨w.heap.size, 0, none⟩), .pointer (some ⟨w2.heap.size, 0, none⟩), .pointer (some ⟨w2.heap.size + 1, 0, none⟩)] _ (0) (usHt (w2.heap.size) (fstX (.ok (⟨4294967296, 0, 2 * b.sx⟩, true))) ++ usB (w2.heap.size + 1) (sndX (.ok ((⟨4294967296, 0, 2 * b.sx⟩ : Ht), true)))) (fun _ => rfl) ?_ ?_).mono ?_
    · intro u hu; (try simp only [List.mem_append] at hu); (repeat' (obtain hu | hu := (hu : _ ∨ _))); all_goals (first | rw [M.usBx_block hu] | rw [M.usV_block hu] | rw [M.usI_block hu] | rw [M.usHt_block hu] | rw [M.usBd_block hu] | rw [M.usB_block hu] | rw [M.cell_block1 hu] | (exfalso; simp at hu; done)); all_goals ((try simp [go_sem]) <;> omega)
    · intro w1' hb; exact (cloHitS _ _ _ b hB _ _ _ _ (.ok (⟨4294967296, 0, 2 * b.sx⟩, true)) E.out w1' (M.Var.mono (b := w.heap.size) (cs := #[.int .i64 b.shape, .int .i64 b.sx, .int .i64 b.sy, .int .i64 b.mass, .int .i64 b.px, .int .i64 b.py, .int .i64 b.mx, .int .i64 b.my]) (by (repeat (first | (with_reducible assumption) | (with_reducible refine M.var_alloc' _ _ _ ?_; first | rfl | (simp [go_sem]; done)) | (with_reducible refine M.Var.alloc ?_ _) | (with_reducible refine M.Var.drewN ?_ _) | (with_reducible refine M.Var.drew ?_) | (with_reducible refine M.Var.far ?_ _ _ ?hFar; case hFar => (first | omega | ((try simp [go_sem]) <;> omega))) | fail))) hb) (M.Var.mono (b := w2.heap.size) (cs := #[.int .i64 0, .int .i64 0, .int .i64 0]) (by (repeat (first | (with_reducible assumption) | (with_reducible refine M.var_alloc' _ _ _ ?_; first | rfl | (simp [go_sem]; done)) | (with_reducible refine M.Var.alloc ?_ _) | (with_reducible refine M.Var.drewN ?_ _) | (with_reducible refine M.Var.drew ?_) | (with_reducible refine M.Var.far ?_ _ _ ?hFar; case hFar => (first | omega | ((try simp [go_sem]) <;> omega))) | fail))) hb) (M.Var.mono (b := w2.heap.size + 1) (cs := #[.bool false]) (by (repeat (first | (with_reducible assumption) | (with_reducible refine M.var_alloc' _ _ _ ?_; first | rfl | (simp [go_sem]; done)) | (with_reducible refine M.Var.alloc ?_ _) | (with_reducible refine M.Var.drewN ?_ _) | (with_reducible refine M.Var.drew ?_) | (with_reducible refine M.Var.far ?_ _ _ ?hFar; case hFar => (first | omega | ((try simp [go_sem]) <;> omega))) | fail))) hb) (by omega)).mono fun e w' h => h
    rintro en w3 ⟨rfl, hb⟩
    have G3 : Below w.heap.size w w3 := Below.trans (M.below_sets_own (usHt (w2.heap.size) (fstX (.ok (⟨4294967296, 0, 2 * b.sx⟩, true))) ++ usB (w2.heap.size + 1) (sndX (.ok ((⟨4294967296, 0, 2 * b.sx⟩ : Ht), true)))) (by (repeat (with_reducible refine M.Below.drewN ?_ _)); go_grown) (by intro u hu; (try simp only [List.mem_append] at hu); (repeat' (obtain hu | hu := (hu : _ ∨ _))); all_goals (first | rw [M.usBx_block hu] | rw [M.usV_block hu] | rw [M.usI_block hu] | rw [M.usHt_block hu] | rw [M.usBd_block hu] | rw [M.usB_block hu] | rw [M.cell_block1 hu] | (exfalso; simp at hu; done)); all_goals ((try simp [go_sem]) <;> omega))) (hb.mono (by go_size))
    have V3_b : M.Var w3 (w.heap.size) #[.int .i64 b.shape, .int .i64 b.sx, .int .i64 b.sy, .int .i64 b.mass, .int .i64 b.px, .int .i64 b.py, .int .i64 b.mx, .int .i64 b.my] := M.Var.mono' (u := M.sets _ (usHt (w2.heap.size) (fstX (.ok (⟨4294967296, 0, 2 * b.sx⟩, true))) ++ usB (w2.heap.size + 1) (sndX (.ok ((⟨4294967296, 0, 2 * b.sx⟩ : Ht), true))))) (by (try simp only [M.sets_append]); exact (M.var_sets_far (usB (w2.heap.size + 1) (sndX (.ok ((⟨4294967296, 0, 2 * b.sx⟩ : Ht), true)))) (M.var_sets_far (usHt (w2.heap.size) (fstX (.ok (⟨4294967296, 0, 2 * b.sx⟩, true)))) (by (repeat (first | (with_reducible assumption) | (with_reducible refine M.var_alloc' _ _ _ ?_; first | rfl | (simp [go_sem]; done)) | (with_reducible refine M.Var.alloc ?_ _) | (with_reducible refine M.Var.drewN ?_ _) | (with_reducible refine M.Var.drew ?_) | (with_reducible refine M.Var.far ?_ _ _ ?hFar; case hFar => (first | omega | ((try simp [go_sem]) <;> omega))) | fail)) : M.Var _ (w.heap.size) #[.int .i64 b.shape, .int .i64 b.sx, .int .i64 b.sy, .int .i64 b.mass, .int .i64 b.px, .int .i64 b.py, .int .i64 b.mx, .int .i64 b.my]) (by intro u hu; all_goals (first | rw [M.usBx_block hu] | rw [M.usV_block hu] | rw [M.usI_block hu] | rw [M.usHt_block hu] | rw [M.usBd_block hu] | rw [M.usB_block hu] | rw [M.cell_block1 hu] | (exfalso; simp at hu; done)); all_goals ((try simp [go_sem]) <;> omega))) (by intro u hu; all_goals (first | rw [M.usBx_block hu] | rw [M.usV_block hu] | rw [M.usI_block hu] | rw [M.usHt_block hu] | rw [M.usBd_block hu] | rw [M.usB_block hu] | rw [M.cell_block1 hu] | (exfalso; simp at hu; done)); all_goals ((try simp [go_sem]) <;> omega)))) (M.sets_size _ _) hb
    have V3_h : M.Var w3 (w2.heap.size) #[.int .i64 4294967296, .int .i64 0, .int .i64 (2 * b.sx)] := M.Var.mono' (u := M.sets _ (usHt (w2.heap.size) (fstX (.ok (⟨4294967296, 0, 2 * b.sx⟩, true))) ++ usB (w2.heap.size + 1) (sndX (.ok ((⟨4294967296, 0, 2 * b.sx⟩ : Ht), true))))) (by (try simp only [M.sets_append]); exact (M.var_sets_far (usB (w2.heap.size + 1) (sndX (.ok ((⟨4294967296, 0, 2 * b.sx⟩ : Ht), true)))) (M.var_setHt (by (repeat (first | (with_reducible assumption) | (with_reducible refine M.var_alloc' _ _ _ ?_; first | rfl | (simp [go_sem]; done)) | (with_reducible refine M.Var.alloc ?_ _) | (with_reducible refine M.Var.drewN ?_ _) | (with_reducible refine M.Var.drew ?_) | (with_reducible refine M.Var.far ?_ _ _ ?hFar; case hFar => (first | omega | ((try simp [go_sem]) <;> omega))) | fail)) : M.Var _ (w2.heap.size) #[.int .i64 0, .int .i64 0, .int .i64 0]) _ _ _) (by intro u hu; all_goals (first | rw [M.usBx_block hu] | rw [M.usV_block hu] | rw [M.usI_block hu] | rw [M.usHt_block hu] | rw [M.usBd_block hu] | rw [M.usB_block hu] | rw [M.cell_block1 hu] | (exfalso; simp at hu; done)); all_goals ((try simp [go_sem]) <;> omega)))) (M.sets_size _ _) hb
    have V3_k : M.Var w3 (w2.heap.size + 1) #[.bool true] := M.Var.mono' (u := M.sets _ (usHt (w2.heap.size) (fstX (.ok (⟨4294967296, 0, 2 * b.sx⟩, true))) ++ usB (w2.heap.size + 1) (sndX (.ok ((⟨4294967296, 0, 2 * b.sx⟩ : Ht), true))))) (by (try simp only [M.sets_append]); exact (M.var_setB (M.var_sets_far (usHt (w2.heap.size) (fstX (.ok (⟨4294967296, 0, 2 * b.sx⟩, true)))) (by (repeat (first | (with_reducible assumption) | (with_reducible refine M.var_alloc' _ _ _ ?_; first | rfl | (simp [go_sem]; done)) | (with_reducible refine M.Var.alloc ?_ _) | (with_reducible refine M.Var.drewN ?_ _) | (with_reducible refine M.Var.drew ?_) | (with_reducible refine M.Var.far ?_ _ _ ?hFar; case hFar => (first | omega | ((try simp [go_sem]) <;> omega))) | fail)) : M.Var _ (w2.heap.size + 1) #[.bool false]) (by intro u hu; all_goals (first | rw [M.usBx_block hu] | rw [M.usV_block hu] | rw [M.usI_block hu] | rw [M.usHt_block hu] | rw [M.usBd_block hu] | rw [M.usB_block hu] | rw [M.cell_block1 hu] | (exfalso; simp at hu; done)); all_goals ((try simp [go_sem]) <;> omega))) _)) (M.sets_size _ _) hb
    have q3_b_0 := V3_b.c 0 _ rfl
    have q3_b_1 := V3_b.c 1 _ rfl
    have q3_b_2 := V3_b.c 2 _ rfl
    have q3_b_3 := V3_b.c 3 _ rfl
    have q3_b_4 := V3_b.c 4 _ rfl
    have q3_b_5 := V3_b.c 5 _ rfl
    have q3_b_6 := V3_b.c 6 _ rfl
    have q3_b_7 := V3_b.c 7 _ rfl
    have f3_b := V3_b.2.2; have L3_b := V3_b.lt; have N3_b := Nat.ne_of_gt L3_b; have M3_b := Nat.ne_of_lt L3_b
    have HV3_b := Lib.hid V3_b
    have q3_h_0 := V3_h.c 0 _ rfl
    have q3_h_1 := V3_h.c 1 _ rfl
    have q3_h_2 := V3_h.c 2 _ rfl
    have f3_h := V3_h.2.2; have L3_h := V3_h.lt; have N3_h := Nat.ne_of_gt L3_h; have M3_h := Nat.ne_of_lt L3_h
    have HV3_h := Lib.hid V3_h
    have q3_k_0 := V3_k.c 0 _ rfl
    have f3_k := V3_k.2.2; have L3_k := V3_k.lt; have N3_k := Nat.ne_of_gt L3_k; have M3_k := Nat.ne_of_lt L3_k
    have HV3_k := Lib.hid V3_k
    have S3 := G3.size; clear hb
    go_wp2_with fail
    go_ret
    exact ⟨rfl, by (repeat (with_reducible refine M.Below.drewN ?_ _)); go_grown⟩
  · rw [if_pos ⟨beq_iff_eq.1 g1, g2⟩] at e
    have E := Lib.hid e
    clear e
    go_enter Try.func38, Try.ntmps38
    go_wp2_with fail
    (with_reducible refine (C1.out _).mono ?_); rintro en w1 ⟨rfl, hb⟩
    have G1 : Below w.heap.size w w1 := Below.trans (by (repeat (with_reducible refine M.Below.drewN ?_ _)); go_grown) (hb.mono (by go_size))
    have V1_b : M.Var w1 (w.heap.size) #[.int .i64 b.shape, .int .i64 b.sx, .int .i64 b.sy, .int .i64 b.mass, .int .i64 b.px, .int .i64 b.py, .int .i64 b.mx, .int .i64 b.my] := M.Var.mono (by (repeat (first | (with_reducible assumption) | (with_reducible refine M.var_alloc' _ _ _ ?_; first | rfl | (simp [go_sem]; done)) | (with_reducible refine M.Var.alloc ?_ _) | (with_reducible refine M.Var.drewN ?_ _) | (with_reducible refine M.Var.drew ?_) | (with_reducible refine M.Var.far ?_ _ _ ?hFar; case hFar => (first | omega | ((try simp [go_sem]) <;> omega))) | fail))) hb
    have q1_b_0 := V1_b.c 0 _ rfl
    have q1_b_1 := V1_b.c 1 _ rfl
    have q1_b_2 := V1_b.c 2 _ rfl
    have q1_b_3 := V1_b.c 3 _ rfl
    have q1_b_4 := V1_b.c 4 _ rfl
    have q1_b_5 := V1_b.c 5 _ rfl
    have q1_b_6 := V1_b.c 6 _ rfl
    have q1_b_7 := V1_b.c 7 _ rfl
    have f1_b := V1_b.2.2; have L1_b := V1_b.lt; have N1_b := Nat.ne_of_gt L1_b; have M1_b := Nat.ne_of_lt L1_b
    have HV1_b := Lib.hid V1_b
    have S1 := G1.size; clear hb
    go_wp2_with fail
    (with_reducible refine (c0.out _).mono ?_); rintro en w2 ⟨rfl, hb⟩
    have G2 : Below w.heap.size w w2 := Below.trans (by (repeat (with_reducible refine M.Below.drewN ?_ _)); go_grown) (hb.mono (by go_size))
    have V2_b : M.Var w2 (w.heap.size) #[.int .i64 b.shape, .int .i64 b.sx, .int .i64 b.sy, .int .i64 b.mass, .int .i64 b.px, .int .i64 b.py, .int .i64 b.mx, .int .i64 b.my] := M.Var.mono (by (repeat (first | (with_reducible assumption) | (with_reducible refine M.var_alloc' _ _ _ ?_; first | rfl | (simp [go_sem]; done)) | (with_reducible refine M.Var.alloc ?_ _) | (with_reducible refine M.Var.drewN ?_ _) | (with_reducible refine M.Var.drew ?_) | (with_reducible refine M.Var.far ?_ _ _ ?hFar; case hFar => (first | omega | ((try simp [go_sem]) <;> omega))) | fail))) hb
    have q2_b_0 := V2_b.c 0 _ rfl
    have q2_b_1 := V2_b.c 1 _ rfl
    have q2_b_2 := V2_b.c 2 _ rfl
    have q2_b_3 := V2_b.c 3 _ rfl
    have q2_b_4 := V2_b.c 4 _ rfl
    have q2_b_5 := V2_b.c 5 _ rfl
    have q2_b_6 := V2_b.c 6 _ rfl
    have q2_b_7 := V2_b.c 7 _ rfl
    have f2_b := V2_b.2.2; have L2_b := V2_b.lt; have N2_b := Nat.ne_of_gt L2_b; have M2_b := Nat.ne_of_lt L2_b
    have HV2_b := Lib.hid V2_b
    have S2 := G2.size; clear hb
    go_wp2_with fail
    refine (try_c 143 #[.pointer (some ⟨w.heap.size, 0, none⟩), .pointer (some ⟨w2.heap.size, 0, none⟩), .pointer (some ⟨w2.heap.size + 1, 0, none⟩)] _ (0) (usHt (w2.heap.size) (fstX (.ok (⟨0, 4294967296, 2 * b.sy⟩, true))) ++ usB (w2.heap.size + 1) (sndX (.ok ((⟨0, 4294967296, 2 * b.sy⟩ : Ht), true)))) (fun _ => rfl) ?_ ?_).mono ?_
    · intro u hu; (try simp only [List.mem_append] at hu); (repeat' (obtain hu | hu := (hu : _ ∨ _))); all_goals (first | rw [M.usBx_block hu] | rw [M.usV_block hu] | rw [M.usI_block hu] | rw [M.usHt_block hu] | rw [M.usBd_block hu] | rw [M.usB_block hu] | rw [M.cell_block1 hu] | (exfalso; simp at hu; done)); all_goals ((try simp [go_sem]) <;> omega)
    · intro w1' hb; exact (cloHitS _ _ _ b hB _ _ _ _ (.ok (⟨0, 4294967296, 2 * b.sy⟩, true)) E.out w1' (M.Var.mono (b := w.heap.size) (cs := #[.int .i64 b.shape, .int .i64 b.sx, .int .i64 b.sy, .int .i64 b.mass, .int .i64 b.px, .int .i64 b.py, .int .i64 b.mx, .int .i64 b.my]) (by (repeat (first | (with_reducible assumption) | (with_reducible refine M.var_alloc' _ _ _ ?_; first | rfl | (simp [go_sem]; done)) | (with_reducible refine M.Var.alloc ?_ _) | (with_reducible refine M.Var.drewN ?_ _) | (with_reducible refine M.Var.drew ?_) | (with_reducible refine M.Var.far ?_ _ _ ?hFar; case hFar => (first | omega | ((try simp [go_sem]) <;> omega))) | fail))) hb) (M.Var.mono (b := w2.heap.size) (cs := #[.int .i64 0, .int .i64 0, .int .i64 0]) (by (repeat (first | (with_reducible assumption) | (with_reducible refine M.var_alloc' _ _ _ ?_; first | rfl | (simp [go_sem]; done)) | (with_reducible refine M.Var.alloc ?_ _) | (with_reducible refine M.Var.drewN ?_ _) | (with_reducible refine M.Var.drew ?_) | (with_reducible refine M.Var.far ?_ _ _ ?hFar; case hFar => (first | omega | ((try simp [go_sem]) <;> omega))) | fail))) hb) (M.Var.mono (b := w2.heap.size + 1) (cs := #[.bool false]) (by (repeat (first | (with_reducible assumption) | (with_reducible refine M.var_alloc' _ _ _ ?_; first | rfl | (simp [go_sem]; done)) | (with_reducible refine M.Var.alloc ?_ _) | (with_reducible refine M.Var.drewN ?_ _) | (with_reducible refine M.Var.drew ?_) | (with_reducible refine M.Var.far ?_ _ _ ?hFar; case hFar => (first | omega | ((try simp [go_sem]) <;> omega))) | fail))) hb) (by omega)).mono fun e w' h => h
    rintro en w3 ⟨rfl, hb⟩
    have G3 : Below w.heap.size w w3 := Below.trans (M.below_sets_own (usHt (w2.heap.size) (fstX (.ok (⟨0, 4294967296, 2 * b.sy⟩, true))) ++ usB (w2.heap.size + 1) (sndX (.ok ((⟨0, 4294967296, 2 * b.sy⟩ : Ht), true)))) (by (repeat (with_reducible refine M.Below.drewN ?_ _)); go_grown) (by intro u hu; (try simp only [List.mem_append] at hu); (repeat' (obtain hu | hu := (hu : _ ∨ _))); all_goals (first | rw [M.usBx_block hu] | rw [M.usV_block hu] | rw [M.usI_block hu] | rw [M.usHt_block hu] | rw [M.usBd_block hu] | rw [M.usB_block hu] | rw [M.cell_block1 hu] | (exfalso; simp at hu; done)); all_goals ((try simp [go_sem]) <;> omega))) (hb.mono (by go_size))
    have V3_b : M.Var w3 (w.heap.size) #[.int .i64 b.shape, .int .i64 b.sx, .int .i64 b.sy, .int .i64 b.mass, .int .i64 b.px, .int .i64 b.py, .int .i64 b.mx, .int .i64 b.my] := M.Var.mono' (u := M.sets _ (usHt (w2.heap.size) (fstX (.ok (⟨0, 4294967296, 2 * b.sy⟩, true))) ++ usB (w2.heap.size + 1) (sndX (.ok ((⟨0, 4294967296, 2 * b.sy⟩ : Ht), true))))) (by (try simp only [M.sets_append]); exact (M.var_sets_far (usB (w2.heap.size + 1) (sndX (.ok ((⟨0, 4294967296, 2 * b.sy⟩ : Ht), true)))) (M.var_sets_far (usHt (w2.heap.size) (fstX (.ok (⟨0, 4294967296, 2 * b.sy⟩, true)))) (by (repeat (first | (with_reducible assumption) | (with_reducible refine M.var_alloc' _ _ _ ?_; first | rfl | (simp [go_sem]; done)) | (with_reducible refine M.Var.alloc ?_ _) | (with_reducible refine M.Var.drewN ?_ _) | (with_reducible refine M.Var.drew ?_) | (with_reducible refine M.Var.far ?_ _ _ ?hFar; case hFar => (first | omega | ((try simp [go_sem]) <;> omega))) | fail)) : M.Var _ (w.heap.size) #[.int .i64 b.shape, .int .i64 b.sx, .int .i64 b.sy, .int .i64 b.mass, .int .i64 b.px, .int .i64 b.py, .int .i64 b.mx, .int .i64 b.my]) (by intro u hu; all_goals (first | rw [M.usBx_block hu] | rw [M.usV_block hu] | rw [M.usI_block hu] | rw [M.usHt_block hu] | rw [M.usBd_block hu] | rw [M.usB_block hu] | rw [M.cell_block1 hu] | (exfalso; simp at hu; done)); all_goals ((try simp [go_sem]) <;> omega))) (by intro u hu; all_goals (first | rw [M.usBx_block hu] | rw [M.usV_block hu] | rw [M.usI_block hu] | rw [M.usHt_block hu] | rw [M.usBd_block hu] | rw [M.usB_block hu] | rw [M.cell_block1 hu] | (exfalso; simp at hu; done)); all_goals ((try simp [go_sem]) <;> omega)))) (M.sets_size _ _) hb
    have V3_h : M.Var w3 (w2.heap.size) #[.int .i64 0, .int .i64 4294967296, .int .i64 (2 * b.sy)] := M.Var.mono' (u := M.sets _ (usHt (w2.heap.size) (fstX (.ok (⟨0, 4294967296, 2 * b.sy⟩, true))) ++ usB (w2.heap.size + 1) (sndX (.ok ((⟨0, 4294967296, 2 * b.sy⟩ : Ht), true))))) (by (try simp only [M.sets_append]); exact (M.var_sets_far (usB (w2.heap.size + 1) (sndX (.ok ((⟨0, 4294967296, 2 * b.sy⟩ : Ht), true)))) (M.var_setHt (by (repeat (first | (with_reducible assumption) | (with_reducible refine M.var_alloc' _ _ _ ?_; first | rfl | (simp [go_sem]; done)) | (with_reducible refine M.Var.alloc ?_ _) | (with_reducible refine M.Var.drewN ?_ _) | (with_reducible refine M.Var.drew ?_) | (with_reducible refine M.Var.far ?_ _ _ ?hFar; case hFar => (first | omega | ((try simp [go_sem]) <;> omega))) | fail)) : M.Var _ (w2.heap.size) #[.int .i64 0, .int .i64 0, .int .i64 0]) _ _ _) (by intro u hu; all_goals (first | rw [M.usBx_block hu] | rw [M.usV_block hu] | rw [M.usI_block hu] | rw [M.usHt_block hu] | rw [M.usBd_block hu] | rw [M.usB_block hu] | rw [M.cell_block1 hu] | (exfalso; simp at hu; done)); all_goals ((try simp [go_sem]) <;> omega)))) (M.sets_size _ _) hb
    have V3_k : M.Var w3 (w2.heap.size + 1) #[.bool true] := M.Var.mono' (u := M.sets _ (usHt (w2.heap.size) (fstX (.ok (⟨0, 4294967296, 2 * b.sy⟩, true))) ++ usB (w2.heap.size + 1) (sndX (.ok ((⟨0, 4294967296, 2 * b.sy⟩ : Ht), true))))) (by (try simp only [M.sets_append]); exact (M.var_setB (M.var_sets_far (usHt (w2.heap.size) (fstX (.ok (⟨0, 4294967296, 2 * b.sy⟩, true)))) (by (repeat (first | (with_reducible assumption) | (with_reducible refine M.var_alloc' _ _ _ ?_; first | rfl | (simp [go_sem]; done)) | (with_reducible refine M.Var.alloc ?_ _) | (with_reducible refine M.Var.drewN ?_ _) | (with_reducible refine M.Var.drew ?_) | (with_reducible refine M.Var.far ?_ _ _ ?hFar; case hFar => (first | omega | ((try simp [go_sem]) <;> omega))) | fail)) : M.Var _ (w2.heap.size + 1) #[.bool false]) (by intro u hu; all_goals (first | rw [M.usBx_block hu] | rw [M.usV_block hu] | rw [M.usI_block hu] | rw [M.usHt_block hu] | rw [M.usBd_block hu] | rw [M.usB_block hu] | rw [M.cell_block1 hu] | (exfalso; simp at hu; done)); all_goals ((try simp [go_sem]) <;> omega))) _)) (M.sets_size _ _) hb
    have q3_b_0 := V3_b.c 0 _ rfl
    have q3_b_1 := V3_b.c 1 _ rfl
    have q3_b_2 := V3_b.c 2 _ rfl
    have q3_b_3 := V3_b.c 3 _ rfl
    have q3_b_4 := V3_b.c 4 _ rfl
    have q3_b_5 := V3_b.c 5 _ rfl
    have q3_b_6 := V3_b.c 6 _ rfl
    have q3_b_7 := V3_b.c 7 _ rfl
    have f3_b := V3_b.2.2; have L3_b := V3_b.lt; have N3_b := Nat.ne_of_gt L3_b; have M3_b := Nat.ne_of_lt L3_b
    have HV3_b := Lib.hid V3_b
    have q3_h_0 := V3_h.c 0 _ rfl
    have q3_h_1 := V3_h.c 1 _ rfl
    have q3_h_2 := V3_h.c 2 _ rfl
    have f3_h := V3_h.2.2; have L3_h := V3_h.lt; have N3_h := Nat.ne_of_gt L3_h; have M3_h := Nat.ne_of_lt L3_h
    have HV3_h := Lib.hid V3_h
    have q3_k_0 := V3_k.c 0 _ rfl
    have f3_k := V3_k.2.2; have L3_k := V3_k.lt; have N3_k := Nat.ne_of_gt L3_k; have M3_k := Nat.ne_of_lt L3_k
    have HV3_k := Lib.hid V3_k
    have S3 := G3.size; clear hb
    go_wp2_with fail
    go_ret
    exact ⟨rfl, by (repeat (with_reducible refine M.Below.drewN ?_ _)); go_grown⟩

theorem lifted (os : Os) (started : os.Started) (H : Type) (enc : TypeId × Value → H) :
    ReturnsInHanded {} Try.checked os 38 .any (Rows.touchSelfSpec.pre6 enc Try.prog Try.f38 Rows.touchSelfRow.domain false) (Rows.touchSelfSpec.post enc Try.prog Try.f38 false true false false) := by
  refine returnsInHanded_of_change (C := Try.checked) own started (by kernel_rfl) Try.func38
    (ChangeSpec.witness6 (enc := enc) (C := Try.checked) false ⟨#[], #[.agg #[.int .i64 0, .int .i64 0, .int .i64 0, .int .i64 0, .int .i64 0, .int .i64 0, .int .i64 0, .int .i64 0]], []⟩ 8 (by kernel_rfl) (by kernel_rfl) (by kernel_rfl) (by kernel_rfl)) ?_
  intro W base args ds gs before hval0 hW hcnd _
  have hval : ∀ (j : Nat) t v, Try.f38.params[j]? = some t → args[j]? = some v → Value.okWide Try.prog W .any base t v := hval0
  have hW' := hW
  obtain ⟨p, q, hA0, hV, rfl, hfz, hnd⟩ := hW
  have hA : DataW.TrodAll enc Try.prog W 0 (fun _ => true) true Try.f38.params.toList args.toList ds p := hA0
  rw [Try.params38] at hA hval
  obtain ⟨v0, vs0, d0, ds0, p0, q0, hargs, rfl, rfl, h0, r0⟩ := trodAll_cons hA
  obtain ⟨rfl, rfl, rfl⟩ := trodAll_nil r0
  obtain rfl : args = #[v0] := by cases args; simp_all
  obtain ⟨rfl, rfl⟩ := trodVars_none hV
  obtain ⟨b, rfl, rfl, rfl, wb⟩ := open_body (hval 0 33 v0 rfl rfl) h0
  clear hA0 hval0
  simp only [List.append_nil] at hW'
  refine (walk b wb.ok W).mono fun e W' ⟨he, hg⟩ => ?_
  subst he
  exact ⟨_, rfl, post_below (pa := []) (pv := []) hW' (fun _ _ _ => (trodAll_cons_mk (shut_bool Try.underlying4 _) trodAll_mk0)) (fun sp _ => (trodAll_cons_mk (shut_body wb) trodAll_mk0)) (fun _ _ => rfl) rfl
    hg (ok_one (by kernel_rfl) rfl (okWide_bool_mk Try.underlying4 _))⟩

theorem closed : joinedFacts Try.prog 38 Try.f38 Rows.touchSelfSpec Rows.touchSelfRow = true := by
  unfold joinedFacts
  rw [fact_laid, fact_maps, fact_keys, fact_heard, fact_stops, fact_knobs, fact_enter, fact_lifts, fact_make]
  kernel_rfl

theorem over : Rows.touchSelfRow.holds Try.pinned (OpenSpec.ofChange Rows.touchSelfSpec) :=
  OpenClaim.holds_of_wide 38 Try.f38 rfl rfl rfl rfl rfl rfl rfl ⟨rfl, rfl, rfl, rfl, rfl⟩ rfl rfl rfl rfl rfl (by kernel_rfl) Try.func38 closed
    (of_decide_eq_true (by kernel_rfl)) (by unfold Func.isWrapper; first | (rw [if_pos (by decide +kernel)]; kernel_rfl) | (rw [if_neg (by decide +kernel)]; exact ⟨rfl, rfl⟩))
    (fun os started H enc _ => lifted os started H enc)

/-- The statement. -/
theorem proved : Rows.TouchSelfSaid :=
  over
#print axioms proved
end Go.Proofs.Ytaagpkacningdaa.touchSelf
