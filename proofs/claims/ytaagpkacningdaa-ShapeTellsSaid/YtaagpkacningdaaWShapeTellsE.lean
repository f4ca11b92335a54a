/- For every body and every number ShapeTells returns true: whether it may be, its speed, its lightness are the reference's; so is every shape's name. -/
import Derived.Test.YtaagpkacningdaaRows
import Derived.WalkKit
import Derived.ProofKit
import Derived.OpenShut
import Derived.Test.YtaagpkacningdaaFacts
import Derived.Test.YtaagpkacningdaaArgs
import Derived.Test.YtaagpkacningdaaShapeAlive
import Derived.Test.YtaagpkacningdaaRefRight
import Derived.Test.YtaagpkacningdaaClo7
import Derived.Deep.DrawnRows
namespace Go.Proofs.Ytaagpkacningdaa.shapeTells
open Go.ChangeShapes Go.WideShapes Go.ChangeAt Go.RowKit M
set_option maxRecDepth 100000
set_option maxHeartbeats 8000000
set_option linter.unusedVariables false
set_option linter.unusedSimpArgs false
attribute [local go_sem ↓] Go.wp_at_zero Go.wp_at_succ
theorem walkE (b : Bd) (hb : b.ok) (n : Int) (hn : I64 n) (w : World) (i : Int) (hP : speedX b = .error i) :
    Calls Try.prog 8 #[.agg #[.int .i64 b.shape, .int .i64 b.sx, .int .i64 b.sy, .int .i64 b.mass, .int .i64 b.px, .int .i64 b.py, .int .i64 b.mx, .int .i64 b.my], .int .i64 n] w fun e w' => e = .returned (.bool true) ∧ Bw w w' := by
  have c0 := Lib.hid alive7_c
  have hB := hb
  have c1 := right_x b
  have c2 := refRight_x b
  generalize rightB b = T at *
  have C1 := Lib.hid c1; have C2 := Lib.hid c2
  clear c1 c2
  have c3 := name_x n
  rcases hR : lightX b with j | l
  · have z1 := bne_iff_ne.2 (nz_speed b i hP)
    have z2 := bne_iff_ne.2 (nz_light b j hR)
    have K1 := Lib.hid (fun pb w hp => (refSpeed_x pb 0 b hB w hp).mono fun en w' h => relV_err hP h)
    have K2 := Lib.hid (fun pb w hp => (refLight_x pb 0 b hB w hp).mono fun en w' h => relI_err hR h)
    replace hP := Lib.hid hP; replace hR := Lib.hid hR
    have hn : n = 1 ∨ n = 2 ∨ ((n == 1) = false ∧ (n == 2) = false ∧ nameS n = ⟨#[]⟩) := by
      by_cases h1 : n = 1
      · exact .inl h1
      · by_cases h2 : n = 2
        · exact .inr (.inl h2)
        · exact .inr (.inr ⟨beq_eq_false_iff_ne.2 h1, beq_eq_false_iff_ne.2 h2, by unfold nameS; rw [if_neg h1, if_neg h2]⟩)
    rcases hn with rfl | rfl | ⟨h1, h2, h3⟩
    · rw [show nameS 1 = ⟨#[98, 97, 108, 108]⟩ from rfl] at c3
      have C3 := Lib.hid c3
      clear c3
      go_enter Try.func8, Try.ntmps8
      go_wp2_with fail
      (with_reducible refine (c0.out _).mono ?_); rintro en w1 ⟨rfl, hb⟩
      have G1 : Below w.heap.size w w1 := Below.trans (by (repeat (with_reducible refine M.Below.drewN ?_ _)); go_grown) (hb.mono (by go_size))
      have V1_b : M.Var w1 (w.heap.size) #[.int .i64 b.shape, .int .i64 b.sx, .int .i64 b.sy, .int .i64 b.mass, .int .i64 b.px, .int .i64 b.py, .int .i64 b.mx, .int .i64 b.my] := M.Var.mono (by (repeat (first | (with_reducible assumption) | (refine M.var_alloc' _ _ _ ?_; first | rfl | (simp [go_sem]; done)) | (with_reducible refine M.Var.alloc ?_ _) | (with_reducible refine M.Var.drewN ?_ _) | (with_reducible refine M.Var.drew ?_) | (with_reducible refine M.Var.far ?_ _ _ ?h; case h => (first | omega | ((try simp [go_sem]) <;> omega))) | fail))) hb
      have q1_b_0 := V1_b.c 0 _ rfl
      have q1_b_1 := V1_b.c 1 _ rfl
      have q1_b_2 := V1_b.c 2 _ rfl
      have q1_b_3 := V1_b.c 3 _ rfl
      have q1_b_4 := V1_b.c 4 _ rfl
      have q1_b_5 := V1_b.c 5 _ rfl
      have q1_b_6 := V1_b.c 6 _ rfl
      have q1_b_7 := V1_b.c 7 _ rfl
      have f1_b := V1_b.2.2; have L1_b := V1_b.lt; have N1_b := Nat.ne_of_gt L1_b; have M1_b := Nat.ne_of_lt L1_b
      have HV1_b := Lib.hid V1_b
      have S1 := G1.size; clear hb
      go_wp2_with fail
      (with_reducible refine (K1.out _ _ (M.pcell_var (by (repeat (first | (with_reducible assumption) | (refine M.var_alloc' _ _ _ ?_; first | rfl | (simp [go_sem]; done)) | (with_reducible refine M.Var.alloc ?_ _) | (with_reducible refine M.Var.drewN ?_ _) | (with_reducible refine M.Var.drew ?_) | (with_reducible refine M.Var.far ?_ _ _ ?h; case h => (first | omega | ((try simp [go_sem]) <;> omega))) | fail)) : M.Var _ (w1.heap.size) #[.int .i64 0]))).mono ?_); rintro en w2 ⟨⟨u, v, rfl⟩, hb⟩
      have G2 : Below w.heap.size w w2 := Below.trans (M.below_sets_own ([(⟨w1.heap.size, 0, none⟩, .int .i64 i)]) (by (repeat (with_reducible refine M.Below.drewN ?_ _)); go_grown) (by intro u hu; rw [M.cell_block1 hu]; dsimp only; omega)) (hb.mono (by go_size))
      have V2_b : M.Var w2 (w.heap.size) #[.int .i64 b.shape, .int .i64 b.sx, .int .i64 b.sy, .int .i64 b.mass, .int .i64 b.px, .int .i64 b.py, .int .i64 b.mx, .int .i64 b.my] := M.Var.mono' (u := M.sets _ ([(⟨w1.heap.size, 0, none⟩, .int .i64 i)])) (by (try simp only [M.sets_append]); exact (M.var_sets_far ([(⟨w1.heap.size, 0, none⟩, .int .i64 i)]) (by (repeat (first | (with_reducible assumption) | (refine M.var_alloc' _ _ _ ?_; first | rfl | (simp [go_sem]; done)) | (with_reducible refine M.Var.alloc ?_ _) | (with_reducible refine M.Var.drewN ?_ _) | (with_reducible refine M.Var.drew ?_) | (with_reducible refine M.Var.far ?_ _ _ ?h; case h => (first | omega | ((try simp [go_sem]) <;> omega))) | fail)) : M.Var _ (w.heap.size) #[.int .i64 b.shape, .int .i64 b.sx, .int .i64 b.sy, .int .i64 b.mass, .int .i64 b.px, .int .i64 b.py, .int .i64 b.mx, .int .i64 b.my]) (by intro u hu; all_goals (first | rw [M.usBx_block hu] | rw [M.usV_block hu] | rw [M.usI_block hu] | rw [M.usHt_block hu] | rw [M.usBd_block hu] | rw [M.cell_block1 hu] | (exfalso; simp at hu; done)); all_goals ((try simp [go_sem]) <;> omega)))) (M.sets_size _ _) hb
      have V2_c : M.Var w2 (w1.heap.size) #[.int .i64 i] := M.Var.mono' (u := M.sets _ ([(⟨w1.heap.size, 0, none⟩, .int .i64 i)])) (by (try simp only [M.sets_append]); exact (M.var_setI (by (repeat (first | (with_reducible assumption) | (refine M.var_alloc' _ _ _ ?_; first | rfl | (simp [go_sem]; done)) | (with_reducible refine M.Var.alloc ?_ _) | (with_reducible refine M.Var.drewN ?_ _) | (with_reducible refine M.Var.drew ?_) | (with_reducible refine M.Var.far ?_ _ _ ?h; case h => (first | omega | ((try simp [go_sem]) <;> omega))) | fail)) : M.Var _ (w1.heap.size) #[.int .i64 0]) _)) (M.sets_size _ _) hb
      have V2_d : M.Var w2 (w1.heap.size + 1) #[.int .i64 0] := M.Var.mono' (u := M.sets _ ([(⟨w1.heap.size, 0, none⟩, .int .i64 i)])) (by (try simp only [M.sets_append]); exact (M.var_sets_far ([(⟨w1.heap.size, 0, none⟩, .int .i64 i)]) (by (repeat (first | (with_reducible assumption) | (refine M.var_alloc' _ _ _ ?_; first | rfl | (simp [go_sem]; done)) | (with_reducible refine M.Var.alloc ?_ _) | (with_reducible refine M.Var.drewN ?_ _) | (with_reducible refine M.Var.drew ?_) | (with_reducible refine M.Var.far ?_ _ _ ?h; case h => (first | omega | ((try simp [go_sem]) <;> omega))) | fail)) : M.Var _ (w1.heap.size + 1) #[.int .i64 0]) (by intro u hu; all_goals (first | rw [M.usBx_block hu] | rw [M.usV_block hu] | rw [M.usI_block hu] | rw [M.usHt_block hu] | rw [M.usBd_block hu] | rw [M.cell_block1 hu] | (exfalso; simp at hu; done)); all_goals ((try simp [go_sem]) <;> omega)))) (M.sets_size _ _) hb
      have q2_b_0 := V2_b.c 0 _ rfl
      have q2_b_1 := V2_b.c 1 _ rfl
      have q2_b_2 := V2_b.c 2 _ rfl
      have q2_b_3 := V2_b.c 3 _ rfl
      have q2_b_4 := V2_b.c 4 _ rfl
      have q2_b_5 := V2_b.c 5 _ rfl
      have q2_b_6 := V2_b.c 6 _ rfl
      have q2_b_7 := V2_b.c 7 _ rfl
      have f2_b := V2_b.2.2; have L2_b := V2_b.lt; have N2_b := Nat.ne_of_gt L2_b; have M2_b := Nat.ne_of_lt L2_b
      have HV2_b := Lib.hid V2_b
      have q2_c_0 := V2_c.c 0 _ rfl
      have f2_c := V2_c.2.2; have L2_c := V2_c.lt; have N2_c := Nat.ne_of_gt L2_c; have M2_c := Nat.ne_of_lt L2_c
      have HV2_c := Lib.hid V2_c
      have q2_d_0 := V2_d.c 0 _ rfl
      have f2_d := V2_d.2.2; have L2_d := V2_d.lt; have N2_d := Nat.ne_of_gt L2_d; have M2_d := Nat.ne_of_lt L2_d
      have HV2_d := Lib.hid V2_d
      have S2 := G2.size; clear hb
      go_wp2_with fail
      (with_reducible refine (K2.out _ _ (M.pcell_var (by (repeat (first | (with_reducible assumption) | (refine M.var_alloc' _ _ _ ?_; first | rfl | (simp [go_sem]; done)) | (with_reducible refine M.Var.alloc ?_ _) | (with_reducible refine M.Var.drewN ?_ _) | (with_reducible refine M.Var.drew ?_) | (with_reducible refine M.Var.far ?_ _ _ ?h; case h => (first | omega | ((try simp [go_sem]) <;> omega))) | fail)) : M.Var _ (w1.heap.size + 1) #[.int .i64 0]))).mono ?_); rintro en w3 ⟨⟨k, rfl⟩, hb⟩
      have G3 : Below w.heap.size w w3 := Below.trans (M.below_sets_own ([(⟨w1.heap.size + 1, 0, none⟩, .int .i64 j)]) (by (repeat (with_reducible refine M.Below.drewN ?_ _)); go_grown) (by intro u hu; rw [M.cell_block1 hu]; dsimp only; omega)) (hb.mono (by go_size))
      have V3_b : M.Var w3 (w.heap.size) #[.int .i64 b.shape, .int .i64 b.sx, .int .i64 b.sy, .int .i64 b.mass, .int .i64 b.px, .int .i64 b.py, .int .i64 b.mx, .int .i64 b.my] := M.Var.mono' (u := M.sets _ ([(⟨w1.heap.size + 1, 0, none⟩, .int .i64 j)])) (by (try simp only [M.sets_append]); exact (M.var_sets_far ([(⟨w1.heap.size + 1, 0, none⟩, .int .i64 j)]) (by (repeat (first | (with_reducible assumption) | (refine M.var_alloc' _ _ _ ?_; first | rfl | (simp [go_sem]; done)) | (with_reducible refine M.Var.alloc ?_ _) | (with_reducible refine M.Var.drewN ?_ _) | (with_reducible refine M.Var.drew ?_) | (with_reducible refine M.Var.far ?_ _ _ ?h; case h => (first | omega | ((try simp [go_sem]) <;> omega))) | fail)) : M.Var _ (w.heap.size) #[.int .i64 b.shape, .int .i64 b.sx, .int .i64 b.sy, .int .i64 b.mass, .int .i64 b.px, .int .i64 b.py, .int .i64 b.mx, .int .i64 b.my]) (by intro u hu; all_goals (first | rw [M.usBx_block hu] | rw [M.usV_block hu] | rw [M.usI_block hu] | rw [M.usHt_block hu] | rw [M.usBd_block hu] | rw [M.cell_block1 hu] | (exfalso; simp at hu; done)); all_goals ((try simp [go_sem]) <;> omega)))) (M.sets_size _ _) hb
      have V3_c : M.Var w3 (w1.heap.size) #[.int .i64 i] := M.Var.mono' (u := M.sets _ ([(⟨w1.heap.size + 1, 0, none⟩, .int .i64 j)])) (by (try simp only [M.sets_append]); exact (M.var_sets_far ([(⟨w1.heap.size + 1, 0, none⟩, .int .i64 j)]) (by (repeat (first | (with_reducible assumption) | (refine M.var_alloc' _ _ _ ?_; first | rfl | (simp [go_sem]; done)) | (with_reducible refine M.Var.alloc ?_ _) | (with_reducible refine M.Var.drewN ?_ _) | (with_reducible refine M.Var.drew ?_) | (with_reducible refine M.Var.far ?_ _ _ ?h; case h => (first | omega | ((try simp [go_sem]) <;> omega))) | fail)) : M.Var _ (w1.heap.size) #[.int .i64 i]) (by intro u hu; all_goals (first | rw [M.usBx_block hu] | rw [M.usV_block hu] | rw [M.usI_block hu] | rw [M.usHt_block hu] | rw [M.usBd_block hu] | rw [M.cell_block1 hu] | (exfalso; simp at hu; done)); all_goals ((try simp [go_sem]) <;> omega)))) (M.sets_size _ _) hb
      have V3_d : M.Var w3 (w1.heap.size + 1) #[.int .i64 j] := M.Var.mono' (u := M.sets _ ([(⟨w1.heap.size + 1, 0, none⟩, .int .i64 j)])) (by (try simp only [M.sets_append]); exact (M.var_setI (by (repeat (first | (with_reducible assumption) | (refine M.var_alloc' _ _ _ ?_; first | rfl | (simp [go_sem]; done)) | (with_reducible refine M.Var.alloc ?_ _) | (with_reducible refine M.Var.drewN ?_ _) | (with_reducible refine M.Var.drew ?_) | (with_reducible refine M.Var.far ?_ _ _ ?h; case h => (first | omega | ((try simp [go_sem]) <;> omega))) | fail)) : M.Var _ (w1.heap.size + 1) #[.int .i64 0]) _)) (M.sets_size _ _) hb
      have V3_s : M.Var w3 (w2.heap.size) #[.int .i64 u, .int .i64 v] := M.Var.mono' (u := M.sets _ ([(⟨w1.heap.size + 1, 0, none⟩, .int .i64 j)])) (by (try simp only [M.sets_append]); exact (M.var_sets_far ([(⟨w1.heap.size + 1, 0, none⟩, .int .i64 j)]) (by (repeat (first | (with_reducible assumption) | (refine M.var_alloc' _ _ _ ?_; first | rfl | (simp [go_sem]; done)) | (with_reducible refine M.Var.alloc ?_ _) | (with_reducible refine M.Var.drewN ?_ _) | (with_reducible refine M.Var.drew ?_) | (with_reducible refine M.Var.far ?_ _ _ ?h; case h => (first | omega | ((try simp [go_sem]) <;> omega))) | fail)) : M.Var _ (w2.heap.size) #[.int .i64 u, .int .i64 v]) (by intro u hu; all_goals (first | rw [M.usBx_block hu] | rw [M.usV_block hu] | rw [M.usI_block hu] | rw [M.usHt_block hu] | rw [M.usBd_block hu] | rw [M.cell_block1 hu] | (exfalso; simp at hu; done)); all_goals ((try simp [go_sem]) <;> omega)))) (M.sets_size _ _) hb
      have q3_b_0 := V3_b.c 0 _ rfl
      have q3_b_1 := V3_b.c 1 _ rfl
      have q3_b_2 := V3_b.c 2 _ rfl
      have q3_b_3 := V3_b.c 3 _ rfl
      have q3_b_4 := V3_b.c 4 _ rfl
      have q3_b_5 := V3_b.c 5 _ rfl
      have q3_b_6 := V3_b.c 6 _ rfl
      have q3_b_7 := V3_b.c 7 _ rfl
      have f3_b := V3_b.2.2; have L3_b := V3_b.lt; have N3_b := Nat.ne_of_gt L3_b; have M3_b := Nat.ne_of_lt L3_b
      have HV3_b := Lib.hid V3_b
      have q3_c_0 := V3_c.c 0 _ rfl
      have f3_c := V3_c.2.2; have L3_c := V3_c.lt; have N3_c := Nat.ne_of_gt L3_c; have M3_c := Nat.ne_of_lt L3_c
      have HV3_c := Lib.hid V3_c
      have q3_d_0 := V3_d.c 0 _ rfl
      have f3_d := V3_d.2.2; have L3_d := V3_d.lt; have N3_d := Nat.ne_of_gt L3_d; have M3_d := Nat.ne_of_lt L3_d
      have HV3_d := Lib.hid V3_d
      have q3_s_0 := V3_s.c 0 _ rfl
      have q3_s_1 := V3_s.c 1 _ rfl
      have f3_s := V3_s.2.2; have L3_s := V3_s.lt; have N3_s := Nat.ne_of_gt L3_s; have M3_s := Nat.ne_of_lt L3_s
      have HV3_s := Lib.hid V3_s
      have S3 := G3.size; clear hb
      go_wp2_with fail
      refine (try_c 58 #[.pointer (some ⟨w.heap.size, 0, none⟩), .pointer (some ⟨w3.heap.size, 0, none⟩)] _ (i) ([]) (fun _ => rfl) ?_ ?_).mono ?_
      · intro u hu; (try simp only [List.mem_append] at hu); (repeat' (obtain hu | hu := (hu : _ ∨ _))); all_goals (first | rw [M.usBx_block hu] | rw [M.usV_block hu] | rw [M.usI_block hu] | rw [M.usHt_block hu] | rw [M.usBd_block hu] | rw [M.cell_block1 hu] | (exfalso; simp at hu; done)); all_goals ((try simp [go_sem]) <;> omega)
      · intro w1' hb; exact (cloSpeed _ _ b hB _ _ (.error i) hP.out w1' (M.Var.mono (b := w.heap.size) (cs := #[.int .i64 b.shape, .int .i64 b.sx, .int .i64 b.sy, .int .i64 b.mass, .int .i64 b.px, .int .i64 b.py, .int .i64 b.mx, .int .i64 b.my]) (by (repeat (first | (with_reducible assumption) | (refine M.var_alloc' _ _ _ ?_; first | rfl | (simp [go_sem]; done)) | (with_reducible refine M.Var.alloc ?_ _) | (with_reducible refine M.Var.drewN ?_ _) | (with_reducible refine M.Var.drew ?_) | (with_reducible refine M.Var.far ?_ _ _ ?h; case h => (first | omega | ((try simp [go_sem]) <;> omega))) | fail))) hb) (M.Var.mono (b := w3.heap.size) (cs := #[.int .i64 0, .int .i64 0]) (by (repeat (first | (with_reducible assumption) | (refine M.var_alloc' _ _ _ ?_; first | rfl | (simp [go_sem]; done)) | (with_reducible refine M.Var.alloc ?_ _) | (with_reducible refine M.Var.drewN ?_ _) | (with_reducible refine M.Var.drew ?_) | (with_reducible refine M.Var.far ?_ _ _ ?h; case h => (first | omega | ((try simp [go_sem]) <;> omega))) | fail))) hb)).mono fun e w' h => h
      rintro en w4 ⟨rfl, hb⟩
      have G4 : Below w.heap.size w w4 := Below.trans (M.below_sets_own ([]) (by (repeat (with_reducible refine M.Below.drewN ?_ _)); go_grown) (by intro u hu; (try simp only [List.mem_append] at hu); (repeat' (obtain hu | hu := (hu : _ ∨ _))); all_goals (first | rw [M.usBx_block hu] | rw [M.usV_block hu] | rw [M.usI_block hu] | rw [M.usHt_block hu] | rw [M.usBd_block hu] | rw [M.cell_block1 hu] | (exfalso; simp at hu; done)); all_goals ((try simp [go_sem]) <;> omega))) (hb.mono (by go_size))
      have V4_b : M.Var w4 (w.heap.size) #[.int .i64 b.shape, .int .i64 b.sx, .int .i64 b.sy, .int .i64 b.mass, .int .i64 b.px, .int .i64 b.py, .int .i64 b.mx, .int .i64 b.my] := M.Var.mono' (u := M.sets _ ([])) (by (try simp only [M.sets_append]); exact (M.var_sets_far ([]) (by (repeat (first | (with_reducible assumption) | (refine M.var_alloc' _ _ _ ?_; first | rfl | (simp [go_sem]; done)) | (with_reducible refine M.Var.alloc ?_ _) | (with_reducible refine M.Var.drewN ?_ _) | (with_reducible refine M.Var.drew ?_) | (with_reducible refine M.Var.far ?_ _ _ ?h; case h => (first | omega | ((try simp [go_sem]) <;> omega))) | fail)) : M.Var _ (w.heap.size) #[.int .i64 b.shape, .int .i64 b.sx, .int .i64 b.sy, .int .i64 b.mass, .int .i64 b.px, .int .i64 b.py, .int .i64 b.mx, .int .i64 b.my]) (by intro u hu; all_goals (first | rw [M.usBx_block hu] | rw [M.usV_block hu] | rw [M.usI_block hu] | rw [M.usHt_block hu] | rw [M.usBd_block hu] | rw [M.cell_block1 hu] | (exfalso; simp at hu; done)); all_goals ((try simp [go_sem]) <;> omega)))) (M.sets_size _ _) hb
      have V4_c : M.Var w4 (w1.heap.size) #[.int .i64 i] := M.Var.mono' (u := M.sets _ ([])) (by (try simp only [M.sets_append]); exact (M.var_sets_far ([]) (by (repeat (first | (with_reducible assumption) | (refine M.var_alloc' _ _ _ ?_; first | rfl | (simp [go_sem]; done)) | (with_reducible refine M.Var.alloc ?_ _) | (with_reducible refine M.Var.drewN ?_ _) | (with_reducible refine M.Var.drew ?_) | (with_reducible refine M.Var.far ?_ _ _ ?h; case h => (first | omega | ((try simp [go_sem]) <;> omega))) | fail)) : M.Var _ (w1.heap.size) #[.int .i64 i]) (by intro u hu; all_goals (first | rw [M.usBx_block hu] | rw [M.usV_block hu] | rw [M.usI_block hu] | rw [M.usHt_block hu] | rw [M.usBd_block hu] | rw [M.cell_block1 hu] | (exfalso; simp at hu; done)); all_goals ((try simp [go_sem]) <;> omega)))) (M.sets_size _ _) hb
      have V4_d : M.Var w4 (w1.heap.size + 1) #[.int .i64 j] := M.Var.mono' (u := M.sets _ ([])) (by (try simp only [M.sets_append]); exact (M.var_sets_far ([]) (by (repeat (first | (with_reducible assumption) | (refine M.var_alloc' _ _ _ ?_; first | rfl | (simp [go_sem]; done)) | (with_reducible refine M.Var.alloc ?_ _) | (with_reducible refine M.Var.drewN ?_ _) | (with_reducible refine M.Var.drew ?_) | (with_reducible refine M.Var.far ?_ _ _ ?h; case h => (first | omega | ((try simp [go_sem]) <;> omega))) | fail)) : M.Var _ (w1.heap.size + 1) #[.int .i64 j]) (by intro u hu; all_goals (first | rw [M.usBx_block hu] | rw [M.usV_block hu] | rw [M.usI_block hu] | rw [M.usHt_block hu] | rw [M.usBd_block hu] | rw [M.cell_block1 hu] | (exfalso; simp at hu; done)); all_goals ((try simp [go_sem]) <;> omega)))) (M.sets_size _ _) hb
      have V4_s : M.Var w4 (w2.heap.size) #[.int .i64 u, .int .i64 v] := M.Var.mono' (u := M.sets _ ([])) (by (try simp only [M.sets_append]); exact (M.var_sets_far ([]) (by (repeat (first | (with_reducible assumption) | (refine M.var_alloc' _ _ _ ?_; first | rfl | (simp [go_sem]; done)) | (with_reducible refine M.Var.alloc ?_ _) | (with_reducible refine M.Var.drewN ?_ _) | (with_reducible refine M.Var.drew ?_) | (with_reducible refine M.Var.far ?_ _ _ ?h; case h => (first | omega | ((try simp [go_sem]) <;> omega))) | fail)) : M.Var _ (w2.heap.size) #[.int .i64 u, .int .i64 v]) (by intro u hu; all_goals (first | rw [M.usBx_block hu] | rw [M.usV_block hu] | rw [M.usI_block hu] | rw [M.usHt_block hu] | rw [M.usBd_block hu] | rw [M.cell_block1 hu] | (exfalso; simp at hu; done)); all_goals ((try simp [go_sem]) <;> omega)))) (M.sets_size _ _) hb
      have V4_o : M.Var w4 (w3.heap.size) #[.int .i64 0, .int .i64 0] := M.Var.mono' (u := M.sets _ ([])) (by (try simp only [M.sets_append]); exact (M.var_sets_far ([]) (by (repeat (first | (with_reducible assumption) | (refine M.var_alloc' _ _ _ ?_; first | rfl | (simp [go_sem]; done)) | (with_reducible refine M.Var.alloc ?_ _) | (with_reducible refine M.Var.drewN ?_ _) | (with_reducible refine M.Var.drew ?_) | (with_reducible refine M.Var.far ?_ _ _ ?h; case h => (first | omega | ((try simp [go_sem]) <;> omega))) | fail)) : M.Var _ (w3.heap.size) #[.int .i64 0, .int .i64 0]) (by intro u hu; all_goals (first | rw [M.usBx_block hu] | rw [M.usV_block hu] | rw [M.usI_block hu] | rw [M.usHt_block hu] | rw [M.usBd_block hu] | rw [M.cell_block1 hu] | (exfalso; simp at hu; done)); all_goals ((try simp [go_sem]) <;> omega)))) (M.sets_size _ _) hb
      have V4_m : M.Var w4 (w3.heap.size + 1) #[.int .i64 0] := M.Var.mono' (u := M.sets _ ([])) (by (try simp only [M.sets_append]); exact (M.var_sets_far ([]) (by (repeat (first | (with_reducible assumption) | (refine M.var_alloc' _ _ _ ?_; first | rfl | (simp [go_sem]; done)) | (with_reducible refine M.Var.alloc ?_ _) | (with_reducible refine M.Var.drewN ?_ _) | (with_reducible refine M.Var.drew ?_) | (with_reducible refine M.Var.far ?_ _ _ ?h; case h => (first | omega | ((try simp [go_sem]) <;> omega))) | fail)) : M.Var _ (w3.heap.size + 1) #[.int .i64 0]) (by intro u hu; all_goals (first | rw [M.usBx_block hu] | rw [M.usV_block hu] | rw [M.usI_block hu] | rw [M.usHt_block hu] | rw [M.usBd_block hu] | rw [M.cell_block1 hu] | (exfalso; simp at hu; done)); all_goals ((try simp [go_sem]) <;> omega)))) (M.sets_size _ _) hb
      have q4_b_0 := V4_b.c 0 _ rfl
      have q4_b_1 := V4_b.c 1 _ rfl
      have q4_b_2 := V4_b.c 2 _ rfl
      have q4_b_3 := V4_b.c 3 _ rfl
      have q4_b_4 := V4_b.c 4 _ rfl
      have q4_b_5 := V4_b.c 5 _ rfl
      have q4_b_6 := V4_b.c 6 _ rfl
      have q4_b_7 := V4_b.c 7 _ rfl
      have f4_b := V4_b.2.2; have L4_b := V4_b.lt; have N4_b := Nat.ne_of_gt L4_b; have M4_b := Nat.ne_of_lt L4_b
      have HV4_b := Lib.hid V4_b
      have q4_c_0 := V4_c.c 0 _ rfl
      have f4_c := V4_c.2.2; have L4_c := V4_c.lt; have N4_c := Nat.ne_of_gt L4_c; have M4_c := Nat.ne_of_lt L4_c
      have HV4_c := Lib.hid V4_c
      have q4_d_0 := V4_d.c 0 _ rfl
      have f4_d := V4_d.2.2; have L4_d := V4_d.lt; have N4_d := Nat.ne_of_gt L4_d; have M4_d := Nat.ne_of_lt L4_d
      have HV4_d := Lib.hid V4_d
      have q4_s_0 := V4_s.c 0 _ rfl
      have q4_s_1 := V4_s.c 1 _ rfl
      have f4_s := V4_s.2.2; have L4_s := V4_s.lt; have N4_s := Nat.ne_of_gt L4_s; have M4_s := Nat.ne_of_lt L4_s
      have HV4_s := Lib.hid V4_s
      have q4_o_0 := V4_o.c 0 _ rfl
      have q4_o_1 := V4_o.c 1 _ rfl
      have f4_o := V4_o.2.2; have L4_o := V4_o.lt; have N4_o := Nat.ne_of_gt L4_o; have M4_o := Nat.ne_of_lt L4_o
      have HV4_o := Lib.hid V4_o
      have q4_m_0 := V4_m.c 0 _ rfl
      have f4_m := V4_m.2.2; have L4_m := V4_m.lt; have N4_m := Nat.ne_of_gt L4_m; have M4_m := Nat.ne_of_lt L4_m
      have HV4_m := Lib.hid V4_m
      have S4 := G4.size; clear hb
      go_wp2_with fail
      refine (try_c 60 #[.pointer (some ⟨w.heap.size, 0, none⟩), .pointer (some ⟨w3.heap.size + 1, 0, none⟩)] _ (j) ([]) (fun _ => rfl) ?_ ?_).mono ?_
      · intro u hu; (try simp only [List.mem_append] at hu); (repeat' (obtain hu | hu := (hu : _ ∨ _))); all_goals (first | rw [M.usBx_block hu] | rw [M.usV_block hu] | rw [M.usI_block hu] | rw [M.usHt_block hu] | rw [M.usBd_block hu] | rw [M.cell_block1 hu] | (exfalso; simp at hu; done)); all_goals ((try simp [go_sem]) <;> omega)
      · intro w1' hb; exact (cloLight _ _ b hB _ (.error j) hR.out w1' (M.Var.mono (b := w.heap.size) (cs := #[.int .i64 b.shape, .int .i64 b.sx, .int .i64 b.sy, .int .i64 b.mass, .int .i64 b.px, .int .i64 b.py, .int .i64 b.mx, .int .i64 b.my]) (by (repeat (first | (with_reducible assumption) | (refine M.var_alloc' _ _ _ ?_; first | rfl | (simp [go_sem]; done)) | (with_reducible refine M.Var.alloc ?_ _) | (with_reducible refine M.Var.drewN ?_ _) | (with_reducible refine M.Var.drew ?_) | (with_reducible refine M.Var.far ?_ _ _ ?h; case h => (first | omega | ((try simp [go_sem]) <;> omega))) | fail))) hb) (M.Var.mono (b := w3.heap.size + 1) (cs := #[.int .i64 0]) (by (repeat (first | (with_reducible assumption) | (refine M.var_alloc' _ _ _ ?_; first | rfl | (simp [go_sem]; done)) | (with_reducible refine M.Var.alloc ?_ _) | (with_reducible refine M.Var.drewN ?_ _) | (with_reducible refine M.Var.drew ?_) | (with_reducible refine M.Var.far ?_ _ _ ?h; case h => (first | omega | ((try simp [go_sem]) <;> omega))) | fail))) hb)).mono fun e w' h => h
      rintro en w5 ⟨rfl, hb⟩
      have G5 : Below w.heap.size w w5 := Below.trans (M.below_sets_own ([]) (by (repeat (with_reducible refine M.Below.drewN ?_ _)); go_grown) (by intro u hu; (try simp only [List.mem_append] at hu); (repeat' (obtain hu | hu := (hu : _ ∨ _))); all_goals (first | rw [M.usBx_block hu] | rw [M.usV_block hu] | rw [M.usI_block hu] | rw [M.usHt_block hu] | rw [M.usBd_block hu] | rw [M.cell_block1 hu] | (exfalso; simp at hu; done)); all_goals ((try simp [go_sem]) <;> omega))) (hb.mono (by go_size))
      have V5_b : M.Var w5 (w.heap.size) #[.int .i64 b.shape, .int .i64 b.sx, .int .i64 b.sy, .int .i64 b.mass, .int .i64 b.px, .int .i64 b.py, .int .i64 b.mx, .int .i64 b.my] := M.Var.mono' (u := M.sets _ ([])) (by (try simp only [M.sets_append]); exact (M.var_sets_far ([]) (by (repeat (first | (with_reducible assumption) | (refine M.var_alloc' _ _ _ ?_; first | rfl | (simp [go_sem]; done)) | (with_reducible refine M.Var.alloc ?_ _) | (with_reducible refine M.Var.drewN ?_ _) | (with_reducible refine M.Var.drew ?_) | (with_reducible refine M.Var.far ?_ _ _ ?h; case h => (first | omega | ((try simp [go_sem]) <;> omega))) | fail)) : M.Var _ (w.heap.size) #[.int .i64 b.shape, .int .i64 b.sx, .int .i64 b.sy, .int .i64 b.mass, .int .i64 b.px, .int .i64 b.py, .int .i64 b.mx, .int .i64 b.my]) (by intro u hu; all_goals (first | rw [M.usBx_block hu] | rw [M.usV_block hu] | rw [M.usI_block hu] | rw [M.usHt_block hu] | rw [M.usBd_block hu] | rw [M.cell_block1 hu] | (exfalso; simp at hu; done)); all_goals ((try simp [go_sem]) <;> omega)))) (M.sets_size _ _) hb
      have V5_c : M.Var w5 (w1.heap.size) #[.int .i64 i] := M.Var.mono' (u := M.sets _ ([])) (by (try simp only [M.sets_append]); exact (M.var_sets_far ([]) (by (repeat (first | (with_reducible assumption) | (refine M.var_alloc' _ _ _ ?_; first | rfl | (simp [go_sem]; done)) | (with_reducible refine M.Var.alloc ?_ _) | (with_reducible refine M.Var.drewN ?_ _) | (with_reducible refine M.Var.drew ?_) | (with_reducible refine M.Var.far ?_ _ _ ?h; case h => (first | omega | ((try simp [go_sem]) <;> omega))) | fail)) : M.Var _ (w1.heap.size) #[.int .i64 i]) (by intro u hu; all_goals (first | rw [M.usBx_block hu] | rw [M.usV_block hu] | rw [M.usI_block hu] | rw [M.usHt_block hu] | rw [M.usBd_block hu] | rw [M.cell_block1 hu] | (exfalso; simp at hu; done)); all_goals ((try simp [go_sem]) <;> omega)))) (M.sets_size _ _) hb
      have V5_d : M.Var w5 (w1.heap.size + 1) #[.int .i64 j] := M.Var.mono' (u := M.sets _ ([])) (by (try simp only [M.sets_append]); exact (M.var_sets_far ([]) (by (repeat (first | (with_reducible assumption) | (refine M.var_alloc' _ _ _ ?_; first | rfl | (simp [go_sem]; done)) | (with_reducible refine M.Var.alloc ?_ _) | (with_reducible refine M.Var.drewN ?_ _) | (with_reducible refine M.Var.drew ?_) | (with_reducible refine M.Var.far ?_ _ _ ?h; case h => (first | omega | ((try simp [go_sem]) <;> omega))) | fail)) : M.Var _ (w1.heap.size + 1) #[.int .i64 j]) (by intro u hu; all_goals (first | rw [M.usBx_block hu] | rw [M.usV_block hu] | rw [M.usI_block hu] | rw [M.usHt_block hu] | rw [M.usBd_block hu] | rw [M.cell_block1 hu] | (exfalso; simp at hu; done)); all_goals ((try simp [go_sem]) <;> omega)))) (M.sets_size _ _) hb
      have V5_s : M.Var w5 (w2.heap.size) #[.int .i64 u, .int .i64 v] := M.Var.mono' (u := M.sets _ ([])) (by (try simp only [M.sets_append]); exact (M.var_sets_far ([]) (by (repeat (first | (with_reducible assumption) | (refine M.var_alloc' _ _ _ ?_; first | rfl | (simp [go_sem]; done)) | (with_reducible refine M.Var.alloc ?_ _) | (with_reducible refine M.Var.drewN ?_ _) | (with_reducible refine M.Var.drew ?_) | (with_reducible refine M.Var.far ?_ _ _ ?h; case h => (first | omega | ((try simp [go_sem]) <;> omega))) | fail)) : M.Var _ (w2.heap.size) #[.int .i64 u, .int .i64 v]) (by intro u hu; all_goals (first | rw [M.usBx_block hu] | rw [M.usV_block hu] | rw [M.usI_block hu] | rw [M.usHt_block hu] | rw [M.usBd_block hu] | rw [M.cell_block1 hu] | (exfalso; simp at hu; done)); all_goals ((try simp [go_sem]) <;> omega)))) (M.sets_size _ _) hb
      have V5_o : M.Var w5 (w3.heap.size) #[.int .i64 0, .int .i64 0] := M.Var.mono' (u := M.sets _ ([])) (by (try simp only [M.sets_append]); exact (M.var_sets_far ([]) (by (repeat (first | (with_reducible assumption) | (refine M.var_alloc' _ _ _ ?_; first | rfl | (simp [go_sem]; done)) | (with_reducible refine M.Var.alloc ?_ _) | (with_reducible refine M.Var.drewN ?_ _) | (with_reducible refine M.Var.drew ?_) | (with_reducible refine M.Var.far ?_ _ _ ?h; case h => (first | omega | ((try simp [go_sem]) <;> omega))) | fail)) : M.Var _ (w3.heap.size) #[.int .i64 0, .int .i64 0]) (by intro u hu; all_goals (first | rw [M.usBx_block hu] | rw [M.usV_block hu] | rw [M.usI_block hu] | rw [M.usHt_block hu] | rw [M.usBd_block hu] | rw [M.cell_block1 hu] | (exfalso; simp at hu; done)); all_goals ((try simp [go_sem]) <;> omega)))) (M.sets_size _ _) hb
      have V5_m : M.Var w5 (w3.heap.size + 1) #[.int .i64 0] := M.Var.mono' (u := M.sets _ ([])) (by (try simp only [M.sets_append]); exact (M.var_sets_far ([]) (by (repeat (first | (with_reducible assumption) | (refine M.var_alloc' _ _ _ ?_; first | rfl | (simp [go_sem]; done)) | (with_reducible refine M.Var.alloc ?_ _) | (with_reducible refine M.Var.drewN ?_ _) | (with_reducible refine M.Var.drew ?_) | (with_reducible refine M.Var.far ?_ _ _ ?h; case h => (first | omega | ((try simp [go_sem]) <;> omega))) | fail)) : M.Var _ (w3.heap.size + 1) #[.int .i64 0]) (by intro u hu; all_goals (first | rw [M.usBx_block hu] | rw [M.usV_block hu] | rw [M.usI_block hu] | rw [M.usHt_block hu] | rw [M.usBd_block hu] | rw [M.cell_block1 hu] | (exfalso; simp at hu; done)); all_goals ((try simp [go_sem]) <;> omega)))) (M.sets_size _ _) hb
      have q5_b_0 := V5_b.c 0 _ rfl
      have q5_b_1 := V5_b.c 1 _ rfl
      have q5_b_2 := V5_b.c 2 _ rfl
      have q5_b_3 := V5_b.c 3 _ rfl
      have q5_b_4 := V5_b.c 4 _ rfl
      have q5_b_5 := V5_b.c 5 _ rfl
      have q5_b_6 := V5_b.c 6 _ rfl
      have q5_b_7 := V5_b.c 7 _ rfl
      have f5_b := V5_b.2.2; have L5_b := V5_b.lt; have N5_b := Nat.ne_of_gt L5_b; have M5_b := Nat.ne_of_lt L5_b
      have HV5_b := Lib.hid V5_b
      have q5_c_0 := V5_c.c 0 _ rfl
      have f5_c := V5_c.2.2; have L5_c := V5_c.lt; have N5_c := Nat.ne_of_gt L5_c; have M5_c := Nat.ne_of_lt L5_c
      have HV5_c := Lib.hid V5_c
      have q5_d_0 := V5_d.c 0 _ rfl
      have f5_d := V5_d.2.2; have L5_d := V5_d.lt; have N5_d := Nat.ne_of_gt L5_d; have M5_d := Nat.ne_of_lt L5_d
      have HV5_d := Lib.hid V5_d
      have q5_s_0 := V5_s.c 0 _ rfl
      have q5_s_1 := V5_s.c 1 _ rfl
      have f5_s := V5_s.2.2; have L5_s := V5_s.lt; have N5_s := Nat.ne_of_gt L5_s; have M5_s := Nat.ne_of_lt L5_s
      have HV5_s := Lib.hid V5_s
      have q5_o_0 := V5_o.c 0 _ rfl
      have q5_o_1 := V5_o.c 1 _ rfl
      have f5_o := V5_o.2.2; have L5_o := V5_o.lt; have N5_o := Nat.ne_of_gt L5_o; have M5_o := Nat.ne_of_lt L5_o
      have HV5_o := Lib.hid V5_o
      have q5_m_0 := V5_m.c 0 _ rfl
      have f5_m := V5_m.2.2; have L5_m := V5_m.lt; have N5_m := Nat.ne_of_gt L5_m; have M5_m := Nat.ne_of_lt L5_m
      have HV5_m := Lib.hid V5_m
      have S5 := G5.size; clear hb
      go_wp2_with fail
      refine M.wp_region_later (fun w' => M.Var w' (w.heap.size) #[.int .i64 b.shape, .int .i64 b.sx, .int .i64 b.sy, .int .i64 b.mass, .int .i64 b.px, .int .i64 b.py, .int .i64 b.mx, .int .i64 b.my] ∧ M.Var w' (w1.heap.size) #[.int .i64 i] ∧ M.Var w' (w1.heap.size + 1) #[.int .i64 j] ∧ M.Var w' (w2.heap.size) #[.int .i64 u, .int .i64 v] ∧ M.Var w' (w3.heap.size) #[.int .i64 0, .int .i64 0] ∧ M.Var w' (w3.heap.size + 1) #[.int .i64 0] ∧ True) (by kernel_rfl) (by kernel_rfl) (fun w' hb => ⟨M.Var.mono (by (repeat (first | (with_reducible assumption) | (refine M.var_alloc' _ _ _ ?_; first | rfl | (simp [go_sem]; done)) | (with_reducible refine M.Var.alloc ?_ _) | (with_reducible refine M.Var.drewN ?_ _) | (with_reducible refine M.Var.drew ?_) | (with_reducible refine M.Var.far ?_ _ _ ?h; case h => (first | omega | ((try simp [go_sem]) <;> omega))) | fail)) : M.Var _ (w.heap.size) #[.int .i64 b.shape, .int .i64 b.sx, .int .i64 b.sy, .int .i64 b.mass, .int .i64 b.px, .int .i64 b.py, .int .i64 b.mx, .int .i64 b.my]) hb, M.Var.mono (by (repeat (first | (with_reducible assumption) | (refine M.var_alloc' _ _ _ ?_; first | rfl | (simp [go_sem]; done)) | (with_reducible refine M.Var.alloc ?_ _) | (with_reducible refine M.Var.drewN ?_ _) | (with_reducible refine M.Var.drew ?_) | (with_reducible refine M.Var.far ?_ _ _ ?h; case h => (first | omega | ((try simp [go_sem]) <;> omega))) | fail)) : M.Var _ (w1.heap.size) #[.int .i64 i]) hb, M.Var.mono (by (repeat (first | (with_reducible assumption) | (refine M.var_alloc' _ _ _ ?_; first | rfl | (simp [go_sem]; done)) | (with_reducible refine M.Var.alloc ?_ _) | (with_reducible refine M.Var.drewN ?_ _) | (with_reducible refine M.Var.drew ?_) | (with_reducible refine M.Var.far ?_ _ _ ?h; case h => (first | omega | ((try simp [go_sem]) <;> omega))) | fail)) : M.Var _ (w1.heap.size + 1) #[.int .i64 j]) hb, M.Var.mono (by (repeat (first | (with_reducible assumption) | (refine M.var_alloc' _ _ _ ?_; first | rfl | (simp [go_sem]; done)) | (with_reducible refine M.Var.alloc ?_ _) | (with_reducible refine M.Var.drewN ?_ _) | (with_reducible refine M.Var.drew ?_) | (with_reducible refine M.Var.far ?_ _ _ ?h; case h => (first | omega | ((try simp [go_sem]) <;> omega))) | fail)) : M.Var _ (w2.heap.size) #[.int .i64 u, .int .i64 v]) hb, M.Var.mono (by (repeat (first | (with_reducible assumption) | (refine M.var_alloc' _ _ _ ?_; first | rfl | (simp [go_sem]; done)) | (with_reducible refine M.Var.alloc ?_ _) | (with_reducible refine M.Var.drewN ?_ _) | (with_reducible refine M.Var.drew ?_) | (with_reducible refine M.Var.far ?_ _ _ ?h; case h => (first | omega | ((try simp [go_sem]) <;> omega))) | fail)) : M.Var _ (w3.heap.size) #[.int .i64 0, .int .i64 0]) hb, M.Var.mono (by (repeat (first | (with_reducible assumption) | (refine M.var_alloc' _ _ _ ?_; first | rfl | (simp [go_sem]; done)) | (with_reducible refine M.Var.alloc ?_ _) | (with_reducible refine M.Var.drewN ?_ _) | (with_reducible refine M.Var.drew ?_) | (with_reducible refine M.Var.far ?_ _ _ ?h; case h => (first | omega | ((try simp [go_sem]) <;> omega))) | fail)) : M.Var _ (w3.heap.size + 1) #[.int .i64 0]) hb, trivial⟩) ?_
      intro hS
      have z6_b_0 := fun p => (hS p).1.c 0 _ rfl
      have z6_b_1 := fun p => (hS p).1.c 1 _ rfl
      have z6_b_2 := fun p => (hS p).1.c 2 _ rfl
      have z6_b_3 := fun p => (hS p).1.c 3 _ rfl
      have z6_b_4 := fun p => (hS p).1.c 4 _ rfl
      have z6_b_5 := fun p => (hS p).1.c 5 _ rfl
      have z6_b_6 := fun p => (hS p).1.c 6 _ rfl
      have z6_b_7 := fun p => (hS p).1.c 7 _ rfl
      have z6_c_0 := fun p => (hS p).2.1.c 0 _ rfl
      have z6_d_0 := fun p => (hS p).2.2.1.c 0 _ rfl
      have z6_s_0 := fun p => (hS p).2.2.2.1.c 0 _ rfl
      have z6_s_1 := fun p => (hS p).2.2.2.1.c 1 _ rfl
      have z6_o_0 := fun p => (hS p).2.2.2.2.1.c 0 _ rfl
      have z6_o_1 := fun p => (hS p).2.2.2.2.1.c 1 _ rfl
      have z6_m_0 := fun p => (hS p).2.2.2.2.2.1.c 0 _ rfl
      have HS := Lib.hid hS; clear hS
      repeat (go_big_quiet_step ((first
            | (go_at_call 62; with_reducible exact M.later_of (C1.out _))
            | (go_at_call 45; with_reducible exact M.later_of (C2.out _))
            | (go_at_call 63; with_reducible exact M.later_of_dr (C3.out _))
        )))
      refine wpQuiet_nil ?_
      intro w6 hw'
      obtain ⟨pL, hL⟩ := hw'
      have hb := pL.h; rw [← hL] at hb; clear hL pL
      have G6 : Below w.heap.size w w6 := Below.trans (by (repeat (with_reducible refine M.Below.drewN ?_ _)); go_grown) (hb.mono (by go_size))
      have V6_b : M.Var w6 (w.heap.size) #[.int .i64 b.shape, .int .i64 b.sx, .int .i64 b.sy, .int .i64 b.mass, .int .i64 b.px, .int .i64 b.py, .int .i64 b.mx, .int .i64 b.my] := M.Var.mono (by (repeat (first | (with_reducible assumption) | (refine M.var_alloc' _ _ _ ?_; first | rfl | (simp [go_sem]; done)) | (with_reducible refine M.Var.alloc ?_ _) | (with_reducible refine M.Var.drewN ?_ _) | (with_reducible refine M.Var.drew ?_) | (with_reducible refine M.Var.far ?_ _ _ ?h; case h => (first | omega | ((try simp [go_sem]) <;> omega))) | fail))) hb
      have V6_c : M.Var w6 (w1.heap.size) #[.int .i64 i] := M.Var.mono (by (repeat (first | (with_reducible assumption) | (refine M.var_alloc' _ _ _ ?_; first | rfl | (simp [go_sem]; done)) | (with_reducible refine M.Var.alloc ?_ _) | (with_reducible refine M.Var.drewN ?_ _) | (with_reducible refine M.Var.drew ?_) | (with_reducible refine M.Var.far ?_ _ _ ?h; case h => (first | omega | ((try simp [go_sem]) <;> omega))) | fail))) hb
      have V6_d : M.Var w6 (w1.heap.size + 1) #[.int .i64 j] := M.Var.mono (by (repeat (first | (with_reducible assumption) | (refine M.var_alloc' _ _ _ ?_; first | rfl | (simp [go_sem]; done)) | (with_reducible refine M.Var.alloc ?_ _) | (with_reducible refine M.Var.drewN ?_ _) | (with_reducible refine M.Var.drew ?_) | (with_reducible refine M.Var.far ?_ _ _ ?h; case h => (first | omega | ((try simp [go_sem]) <;> omega))) | fail))) hb
      have V6_s : M.Var w6 (w2.heap.size) #[.int .i64 u, .int .i64 v] := M.Var.mono (by (repeat (first | (with_reducible assumption) | (refine M.var_alloc' _ _ _ ?_; first | rfl | (simp [go_sem]; done)) | (with_reducible refine M.Var.alloc ?_ _) | (with_reducible refine M.Var.drewN ?_ _) | (with_reducible refine M.Var.drew ?_) | (with_reducible refine M.Var.far ?_ _ _ ?h; case h => (first | omega | ((try simp [go_sem]) <;> omega))) | fail))) hb
      have V6_o : M.Var w6 (w3.heap.size) #[.int .i64 0, .int .i64 0] := M.Var.mono (by (repeat (first | (with_reducible assumption) | (refine M.var_alloc' _ _ _ ?_; first | rfl | (simp [go_sem]; done)) | (with_reducible refine M.Var.alloc ?_ _) | (with_reducible refine M.Var.drewN ?_ _) | (with_reducible refine M.Var.drew ?_) | (with_reducible refine M.Var.far ?_ _ _ ?h; case h => (first | omega | ((try simp [go_sem]) <;> omega))) | fail))) hb
      have V6_m : M.Var w6 (w3.heap.size + 1) #[.int .i64 0] := M.Var.mono (by (repeat (first | (with_reducible assumption) | (refine M.var_alloc' _ _ _ ?_; first | rfl | (simp [go_sem]; done)) | (with_reducible refine M.Var.alloc ?_ _) | (with_reducible refine M.Var.drewN ?_ _) | (with_reducible refine M.Var.drew ?_) | (with_reducible refine M.Var.far ?_ _ _ ?h; case h => (first | omega | ((try simp [go_sem]) <;> omega))) | fail))) hb
      have q6_b_0 := V6_b.c 0 _ rfl
      have q6_b_1 := V6_b.c 1 _ rfl
      have q6_b_2 := V6_b.c 2 _ rfl
      have q6_b_3 := V6_b.c 3 _ rfl
      have q6_b_4 := V6_b.c 4 _ rfl
      have q6_b_5 := V6_b.c 5 _ rfl
      have q6_b_6 := V6_b.c 6 _ rfl
      have q6_b_7 := V6_b.c 7 _ rfl
      have f6_b := V6_b.2.2; have L6_b := V6_b.lt; have N6_b := Nat.ne_of_gt L6_b; have M6_b := Nat.ne_of_lt L6_b
      have HV6_b := Lib.hid V6_b
      have q6_c_0 := V6_c.c 0 _ rfl
      have f6_c := V6_c.2.2; have L6_c := V6_c.lt; have N6_c := Nat.ne_of_gt L6_c; have M6_c := Nat.ne_of_lt L6_c
      have HV6_c := Lib.hid V6_c
      have q6_d_0 := V6_d.c 0 _ rfl
      have f6_d := V6_d.2.2; have L6_d := V6_d.lt; have N6_d := Nat.ne_of_gt L6_d; have M6_d := Nat.ne_of_lt L6_d
      have HV6_d := Lib.hid V6_d
      have q6_s_0 := V6_s.c 0 _ rfl
      have q6_s_1 := V6_s.c 1 _ rfl
      have f6_s := V6_s.2.2; have L6_s := V6_s.lt; have N6_s := Nat.ne_of_gt L6_s; have M6_s := Nat.ne_of_lt L6_s
      have HV6_s := Lib.hid V6_s
      have q6_o_0 := V6_o.c 0 _ rfl
      have q6_o_1 := V6_o.c 1 _ rfl
      have f6_o := V6_o.2.2; have L6_o := V6_o.lt; have N6_o := Nat.ne_of_gt L6_o; have M6_o := Nat.ne_of_lt L6_o
      have HV6_o := Lib.hid V6_o
      have q6_m_0 := V6_m.c 0 _ rfl
      have f6_m := V6_m.2.2; have L6_m := V6_m.lt; have N6_m := Nat.ne_of_gt L6_m; have M6_m := Nat.ne_of_lt L6_m
      have HV6_m := Lib.hid V6_m
      have S6 := G6.size; clear hb
      clear z6_b_0 z6_b_1 z6_b_2 z6_b_3 z6_b_4 z6_b_5 z6_b_6 z6_b_7 z6_c_0 z6_d_0 z6_s_0 z6_s_1 z6_o_0 z6_o_1 z6_m_0 HS
      go_wp2_with fail
      go_ret
      exact ⟨rfl, by (repeat (with_reducible refine M.Below.drewN ?_ _)); go_grown⟩
    · rw [show nameS 2 = ⟨#[99, 114, 97, 116, 101]⟩ from rfl] at c3
      have C3 := Lib.hid c3
      clear c3
      go_enter Try.func8, Try.ntmps8
      go_wp2_with fail
      (with_reducible refine (c0.out _).mono ?_); rintro en w1 ⟨rfl, hb⟩
      have G1 : Below w.heap.size w w1 := Below.trans (by (repeat (with_reducible refine M.Below.drewN ?_ _)); go_grown) (hb.mono (by go_size))
      have V1_b : M.Var w1 (w.heap.size) #[.int .i64 b.shape, .int .i64 b.sx, .int .i64 b.sy, .int .i64 b.mass, .int .i64 b.px, .int .i64 b.py, .int .i64 b.mx, .int .i64 b.my] := M.Var.mono (by (repeat (first | (with_reducible assumption) | (refine M.var_alloc' _ _ _ ?_; first | rfl | (simp [go_sem]; done)) | (with_reducible refine M.Var.alloc ?_ _) | (with_reducible refine M.Var.drewN ?_ _) | (with_reducible refine M.Var.drew ?_) | (with_reducible refine M.Var.far ?_ _ _ ?h; case h => (first | omega | ((try simp [go_sem]) <;> omega))) | fail))) hb
      have q1_b_0 := V1_b.c 0 _ rfl
      have q1_b_1 := V1_b.c 1 _ rfl
      have q1_b_2 := V1_b.c 2 _ rfl
      have q1_b_3 := V1_b.c 3 _ rfl
      have q1_b_4 := V1_b.c 4 _ rfl
      have q1_b_5 := V1_b.c 5 _ rfl
      have q1_b_6 := V1_b.c 6 _ rfl
      have q1_b_7 := V1_b.c 7 _ rfl
      have f1_b := V1_b.2.2; have L1_b := V1_b.lt; have N1_b := Nat.ne_of_gt L1_b; have M1_b := Nat.ne_of_lt L1_b
      have HV1_b := Lib.hid V1_b
      have S1 := G1.size; clear hb
      go_wp2_with fail
      (with_reducible refine (K1.out _ _ (M.pcell_var (by (repeat (first | (with_reducible assumption) | (refine M.var_alloc' _ _ _ ?_; first | rfl | (simp [go_sem]; done)) | (with_reducible refine M.Var.alloc ?_ _) | (with_reducible refine M.Var.drewN ?_ _) | (with_reducible refine M.Var.drew ?_) | (with_reducible refine M.Var.far ?_ _ _ ?h; case h => (first | omega | ((try simp [go_sem]) <;> omega))) | fail)) : M.Var _ (w1.heap.size) #[.int .i64 0]))).mono ?_); rintro en w2 ⟨⟨u, v, rfl⟩, hb⟩
      have G2 : Below w.heap.size w w2 := Below.trans (M.below_sets_own ([(⟨w1.heap.size, 0, none⟩, .int .i64 i)]) (by (repeat (with_reducible refine M.Below.drewN ?_ _)); go_grown) (by intro u hu; rw [M.cell_block1 hu]; dsimp only; omega)) (hb.mono (by go_size))
      have V2_b : M.Var w2 (w.heap.size) #[.int .i64 b.shape, .int .i64 b.sx, .int .i64 b.sy, .int .i64 b.mass, .int .i64 b.px, .int .i64 b.py, .int .i64 b.mx, .int .i64 b.my] := M.Var.mono' (u := M.sets _ ([(⟨w1.heap.size, 0, none⟩, .int .i64 i)])) (by (try simp only [M.sets_append]); exact (M.var_sets_far ([(⟨w1.heap.size, 0, none⟩, .int .i64 i)]) (by (repeat (first | (with_reducible assumption) | (refine M.var_alloc' _ _ _ ?_; first | rfl | (simp [go_sem]; done)) | (with_reducible refine M.Var.alloc ?_ _) | (with_reducible refine M.Var.drewN ?_ _) | (with_reducible refine M.Var.drew ?_) | (with_reducible refine M.Var.far ?_ _ _ ?h; case h => (first | omega | ((try simp [go_sem]) <;> omega))) | fail)) : M.Var _ (w.heap.size) #[.int .i64 b.shape, .int .i64 b.sx, .int .i64 b.sy, .int .i64 b.mass, .int .i64 b.px, .int .i64 b.py, .int .i64 b.mx, .int .i64 b.my]) (by intro u hu; all_goals (first | rw [M.usBx_block hu] | rw [M.usV_block hu] | rw [M.usI_block hu] | rw [M.usHt_block hu] | rw [M.usBd_block hu] | rw [M.cell_block1 hu] | (exfalso; simp at hu; done)); all_goals ((try simp [go_sem]) <;> omega)))) (M.sets_size _ _) hb
      have V2_c : M.Var w2 (w1.heap.size) #[.int .i64 i] := M.Var.mono' (u := M.sets _ ([(⟨w1.heap.size, 0, none⟩, .int .i64 i)])) (by (try simp only [M.sets_append]); exact (M.var_setI (by (repeat (first | (with_reducible assumption) | (refine M.var_alloc' _ _ _ ?_; first | rfl | (simp [go_sem]; done)) | (with_reducible refine M.Var.alloc ?_ _) | (with_reducible refine M.Var.drewN ?_ _) | (with_reducible refine M.Var.drew ?_) | (with_reducible refine M.Var.far ?_ _ _ ?h; case h => (first | omega | ((try simp [go_sem]) <;> omega))) | fail)) : M.Var _ (w1.heap.size) #[.int .i64 0]) _)) (M.sets_size _ _) hb
      have V2_d : M.Var w2 (w1.heap.size + 1) #[.int .i64 0] := M.Var.mono' (u := M.sets _ ([(⟨w1.heap.size, 0, none⟩, .int .i64 i)])) (by (try simp only [M.sets_append]); exact (M.var_sets_far ([(⟨w1.heap.size, 0, none⟩, .int .i64 i)]) (by (repeat (first | (with_reducible assumption) | (refine M.var_alloc' _ _ _ ?_; first | rfl | (simp [go_sem]; done)) | (with_reducible refine M.Var.alloc ?_ _) | (with_reducible refine M.Var.drewN ?_ _) | (with_reducible refine M.Var.drew ?_) | (with_reducible refine M.Var.far ?_ _ _ ?h; case h => (first | omega | ((try simp [go_sem]) <;> omega))) | fail)) : M.Var _ (w1.heap.size + 1) #[.int .i64 0]) (by intro u hu; all_goals (first | rw [M.usBx_block hu] | rw [M.usV_block hu] | rw [M.usI_block hu] | rw [M.usHt_block hu] | rw [M.usBd_block hu] | rw [M.cell_block1 hu] | (exfalso; simp at hu; done)); all_goals ((try simp [go_sem]) <;> omega)))) (M.sets_size _ _) hb
      have q2_b_0 := V2_b.c 0 _ rfl
      have q2_b_1 := V2_b.c 1 _ rfl
      have q2_b_2 := V2_b.c 2 _ rfl
      have q2_b_3 := V2_b.c 3 _ rfl
      have q2_b_4 := V2_b.c 4 _ rfl
      have q2_b_5 := V2_b.c 5 _ rfl
      have q2_b_6 := V2_b.c 6 _ rfl
      have q2_b_7 := V2_b.c 7 _ rfl
      have f2_b := V2_b.2.2; have L2_b := V2_b.lt; have N2_b := Nat.ne_of_gt L2_b; have M2_b := Nat.ne_of_lt L2_b
      have HV2_b := Lib.hid V2_b
      have q2_c_0 := V2_c.c 0 _ rfl
      have f2_c := V2_c.2.2; have L2_c := V2_c.lt; have N2_c := Nat.ne_of_gt L2_c; have M2_c := Nat.ne_of_lt L2_c
      have HV2_c := Lib.hid V2_c
      have q2_d_0 := V2_d.c 0 _ rfl
      have f2_d := V2_d.2.2; have L2_d := V2_d.lt; have N2_d := Nat.ne_of_gt L2_d; have M2_d := Nat.ne_of_lt L2_d
      have HV2_d := Lib.hid V2_d
      have S2 := G2.size; clear hb
      go_wp2_with fail
      (with_reducible refine (K2.out _ _ (M.pcell_var (by (repeat (first | (with_reducible assumption) | (refine M.var_alloc' _ _ _ ?_; first | rfl | (simp [go_sem]; done)) | (with_reducible refine M.Var.alloc ?_ _) | (with_reducible refine M.Var.drewN ?_ _) | (with_reducible refine M.Var.drew ?_) | (with_reducible refine M.Var.far ?_ _ _ ?h; case h => (first | omega | ((try simp [go_sem]) <;> omega))) | fail)) : M.Var _ (w1.heap.size + 1) #[.int .i64 0]))).mono ?_); rintro en w3 ⟨⟨k, rfl⟩, hb⟩
      have G3 : Below w.heap.size w w3 := Below.trans (M.below_sets_own ([(⟨w1.heap.size + 1, 0, none⟩, .int .i64 j)]) (by (repeat (with_reducible refine M.Below.drewN ?_ _)); go_grown) (by intro u hu; rw [M.cell_block1 hu]; dsimp only; omega)) (hb.mono (by go_size))
      have V3_b : M.Var w3 (w.heap.size) #[.int .i64 b.shape, .int .i64 b.sx, .int .i64 b.sy, .int .i64 b.mass, .int .i64 b.px, .int .i64 b.py, .int .i64 b.mx, .int .i64 b.my] := M.Var.mono' (u := M.sets _ ([(⟨w1.heap.size + 1, 0, none⟩, .int .i64 j)])) (by (try simp only [M.sets_append]); exact (M.var_sets_far ([(⟨w1.heap.size + 1, 0, none⟩, .int .i64 j)]) (by (repeat (first | (with_reducible assumption) | (refine M.var_alloc' _ _ _ ?_; first | rfl | (simp [go_sem]; done)) | (with_reducible refine M.Var.alloc ?_ _) | (with_reducible refine M.Var.drewN ?_ _) | (with_reducible refine M.Var.drew ?_) | (with_reducible refine M.Var.far ?_ _ _ ?h; case h => (first | omega | ((try simp [go_sem]) <;> omega))) | fail)) : M.Var _ (w.heap.size) #[.int .i64 b.shape, .int .i64 b.sx, .int .i64 b.sy, .int .i64 b.mass, .int .i64 b.px, .int .i64 b.py, .int .i64 b.mx, .int .i64 b.my]) (by intro u hu; all_goals (first | rw [M.usBx_block hu] | rw [M.usV_block hu] | rw [M.usI_block hu] | rw [M.usHt_block hu] | rw [M.usBd_block hu] | rw [M.cell_block1 hu] | (exfalso; simp at hu; done)); all_goals ((try simp [go_sem]) <;> omega)))) (M.sets_size _ _) hb
      have V3_c : M.Var w3 (w1.heap.size) #[.int .i64 i] := M.Var.mono' (u := M.sets _ ([(⟨w1.heap.size + 1, 0, none⟩, .int .i64 j)])) (by (try simp only [M.sets_append]); exact (M.var_sets_far ([(⟨w1.heap.size + 1, 0, none⟩, .int .i64 j)]) (by (repeat (first | (with_reducible assumption) | (refine M.var_alloc' _ _ _ ?_; first | rfl | (simp [go_sem]; done)) | (with_reducible refine M.Var.alloc ?_ _) | (with_reducible refine M.Var.drewN ?_ _) | (with_reducible refine M.Var.drew ?_) | (with_reducible refine M.Var.far ?_ _ _ ?h; case h => (first | omega | ((try simp [go_sem]) <;> omega))) | fail)) : M.Var _ (w1.heap.size) #[.int .i64 i]) (by intro u hu; all_goals (first | rw [M.usBx_block hu] | rw [M.usV_block hu] | rw [M.usI_block hu] | rw [M.usHt_block hu] | rw [M.usBd_block hu] | rw [M.cell_block1 hu] | (exfalso; simp at hu; done)); all_goals ((try simp [go_sem]) <;> omega)))) (M.sets_size _ _) hb
      have V3_d : M.Var w3 (w1.heap.size + 1) #[.int .i64 j] := M.Var.mono' (u := M.sets _ ([(⟨w1.heap.size + 1, 0, none⟩, .int .i64 j)])) (by (try simp only [M.sets_append]); exact (M.var_setI (by (repeat (first | (with_reducible assumption) | (refine M.var_alloc' _ _ _ ?_; first | rfl | (simp [go_sem]; done)) | (with_reducible refine M.Var.alloc ?_ _) | (with_reducible refine M.Var.drewN ?_ _) | (with_reducible refine M.Var.drew ?_) | (with_reducible refine M.Var.far ?_ _ _ ?h; case h => (first | omega | ((try simp [go_sem]) <;> omega))) | fail)) : M.Var _ (w1.heap.size + 1) #[.int .i64 0]) _)) (M.sets_size _ _) hb
      have V3_s : M.Var w3 (w2.heap.size) #[.int .i64 u, .int .i64 v] := M.Var.mono' (u := M.sets _ ([(⟨w1.heap.size + 1, 0, none⟩, .int .i64 j)])) (by (try simp only [M.sets_append]); exact (M.var_sets_far ([(⟨w1.heap.size + 1, 0, none⟩, .int .i64 j)]) (by (repeat (first | (with_reducible assumption) | (refine M.var_alloc' _ _ _ ?_; first | rfl | (simp [go_sem]; done)) | (with_reducible refine M.Var.alloc ?_ _) | (with_reducible refine M.Var.drewN ?_ _) | (with_reducible refine M.Var.drew ?_) | (with_reducible refine M.Var.far ?_ _ _ ?h; case h => (first | omega | ((try simp [go_sem]) <;> omega))) | fail)) : M.Var _ (w2.heap.size) #[.int .i64 u, .int .i64 v]) (by intro u hu; all_goals (first | rw [M.usBx_block hu] | rw [M.usV_block hu] | rw [M.usI_block hu] | rw [M.usHt_block hu] | rw [M.usBd_block hu] | rw [M.cell_block1 hu] | (exfalso; simp at hu; done)); all_goals ((try simp [go_sem]) <;> omega)))) (M.sets_size _ _) hb
      have q3_b_0 := V3_b.c 0 _ rfl
      have q3_b_1 := V3_b.c 1 _ rfl
      have q3_b_2 := V3_b.c 2 _ rfl
      have q3_b_3 := V3_b.c 3 _ rfl
      have q3_b_4 := V3_b.c 4 _ rfl
      have q3_b_5 := V3_b.c 5 _ rfl
      have q3_b_6 := V3_b.c 6 _ rfl
      have q3_b_7 := V3_b.c 7 _ rfl
      have f3_b := V3_b.2.2; have L3_b := V3_b.lt; have N3_b := Nat.ne_of_gt L3_b; have M3_b := Nat.ne_of_lt L3_b
      have HV3_b := Lib.hid V3_b
      have q3_c_0 := V3_c.c 0 _ rfl
      have f3_c := V3_c.2.2; have L3_c := V3_c.lt; have N3_c := Nat.ne_of_gt L3_c; have M3_c := Nat.ne_of_lt L3_c
      have HV3_c := Lib.hid V3_c
      have q3_d_0 := V3_d.c 0 _ rfl
      have f3_d := V3_d.2.2; have L3_d := V3_d.lt; have N3_d := Nat.ne_of_gt L3_d; have M3_d := Nat.ne_of_lt L3_d
      have HV3_d := Lib.hid V3_d
      have q3_s_0 := V3_s.c 0 _ rfl
      have q3_s_1 := V3_s.c 1 _ rfl
      have f3_s := V3_s.2.2; have L3_s := V3_s.lt; have N3_s := Nat.ne_of_gt L3_s; have M3_s := Nat.ne_of_lt L3_s
      have HV3_s := Lib.hid V3_s
      have S3 := G3.size; clear hb
      go_wp2_with fail
      refine (try_c 58 #[.pointer (some ⟨w.heap.size, 0, none⟩), .pointer (some ⟨w3.heap.size, 0, none⟩)] _ (i) ([]) (fun _ => rfl) ?_ ?_).mono ?_
      · intro u hu; (try simp only [List.mem_append] at hu); (repeat' (obtain hu | hu := (hu : _ ∨ _))); all_goals (first | rw [M.usBx_block hu] | rw [M.usV_block hu] | rw [M.usI_block hu] | rw [M.usHt_block hu] | rw [M.usBd_block hu] | rw [M.cell_block1 hu] | (exfalso; simp at hu; done)); all_goals ((try simp [go_sem]) <;> omega)
      · intro w1' hb; exact (cloSpeed _ _ b hB _ _ (.error i) hP.out w1' (M.Var.mono (b := w.heap.size) (cs := #[.int .i64 b.shape, .int .i64 b.sx, .int .i64 b.sy, .int .i64 b.mass, .int .i64 b.px, .int .i64 b.py, .int .i64 b.mx, .int .i64 b.my]) (by (repeat (first | (with_reducible assumption) | (refine M.var_alloc' _ _ _ ?_; first | rfl | (simp [go_sem]; done)) | (with_reducible refine M.Var.alloc ?_ _) | (with_reducible refine M.Var.drewN ?_ _) | (with_reducible refine M.Var.drew ?_) | (with_reducible refine M.Var.far ?_ _ _ ?h; case h => (first | omega | ((try simp [go_sem]) <;> omega))) | fail))) hb) (M.Var.mono (b := w3.heap.size) (cs := #[.int .i64 0, .int .i64 0]) (by (repeat (first | (with_reducible assumption) | (refine M.var_alloc' _ _ _ ?_; first | rfl | (simp [go_sem]; done)) | (with_reducible refine M.Var.alloc ?_ _) | (with_reducible refine M.Var.drewN ?_ _) | (with_reducible refine M.Var.drew ?_) | (with_reducible refine M.Var.far ?_ _ _ ?h; case h => (first | omega | ((try simp [go_sem]) <;> omega))) | fail))) hb)).mono fun e w' h => h
      rintro en w4 ⟨rfl, hb⟩
      have G4 : Below w.heap.size w w4 := Below.trans (M.below_sets_own ([]) (by (repeat (with_reducible refine M.Below.drewN ?_ _)); go_grown) (by intro u hu; (try simp only [List.mem_append] at hu); (repeat' (obtain hu | hu := (hu : _ ∨ _))); all_goals (first | rw [M.usBx_block hu] | rw [M.usV_block hu] | rw [M.usI_block hu] | rw [M.usHt_block hu] | rw [M.usBd_block hu] | rw [M.cell_block1 hu] | (exfalso; simp at hu; done)); all_goals ((try simp [go_sem]) <;> omega))) (hb.mono (by go_size))
      have V4_b : M.Var w4 (w.heap.size) #[.int .i64 b.shape, .int .i64 b.sx, .int .i64 b.sy, .int .i64 b.mass, .int .i64 b.px, .int .i64 b.py, .int .i64 b.mx, .int .i64 b.my] := M.Var.mono' (u := M.sets _ ([])) (by (try simp only [M.sets_append]); exact (M.var_sets_far ([]) (by (repeat (first | (with_reducible assumption) | (refine M.var_alloc' _ _ _ ?_; first | rfl | (simp [go_sem]; done)) | (with_reducible refine M.Var.alloc ?_ _) | (with_reducible refine M.Var.drewN ?_ _) | (with_reducible refine M.Var.drew ?_) | (with_reducible refine M.Var.far ?_ _ _ ?h; case h => (first | omega | ((try simp [go_sem]) <;> omega))) | fail)) : M.Var _ (w.heap.size) #[.int .i64 b.shape, .int .i64 b.sx, .int .i64 b.sy, .int .i64 b.mass, .int .i64 b.px, .int .i64 b.py, .int .i64 b.mx, .int .i64 b.my]) (by intro u hu; all_goals (first | rw [M.usBx_block hu] | rw [M.usV_block hu] | rw [M.usI_block hu] | rw [M.usHt_block hu] | rw [M.usBd_block hu] | rw [M.cell_block1 hu] | (exfalso; simp at hu; done)); all_goals ((try simp [go_sem]) <;> omega)))) (M.sets_size _ _) hb
      have V4_c : M.Var w4 (w1.heap.size) #[.int .i64 i] := M.Var.mono' (u := M.sets _ ([])) (by (try simp only [M.sets_append]); exact (M.var_sets_far ([]) (by (repeat (first | (with_reducible assumption) | (refine M.var_alloc' _ _ _ ?_; first | rfl | (simp [go_sem]; done)) | (with_reducible refine M.Var.alloc ?_ _) | (with_reducible refine M.Var.drewN ?_ _) | (with_reducible refine M.Var.drew ?_) | (with_reducible refine M.Var.far ?_ _ _ ?h; case h => (first | omega | ((try simp [go_sem]) <;> omega))) | fail)) : M.Var _ (w1.heap.size) #[.int .i64 i]) (by intro u hu; all_goals (first | rw [M.usBx_block hu] | rw [M.usV_block hu] | rw [M.usI_block hu] | rw [M.usHt_block hu] | rw [M.usBd_block hu] | rw [M.cell_block1 hu] | (exfalso; simp at hu; done)); all_goals ((try simp [go_sem]) <;> omega)))) (M.sets_size _ _) hb
      have V4_d : M.Var w4 (w1.heap.size + 1) #[.int .i64 j] := M.Var.mono' (u := M.sets _ ([])) (by (try simp only [M.sets_append]); exact (M.var_sets_far ([]) (by (repeat (first | (with_reducible assumption) | (refine M.var_alloc' _ _ _ ?_; first | rfl | (simp [go_sem]; done)) | (with_reducible refine M.Var.alloc ?_ _) | (with_reducible refine M.Var.drewN ?_ _) | (with_reducible refine M.Var.drew ?_) | (with_reducible refine M.Var.far ?_ _ _ ?h; case h => (first | omega | ((try simp [go_sem]) <;> omega))) | fail)) : M.Var _ (w1.heap.size + 1) #[.int .i64 j]) (by intro u hu; all_goals (first | rw [M.usBx_block hu] | rw [M.usV_block hu] | rw [M.usI_block hu] | rw [M.usHt_block hu] | rw [M.usBd_block hu] | rw [M.cell_block1 hu] | (exfalso; simp at hu; done)); all_goals ((try simp [go_sem]) <;> omega)))) (M.sets_size _ _) hb
      have V4_s : M.Var w4 (w2.heap.size) #[.int .i64 u, .int .i64 v] := M.Var.mono' (u := M.sets _ ([])) (by (try simp only [M.sets_append]); exact (M.var_sets_far ([]) (by (repeat (first | (with_reducible assumption) | (refine M.var_alloc' _ _ _ ?_; first | rfl | (simp [go_sem]; done)) | (with_reducible refine M.Var.alloc ?_ _) | (with_reducible refine M.Var.drewN ?_ _) | (with_reducible refine M.Var.drew ?_) | (with_reducible refine M.Var.far ?_ _ _ ?h; case h => (first | omega | ((try simp [go_sem]) <;> omega))) | fail)) : M.Var _ (w2.heap.size) #[.int .i64 u, .int .i64 v]) (by intro u hu; all_goals (first | rw [M.usBx_block hu] | rw [M.usV_block hu] | rw [M.usI_block hu] | rw [M.usHt_block hu] | rw [M.usBd_block hu] | rw [M.cell_block1 hu] | (exfalso; simp at hu; done)); all_goals ((try simp [go_sem]) <;> omega)))) (M.sets_size _ _) hb
      have V4_o : M.Var w4 (w3.heap.size) #[.int .i64 0, .int .i64 0] := M.Var.mono' (u := M.sets _ ([])) (by (try simp only [M.sets_append]); exact (M.var_sets_far ([]) (by (repeat (first | (with_reducible assumption) | (refine M.var_alloc' _ _ _ ?_; first | rfl | (simp [go_sem]; done)) | (with_reducible refine M.Var.alloc ?_ _) | (with_reducible refine M.Var.drewN ?_ _) | (with_reducible refine M.Var.drew ?_) | (with_reducible refine M.Var.far ?_ _ _ ?h; case h => (first | omega | ((try simp [go_sem]) <;> omega))) | fail)) : M.Var _ (w3.heap.size) #[.int .i64 0, .int .i64 0]) (by intro u hu; all_goals (first | rw [M.usBx_block hu] | rw [M.usV_block hu] | rw [M.usI_block hu] | rw [M.usHt_block hu] | rw [M.usBd_block hu] | rw [M.cell_block1 hu] | (exfalso; simp at hu; done)); all_goals ((try simp [go_sem]) <;> omega)))) (M.sets_size _ _) hb
      have V4_m : M.Var w4 (w3.heap.size + 1) #[.int .i64 0] := M.Var.mono' (u := M.sets _ ([])) (by (try simp only [M.sets_append]); exact (M.var_sets_far ([]) (by (repeat (first | (with_reducible assumption) | (refine M.var_alloc' _ _ _ ?_; first | rfl | (simp [go_sem]; done)) | (with_reducible refine M.Var.alloc ?_ _) | (with_reducible refine M.Var.drewN ?_ _) | (with_reducible refine M.Var.drew ?_) | (with_reducible refine M.Var.far ?_ _ _ ?h; case h => (first | omega | ((try simp [go_sem]) <;> omega))) | fail)) : M.Var _ (w3.heap.size + 1) #[.int .i64 0]) (by intro u hu; all_goals (first | rw [M.usBx_block hu] | rw [M.usV_block hu] | rw [M.usI_block hu] | rw [M.usHt_block hu] | rw [M.usBd_block hu] | rw [M.cell_block1 hu] | (exfalso; simp at hu; done)); all_goals ((try simp [go_sem]) <;> omega)))) (M.sets_size _ _) hb
      have q4_b_0 := V4_b.c 0 _ rfl
      have q4_b_1 := V4_b.c 1 _ rfl
      have q4_b_2 := V4_b.c 2 _ rfl
      have q4_b_3 := V4_b.c 3 _ rfl
      have q4_b_4 := V4_b.c 4 _ rfl
      have q4_b_5 := V4_b.c 5 _ rfl
      have q4_b_6 := V4_b.c 6 _ rfl
      have q4_b_7 := V4_b.c 7 _ rfl
      have f4_b := V4_b.2.2; have L4_b := V4_b.lt; have N4_b := Nat.ne_of_gt L4_b; have M4_b := Nat.ne_of_lt L4_b
      have HV4_b := Lib.hid V4_b
      have q4_c_0 := V4_c.c 0 _ rfl
      have f4_c := V4_c.2.2; have L4_c := V4_c.lt; have N4_c := Nat.ne_of_gt L4_c; have M4_c := Nat.ne_of_lt L4_c
      have HV4_c := Lib.hid V4_c
      have q4_d_0 := V4_d.c 0 _ rfl
      have f4_d := V4_d.2.2; have L4_d := V4_d.lt; have N4_d := Nat.ne_of_gt L4_d; have M4_d := Nat.ne_of_lt L4_d
      have HV4_d := Lib.hid V4_d
      have q4_s_0 := V4_s.c 0 _ rfl
      have q4_s_1 := V4_s.c 1 _ rfl
      have f4_s := V4_s.2.2; have L4_s := V4_s.lt; have N4_s := Nat.ne_of_gt L4_s; have M4_s := Nat.ne_of_lt L4_s
      have HV4_s := Lib.hid V4_s
      have q4_o_0 := V4_o.c 0 _ rfl
      have q4_o_1 := V4_o.c 1 _ rfl
      have f4_o := V4_o.2.2; have L4_o := V4_o.lt; have N4_o := Nat.ne_of_gt L4_o; have M4_o := Nat.ne_of_lt L4_o
      have HV4_o := Lib.hid V4_o
      have q4_m_0 := V4_m.c 0 _ rfl
      have f4_m := V4_m.2.2; have L4_m := V4_m.lt; have N4_m := Nat.ne_of_gt L4_m; have M4_m := Nat.ne_of_lt L4_m
      have HV4_m := Lib.hid V4_m
      have S4 := G4.size; clear hb
      go_wp2_with fail
      refine (try_c 60 #[.pointer (some ⟨w.heap.size, 0, none⟩), .pointer (some ⟨w3.heap.size + 1, 0, none⟩)] _ (j) ([]) (fun _ => rfl) ?_ ?_).mono ?_
      · intro u hu; (try simp only [List.mem_append] at hu); (repeat' (obtain hu | hu := (hu : _ ∨ _))); all_goals (first | rw [M.usBx_block hu] | rw [M.usV_block hu] | rw [M.usI_block hu] | rw [M.usHt_block hu] | rw [M.usBd_block hu] | rw [M.cell_block1 hu] | (exfalso; simp at hu; done)); all_goals ((try simp [go_sem]) <;> omega)
      · intro w1' hb; exact (cloLight _ _ b hB _ (.error j) hR.out w1' (M.Var.mono (b := w.heap.size) (cs := #[.int .i64 b.shape, .int .i64 b.sx, .int .i64 b.sy, .int .i64 b.mass, .int .i64 b.px, .int .i64 b.py, .int .i64 b.mx, .int .i64 b.my]) (by (repeat (first | (with_reducible assumption) | (refine M.var_alloc' _ _ _ ?_; first | rfl | (simp [go_sem]; done)) | (with_reducible refine M.Var.alloc ?_ _) | (with_reducible refine M.Var.drewN ?_ _) | (with_reducible refine M.Var.drew ?_) | (with_reducible refine M.Var.far ?_ _ _ ?h; case h => (first | omega | ((try simp [go_sem]) <;> omega))) | fail))) hb) (M.Var.mono (b := w3.heap.size + 1) (cs := #[.int .i64 0]) (by (repeat (first | (with_reducible assumption) | (refine M.var_alloc' _ _ _ ?_; first | rfl | (simp [go_sem]; done)) | (with_reducible refine M.Var.alloc ?_ _) | (with_reducible refine M.Var.drewN ?_ _) | (with_reducible refine M.Var.drew ?_) | (with_reducible refine M.Var.far ?_ _ _ ?h; case h => (first | omega | ((try simp [go_sem]) <;> omega))) | fail))) hb)).mono fun e w' h => h
      rintro en w5 ⟨rfl, hb⟩
      have G5 : Below w.heap.size w w5 := Below.trans (M.below_sets_own ([]) (by (repeat (with_reducible refine M.Below.drewN ?_ _)); go_grown) (by intro u hu; (try simp only [List.mem_append] at hu); (repeat' (obtain hu | hu := (hu : _ ∨ _))); all_goals (first | rw [M.usBx_block hu] | rw [M.usV_block hu] | rw [M.usI_block hu] | rw [M.usHt_block hu] | rw [M.usBd_block hu] | rw [M.cell_block1 hu] | (exfalso; simp at hu; done)); all_goals ((try simp [go_sem]) <;> omega))) (hb.mono (by go_size))
      have V5_b : M.Var w5 (w.heap.size) #[.int .i64 b.shape, .int .i64 b.sx, .int .i64 b.sy, .int .i64 b.mass, .int .i64 b.px, .int .i64 b.py, .int .i64 b.mx, .int .i64 b.my] := M.Var.mono' (u := M.sets _ ([])) (by (try simp only [M.sets_append]); exact (M.var_sets_far ([]) (by (repeat (first | (with_reducible assumption) | (refine M.var_alloc' _ _ _ ?_; first | rfl | (simp [go_sem]; done)) | (with_reducible refine M.Var.alloc ?_ _) | (with_reducible refine M.Var.drewN ?_ _) | (with_reducible refine M.Var.drew ?_) | (with_reducible refine M.Var.far ?_ _ _ ?h; case h => (first | omega | ((try simp [go_sem]) <;> omega))) | fail)) : M.Var _ (w.heap.size) #[.int .i64 b.shape, .int .i64 b.sx, .int .i64 b.sy, .int .i64 b.mass, .int .i64 b.px, .int .i64 b.py, .int .i64 b.mx, .int .i64 b.my]) (by intro u hu; all_goals (first | rw [M.usBx_block hu] | rw [M.usV_block hu] | rw [M.usI_block hu] | rw [M.usHt_block hu] | rw [M.usBd_block hu] | rw [M.cell_block1 hu] | (exfalso; simp at hu; done)); all_goals ((try simp [go_sem]) <;> omega)))) (M.sets_size _ _) hb
      have V5_c : M.Var w5 (w1.heap.size) #[.int .i64 i] := M.Var.mono' (u := M.sets _ ([])) (by (try simp only [M.sets_append]); exact (M.var_sets_far ([]) (by (repeat (first | (with_reducible assumption) | (refine M.var_alloc' _ _ _ ?_; first | rfl | (simp [go_sem]; done)) | (with_reducible refine M.Var.alloc ?_ _) | (with_reducible refine M.Var.drewN ?_ _) | (with_reducible refine M.Var.drew ?_) | (with_reducible refine M.Var.far ?_ _ _ ?h; case h => (first | omega | ((try simp [go_sem]) <;> omega))) | fail)) : M.Var _ (w1.heap.size) #[.int .i64 i]) (by intro u hu; all_goals (first | rw [M.usBx_block hu] | rw [M.usV_block hu] | rw [M.usI_block hu] | rw [M.usHt_block hu] | rw [M.usBd_block hu] | rw [M.cell_block1 hu] | (exfalso; simp at hu; done)); all_goals ((try simp [go_sem]) <;> omega)))) (M.sets_size _ _) hb
      have V5_d : M.Var w5 (w1.heap.size + 1) #[.int .i64 j] := M.Var.mono' (u := M.sets _ ([])) (by (try simp only [M.sets_append]); exact (M.var_sets_far ([]) (by (repeat (first | (with_reducible assumption) | (refine M.var_alloc' _ _ _ ?_; first | rfl | (simp [go_sem]; done)) | (with_reducible refine M.Var.alloc ?_ _) | (with_reducible refine M.Var.drewN ?_ _) | (with_reducible refine M.Var.drew ?_) | (with_reducible refine M.Var.far ?_ _ _ ?h; case h => (first | omega | ((try simp [go_sem]) <;> omega))) | fail)) : M.Var _ (w1.heap.size + 1) #[.int .i64 j]) (by intro u hu; all_goals (first | rw [M.usBx_block hu] | rw [M.usV_block hu] | rw [M.usI_block hu] | rw [M.usHt_block hu] | rw [M.usBd_block hu] | rw [M.cell_block1 hu] | (exfalso; simp at hu; done)); all_goals ((try simp [go_sem]) <;> omega)))) (M.sets_size _ _) hb
      have V5_s : M.Var w5 (w2.heap.size) #[.int .i64 u, .int .i64 v] := M.Var.mono' (u := M.sets _ ([])) (by (try simp only [M.sets_append]); exact (M.var_sets_far ([]) (by (repeat (first | (with_reducible assumption) | (refine M.var_alloc' _ _ _ ?_; first | rfl | (simp [go_sem]; done)) | (with_reducible refine M.Var.alloc ?_ _) | (with_reducible refine M.Var.drewN ?_ _) | (with_reducible refine M.Var.drew ?_) | (with_reducible refine M.Var.far ?_ _ _ ?h; case h => (first | omega | ((try simp [go_sem]) <;> omega))) | fail)) : M.Var _ (w2.heap.size) #[.int .i64 u, .int .i64 v]) (by intro u hu; all_goals (first | rw [M.usBx_block hu] | rw [M.usV_block hu] | rw [M.usI_block hu] | rw [M.usHt_block hu] | rw [M.usBd_block hu] | rw [M.cell_block1 hu] | (exfalso; simp at hu; done)); all_goals ((try simp [go_sem]) <;> omega)))) (M.sets_size _ _) hb
      have V5_o : M.Var w5 (w3.heap.size) #[.int .i64 0, .int .i64 0] := M.Var.mono' (u := M.sets _ ([])) (by (try simp only [M.sets_append]); exact (M.var_sets_far ([]) (by (repeat (first | (with_reducible assumption) | (refine M.var_alloc' _ _ _ ?_; first | rfl | (simp [go_sem]; done)) | (with_reducible refine M.Var.alloc ?_ _) | (with_reducible refine M.Var.drewN ?_ _) | (with_reducible refine M.Var.drew ?_) | (with_reducible refine M.Var.far ?_ _ _ ?h; case h => (first | omega | ((try simp [go_sem]) <;> omega))) | fail)) : M.Var _ (w3.heap.size) #[.int .i64 0, .int .i64 0]) (by intro u hu; all_goals (first | rw [M.usBx_block hu] | rw [M.usV_block hu] | rw [M.usI_block hu] | rw [M.usHt_block hu] | rw [M.usBd_block hu] | rw [M.cell_block1 hu] | (exfalso; simp at hu; done)); all_goals ((try simp [go_sem]) <;> omega)))) (M.sets_size _ _) hb
      have V5_m : M.Var w5 (w3.heap.size + 1) #[.int .i64 0] := M.Var.mono' (u := M.sets _ ([])) (by (try simp only [M.sets_append]); exact (M.var_sets_far ([]) (by (repeat (first | (with_reducible assumption) | (refine M.var_alloc' _ _ _ ?_; first | rfl | (simp [go_sem]; done)) | (with_reducible refine M.Var.alloc ?_ _) | (with_reducible refine M.Var.drewN ?_ _) | (with_reducible refine M.Var.drew ?_) | (with_reducible refine M.Var.far ?_ _ _ ?h; case h => (first | omega | ((try simp [go_sem]) <;> omega))) | fail)) : M.Var _ (w3.heap.size + 1) #[.int .i64 0]) (by intro u hu; all_goals (first | rw [M.usBx_block hu] | rw [M.usV_block hu] | rw [M.usI_block hu] | rw [M.usHt_block hu] | rw [M.usBd_block hu] | rw [M.cell_block1 hu] | (exfalso; simp at hu; done)); all_goals ((try simp [go_sem]) <;> omega)))) (M.sets_size _ _) hb
      have q5_b_0 := V5_b.c 0 _ rfl
      have q5_b_1 := V5_b.c 1 _ rfl
      have q5_b_2 := V5_b.c 2 _ rfl
      have q5_b_3 := V5_b.c 3 _ rfl
      have q5_b_4 := V5_b.c 4 _ rfl
      have q5_b_5 := V5_b.c 5 _ rfl
      have q5_b_6 := V5_b.c 6 _ rfl
      have q5_b_7 := V5_b.c 7 _ rfl
      have f5_b := V5_b.2.2; have L5_b := V5_b.lt; have N5_b := Nat.ne_of_gt L5_b; have M5_b := Nat.ne_of_lt L5_b
      have HV5_b := Lib.hid V5_b
      have q5_c_0 := V5_c.c 0 _ rfl
      have f5_c := V5_c.2.2; have L5_c := V5_c.lt; have N5_c := Nat.ne_of_gt L5_c; have M5_c := Nat.ne_of_lt L5_c
      have HV5_c := Lib.hid V5_c
      have q5_d_0 := V5_d.c 0 _ rfl
      have f5_d := V5_d.2.2; have L5_d := V5_d.lt; have N5_d := Nat.ne_of_gt L5_d; have M5_d := Nat.ne_of_lt L5_d
      have HV5_d := Lib.hid V5_d
      have q5_s_0 := V5_s.c 0 _ rfl
      have q5_s_1 := V5_s.c 1 _ rfl
      have f5_s := V5_s.2.2; have L5_s := V5_s.lt; have N5_s := Nat.ne_of_gt L5_s; have M5_s := Nat.ne_of_lt L5_s
      have HV5_s := Lib.hid V5_s
      have q5_o_0 := V5_o.c 0 _ rfl
      have q5_o_1 := V5_o.c 1 _ rfl
      have f5_o := V5_o.2.2; have L5_o := V5_o.lt; have N5_o := Nat.ne_of_gt L5_o; have M5_o := Nat.ne_of_lt L5_o
      have HV5_o := Lib.hid V5_o
      have q5_m_0 := V5_m.c 0 _ rfl
      have f5_m := V5_m.2.2; have L5_m := V5_m.lt; have N5_m := Nat.ne_of_gt L5_m; have M5_m := Nat.ne_of_lt L5_m
      have HV5_m := Lib.hid V5_m
      have S5 := G5.size; clear hb
      go_wp2_with fail
      refine M.wp_region_later (fun w' => M.Var w' (w.heap.size) #[.int .i64 b.shape, .int .i64 b.sx, .int .i64 b.sy, .int .i64 b.mass, .int .i64 b.px, .int .i64 b.py, .int .i64 b.mx, .int .i64 b.my] ∧ M.Var w' (w1.heap.size) #[.int .i64 i] ∧ M.Var w' (w1.heap.size + 1) #[.int .i64 j] ∧ M.Var w' (w2.heap.size) #[.int .i64 u, .int .i64 v] ∧ M.Var w' (w3.heap.size) #[.int .i64 0, .int .i64 0] ∧ M.Var w' (w3.heap.size + 1) #[.int .i64 0] ∧ True) (by kernel_rfl) (by kernel_rfl) (fun w' hb => ⟨M.Var.mono (by (repeat (first | (with_reducible assumption) | (refine M.var_alloc' _ _ _ ?_; first | rfl | (simp [go_sem]; done)) | (with_reducible refine M.Var.alloc ?_ _) | (with_reducible refine M.Var.drewN ?_ _) | (with_reducible refine M.Var.drew ?_) | (with_reducible refine M.Var.far ?_ _ _ ?h; case h => (first | omega | ((try simp [go_sem]) <;> omega))) | fail)) : M.Var _ (w.heap.size) #[.int .i64 b.shape, .int .i64 b.sx, .int .i64 b.sy, .int .i64 b.mass, .int .i64 b.px, .int .i64 b.py, .int .i64 b.mx, .int .i64 b.my]) hb, M.Var.mono (by (repeat (first | (with_reducible assumption) | (refine M.var_alloc' _ _ _ ?_; first | rfl | (simp [go_sem]; done)) | (with_reducible refine M.Var.alloc ?_ _) | (with_reducible refine M.Var.drewN ?_ _) | (with_reducible refine M.Var.drew ?_) | (with_reducible refine M.Var.far ?_ _ _ ?h; case h => (first | omega | ((try simp [go_sem]) <;> omega))) | fail)) : M.Var _ (w1.heap.size) #[.int .i64 i]) hb, M.Var.mono (by (repeat (first | (with_reducible assumption) | (refine M.var_alloc' _ _ _ ?_; first | rfl | (simp [go_sem]; done)) | (with_reducible refine M.Var.alloc ?_ _) | (with_reducible refine M.Var.drewN ?_ _) | (with_reducible refine M.Var.drew ?_) | (with_reducible refine M.Var.far ?_ _ _ ?h; case h => (first | omega | ((try simp [go_sem]) <;> omega))) | fail)) : M.Var _ (w1.heap.size + 1) #[.int .i64 j]) hb, M.Var.mono (by (repeat (first | (with_reducible assumption) | (refine M.var_alloc' _ _ _ ?_; first | rfl | (simp [go_sem]; done)) | (with_reducible refine M.Var.alloc ?_ _) | (with_reducible refine M.Var.drewN ?_ _) | (with_reducible refine M.Var.drew ?_) | (with_reducible refine M.Var.far ?_ _ _ ?h; case h => (first | omega | ((try simp [go_sem]) <;> omega))) | fail)) : M.Var _ (w2.heap.size) #[.int .i64 u, .int .i64 v]) hb, M.Var.mono (by (repeat (first | (with_reducible assumption) | (refine M.var_alloc' _ _ _ ?_; first | rfl | (simp [go_sem]; done)) | (with_reducible refine M.Var.alloc ?_ _) | (with_reducible refine M.Var.drewN ?_ _) | (with_reducible refine M.Var.drew ?_) | (with_reducible refine M.Var.far ?_ _ _ ?h; case h => (first | omega | ((try simp [go_sem]) <;> omega))) | fail)) : M.Var _ (w3.heap.size) #[.int .i64 0, .int .i64 0]) hb, M.Var.mono (by (repeat (first | (with_reducible assumption) | (refine M.var_alloc' _ _ _ ?_; first | rfl | (simp [go_sem]; done)) | (with_reducible refine M.Var.alloc ?_ _) | (with_reducible refine M.Var.drewN ?_ _) | (with_reducible refine M.Var.drew ?_) | (with_reducible refine M.Var.far ?_ _ _ ?h; case h => (first | omega | ((try simp [go_sem]) <;> omega))) | fail)) : M.Var _ (w3.heap.size + 1) #[.int .i64 0]) hb, trivial⟩) ?_
      intro hS
      have z6_b_0 := fun p => (hS p).1.c 0 _ rfl
      have z6_b_1 := fun p => (hS p).1.c 1 _ rfl
      have z6_b_2 := fun p => (hS p).1.c 2 _ rfl
      have z6_b_3 := fun p => (hS p).1.c 3 _ rfl
      have z6_b_4 := fun p => (hS p).1.c 4 _ rfl
      have z6_b_5 := fun p => (hS p).1.c 5 _ rfl
      have z6_b_6 := fun p => (hS p).1.c 6 _ rfl
      have z6_b_7 := fun p => (hS p).1.c 7 _ rfl
      have z6_c_0 := fun p => (hS p).2.1.c 0 _ rfl
      have z6_d_0 := fun p => (hS p).2.2.1.c 0 _ rfl
      have z6_s_0 := fun p => (hS p).2.2.2.1.c 0 _ rfl
      have z6_s_1 := fun p => (hS p).2.2.2.1.c 1 _ rfl
      have z6_o_0 := fun p => (hS p).2.2.2.2.1.c 0 _ rfl
      have z6_o_1 := fun p => (hS p).2.2.2.2.1.c 1 _ rfl
      have z6_m_0 := fun p => (hS p).2.2.2.2.2.1.c 0 _ rfl
      have HS := Lib.hid hS; clear hS
      repeat (go_big_quiet_step ((first
            | (go_at_call 62; with_reducible exact M.later_of (C1.out _))
            | (go_at_call 45; with_reducible exact M.later_of (C2.out _))
            | (go_at_call 63; with_reducible exact M.later_of_dr (C3.out _))
        )))
      refine wpQuiet_nil ?_
      intro w6 hw'
      obtain ⟨pL, hL⟩ := hw'
      have hb := pL.h; rw [← hL] at hb; clear hL pL
      have G6 : Below w.heap.size w w6 := Below.trans (by (repeat (with_reducible refine M.Below.drewN ?_ _)); go_grown) (hb.mono (by go_size))
      have V6_b : M.Var w6 (w.heap.size) #[.int .i64 b.shape, .int .i64 b.sx, .int .i64 b.sy, .int .i64 b.mass, .int .i64 b.px, .int .i64 b.py, .int .i64 b.mx, .int .i64 b.my] := M.Var.mono (by (repeat (first | (with_reducible assumption) | (refine M.var_alloc' _ _ _ ?_; first | rfl | (simp [go_sem]; done)) | (with_reducible refine M.Var.alloc ?_ _) | (with_reducible refine M.Var.drewN ?_ _) | (with_reducible refine M.Var.drew ?_) | (with_reducible refine M.Var.far ?_ _ _ ?h; case h => (first | omega | ((try simp [go_sem]) <;> omega))) | fail))) hb
      have V6_c : M.Var w6 (w1.heap.size) #[.int .i64 i] := M.Var.mono (by (repeat (first | (with_reducible assumption) | (refine M.var_alloc' _ _ _ ?_; first | rfl | (simp [go_sem]; done)) | (with_reducible refine M.Var.alloc ?_ _) | (with_reducible refine M.Var.drewN ?_ _) | (with_reducible refine M.Var.drew ?_) | (with_reducible refine M.Var.far ?_ _ _ ?h; case h => (first | omega | ((try simp [go_sem]) <;> omega))) | fail))) hb
      have V6_d : M.Var w6 (w1.heap.size + 1) #[.int .i64 j] := M.Var.mono (by (repeat (first | (with_reducible assumption) | (refine M.var_alloc' _ _ _ ?_; first | rfl | (simp [go_sem]; done)) | (with_reducible refine M.Var.alloc ?_ _) | (with_reducible refine M.Var.drewN ?_ _) | (with_reducible refine M.Var.drew ?_) | (with_reducible refine M.Var.far ?_ _ _ ?h; case h => (first | omega | ((try simp [go_sem]) <;> omega))) | fail))) hb
      have V6_s : M.Var w6 (w2.heap.size) #[.int .i64 u, .int .i64 v] := M.Var.mono (by (repeat (first | (with_reducible assumption) | (refine M.var_alloc' _ _ _ ?_; first | rfl | (simp [go_sem]; done)) | (with_reducible refine M.Var.alloc ?_ _) | (with_reducible refine M.Var.drewN ?_ _) | (with_reducible refine M.Var.drew ?_) | (with_reducible refine M.Var.far ?_ _ _ ?h; case h => (first | omega | ((try simp [go_sem]) <;> omega))) | fail))) hb
      have V6_o : M.Var w6 (w3.heap.size) #[.int .i64 0, .int .i64 0] := M.Var.mono (by (repeat (first | (with_reducible assumption) | (refine M.var_alloc' _ _ _ ?_; first | rfl | (simp [go_sem]; done)) | (with_reducible refine M.Var.alloc ?_ _) | (with_reducible refine M.Var.drewN ?_ _) | (with_reducible refine M.Var.drew ?_) | (with_reducible refine M.Var.far ?_ _ _ ?h; case h => (first | omega | ((try simp [go_sem]) <;> omega))) | fail))) hb
      have V6_m : M.Var w6 (w3.heap.size + 1) #[.int .i64 0] := M.Var.mono (by (repeat (first | (with_reducible assumption) | (refine M.var_alloc' _ _ _ ?_; first | rfl | (simp [go_sem]; done)) | (with_reducible refine M.Var.alloc ?_ _) | (with_reducible refine M.Var.drewN ?_ _) | (with_reducible refine M.Var.drew ?_) | (with_reducible refine M.Var.far ?_ _ _ ?h; case h => (first | omega | ((try simp [go_sem]) <;> omega))) | fail))) hb
      have q6_b_0 := V6_b.c 0 _ rfl
      have q6_b_1 := V6_b.c 1 _ rfl
      have q6_b_2 := V6_b.c 2 _ rfl
      have q6_b_3 := V6_b.c 3 _ rfl
      have q6_b_4 := V6_b.c 4 _ rfl
      have q6_b_5 := V6_b.c 5 _ rfl
      have q6_b_6 := V6_b.c 6 _ rfl
      have q6_b_7 := V6_b.c 7 _ rfl
      have f6_b := V6_b.2.2; have L6_b := V6_b.lt; have N6_b := Nat.ne_of_gt L6_b; have M6_b := Nat.ne_of_lt L6_b
      have HV6_b := Lib.hid V6_b
      have q6_c_0 := V6_c.c 0 _ rfl
      have f6_c := V6_c.2.2; have L6_c := V6_c.lt; have N6_c := Nat.ne_of_gt L6_c; have M6_c := Nat.ne_of_lt L6_c
      have HV6_c := Lib.hid V6_c
      have q6_d_0 := V6_d.c 0 _ rfl
      have f6_d := V6_d.2.2; have L6_d := V6_d.lt; have N6_d := Nat.ne_of_gt L6_d; have M6_d := Nat.ne_of_lt L6_d
      have HV6_d := Lib.hid V6_d
      have q6_s_0 := V6_s.c 0 _ rfl
      have q6_s_1 := V6_s.c 1 _ rfl
      have f6_s := V6_s.2.2; have L6_s := V6_s.lt; have N6_s := Nat.ne_of_gt L6_s; have M6_s := Nat.ne_of_lt L6_s
      have HV6_s := Lib.hid V6_s
      have q6_o_0 := V6_o.c 0 _ rfl
      have q6_o_1 := V6_o.c 1 _ rfl
      have f6_o := V6_o.2.2; have L6_o := V6_o.lt; have N6_o := Nat.ne_of_gt L6_o; have M6_o := Nat.ne_of_lt L6_o
      have HV6_o := Lib.hid V6_o
      have q6_m_0 := V6_m.c 0 _ rfl
      have f6_m := V6_m.2.2; have L6_m := V6_m.lt; have N6_m := Nat.ne_of_gt L6_m; have M6_m := Nat.ne_of_lt L6_m
      have HV6_m := Lib.hid V6_m
      have S6 := G6.size; clear hb
      clear z6_b_0 z6_b_1 z6_b_2 z6_b_3 z6_b_4 z6_b_5 z6_b_6 z6_b_7 z6_c_0 z6_d_0 z6_s_0 z6_s_1 z6_o_0 z6_o_1 z6_m_0 HS
      go_wp2_with fail
      go_ret
      exact ⟨rfl, by (repeat (with_reducible refine M.Below.drewN ?_ _)); go_grown⟩
    · rw [h3] at c3
      have C3 := Lib.hid c3
      clear c3 h3
      go_enter Try.func8, Try.ntmps8
      go_wp2_with fail
      (with_reducible refine (c0.out _).mono ?_); rintro en w1 ⟨rfl, hb⟩
      have G1 : Below w.heap.size w w1 := Below.trans (by (repeat (with_reducible refine M.Below.drewN ?_ _)); go_grown) (hb.mono (by go_size))
      have V1_b : M.Var w1 (w.heap.size) #[.int .i64 b.shape, .int .i64 b.sx, .int .i64 b.sy, .int .i64 b.mass, .int .i64 b.px, .int .i64 b.py, .int .i64 b.mx, .int .i64 b.my] := M.Var.mono (by (repeat (first | (with_reducible assumption) | (refine M.var_alloc' _ _ _ ?_; first | rfl | (simp [go_sem]; done)) | (with_reducible refine M.Var.alloc ?_ _) | (with_reducible refine M.Var.drewN ?_ _) | (with_reducible refine M.Var.drew ?_) | (with_reducible refine M.Var.far ?_ _ _ ?h; case h => (first | omega | ((try simp [go_sem]) <;> omega))) | fail))) hb
      have q1_b_0 := V1_b.c 0 _ rfl
      have q1_b_1 := V1_b.c 1 _ rfl
      have q1_b_2 := V1_b.c 2 _ rfl
      have q1_b_3 := V1_b.c 3 _ rfl
      have q1_b_4 := V1_b.c 4 _ rfl
      have q1_b_5 := V1_b.c 5 _ rfl
      have q1_b_6 := V1_b.c 6 _ rfl
      have q1_b_7 := V1_b.c 7 _ rfl
      have f1_b := V1_b.2.2; have L1_b := V1_b.lt; have N1_b := Nat.ne_of_gt L1_b; have M1_b := Nat.ne_of_lt L1_b
      have HV1_b := Lib.hid V1_b
      have S1 := G1.size; clear hb
      go_wp2_with fail
      (with_reducible refine (K1.out _ _ (M.pcell_var (by (repeat (first | (with_reducible assumption) | (refine M.var_alloc' _ _ _ ?_; first | rfl | (simp [go_sem]; done)) | (with_reducible refine M.Var.alloc ?_ _) | (with_reducible refine M.Var.drewN ?_ _) | (with_reducible refine M.Var.drew ?_) | (with_reducible refine M.Var.far ?_ _ _ ?h; case h => (first | omega | ((try simp [go_sem]) <;> omega))) | fail)) : M.Var _ (w1.heap.size) #[.int .i64 0]))).mono ?_); rintro en w2 ⟨⟨u, v, rfl⟩, hb⟩
      have G2 : Below w.heap.size w w2 := Below.trans (M.below_sets_own ([(⟨w1.heap.size, 0, none⟩, .int .i64 i)]) (by (repeat (with_reducible refine M.Below.drewN ?_ _)); go_grown) (by intro u hu; rw [M.cell_block1 hu]; dsimp only; omega)) (hb.mono (by go_size))
      have V2_b : M.Var w2 (w.heap.size) #[.int .i64 b.shape, .int .i64 b.sx, .int .i64 b.sy, .int .i64 b.mass, .int .i64 b.px, .int .i64 b.py, .int .i64 b.mx, .int .i64 b.my] := M.Var.mono' (u := M.sets _ ([(⟨w1.heap.size, 0, none⟩, .int .i64 i)])) (by (try simp only [M.sets_append]); exact (M.var_sets_far ([(⟨w1.heap.size, 0, none⟩, .int .i64 i)]) (by (repeat (first | (with_reducible assumption) | (refine M.var_alloc' _ _ _ ?_; first | rfl | (simp [go_sem]; done)) | (with_reducible refine M.Var.alloc ?_ _) | (with_reducible refine M.Var.drewN ?_ _) | (with_reducible refine M.Var.drew ?_) | (with_reducible refine M.Var.far ?_ _ _ ?h; case h => (first | omega | ((try simp [go_sem]) <;> omega))) | fail)) : M.Var _ (w.heap.size) #[.int .i64 b.shape, .int .i64 b.sx, .int .i64 b.sy, .int .i64 b.mass, .int .i64 b.px, .int .i64 b.py, .int .i64 b.mx, .int .i64 b.my]) (by intro u hu; all_goals (first | rw [M.usBx_block hu] | rw [M.usV_block hu] | rw [M.usI_block hu] | rw [M.usHt_block hu] | rw [M.usBd_block hu] | rw [M.cell_block1 hu] | (exfalso; simp at hu; done)); all_goals ((try simp [go_sem]) <;> omega)))) (M.sets_size _ _) hb
      have V2_c : M.Var w2 (w1.heap.size) #[.int .i64 i] := M.Var.mono' (u := M.sets _ ([(⟨w1.heap.size, 0, none⟩, .int .i64 i)])) (by (try simp only [M.sets_append]); exact (M.var_setI (by (repeat (first | (with_reducible assumption) | (refine M.var_alloc' _ _ _ ?_; first | rfl | (simp [go_sem]; done)) | (with_reducible refine M.Var.alloc ?_ _) | (with_reducible refine M.Var.drewN ?_ _) | (with_reducible refine M.Var.drew ?_) | (with_reducible refine M.Var.far ?_ _ _ ?h; case h => (first | omega | ((try simp [go_sem]) <;> omega))) | fail)) : M.Var _ (w1.heap.size) #[.int .i64 0]) _)) (M.sets_size _ _) hb
      have V2_d : M.Var w2 (w1.heap.size + 1) #[.int .i64 0] := M.Var.mono' (u := M.sets _ ([(⟨w1.heap.size, 0, none⟩, .int .i64 i)])) (by (try simp only [M.sets_append]); exact (M.var_sets_far ([(⟨w1.heap.size, 0, none⟩, .int .i64 i)]) (by (repeat (first | (with_reducible assumption) | (refine M.var_alloc' _ _ _ ?_; first | rfl | (simp [go_sem]; done)) | (with_reducible refine M.Var.alloc ?_ _) | (with_reducible refine M.Var.drewN ?_ _) | (with_reducible refine M.Var.drew ?_) | (with_reducible refine M.Var.far ?_ _ _ ?h; case h => (first | omega | ((try simp [go_sem]) <;> omega))) | fail)) : M.Var _ (w1.heap.size + 1) #[.int .i64 0]) (by intro u hu; all_goals (first | rw [M.usBx_block hu] | rw [M.usV_block hu] | rw [M.usI_block hu] | rw [M.usHt_block hu] | rw [M.usBd_block hu] | rw [M.cell_block1 hu] | (exfalso; simp at hu; done)); all_goals ((try simp [go_sem]) <;> omega)))) (M.sets_size _ _) hb
      have q2_b_0 := V2_b.c 0 _ rfl
      have q2_b_1 := V2_b.c 1 _ rfl
      have q2_b_2 := V2_b.c 2 _ rfl
      have q2_b_3 := V2_b.c 3 _ rfl
      have q2_b_4 := V2_b.c 4 _ rfl
      have q2_b_5 := V2_b.c 5 _ rfl
      have q2_b_6 := V2_b.c 6 _ rfl
      have q2_b_7 := V2_b.c 7 _ rfl
      have f2_b := V2_b.2.2; have L2_b := V2_b.lt; have N2_b := Nat.ne_of_gt L2_b; have M2_b := Nat.ne_of_lt L2_b
      have HV2_b := Lib.hid V2_b
      have q2_c_0 := V2_c.c 0 _ rfl
      have f2_c := V2_c.2.2; have L2_c := V2_c.lt; have N2_c := Nat.ne_of_gt L2_c; have M2_c := Nat.ne_of_lt L2_c
      have HV2_c := Lib.hid V2_c
      have q2_d_0 := V2_d.c 0 _ rfl
      have f2_d := V2_d.2.2; have L2_d := V2_d.lt; have N2_d := Nat.ne_of_gt L2_d; have M2_d := Nat.ne_of_lt L2_d
      have HV2_d := Lib.hid V2_d
      have S2 := G2.size; clear hb
      go_wp2_with fail
      (with_reducible refine (K2.out _ _ (M.pcell_var (by (repeat (first | (with_reducible assumption) | (refine M.var_alloc' _ _ _ ?_; first | rfl | (simp [go_sem]; done)) | (with_reducible refine M.Var.alloc ?_ _) | (with_reducible refine M.Var.drewN ?_ _) | (with_reducible refine M.Var.drew ?_) | (with_reducible refine M.Var.far ?_ _ _ ?h; case h => (first | omega | ((try simp [go_sem]) <;> omega))) | fail)) : M.Var _ (w1.heap.size + 1) #[.int .i64 0]))).mono ?_); rintro en w3 ⟨⟨k, rfl⟩, hb⟩
      have G3 : Below w.heap.size w w3 := Below.trans (M.below_sets_own ([(⟨w1.heap.size + 1, 0, none⟩, .int .i64 j)]) (by (repeat (with_reducible refine M.Below.drewN ?_ _)); go_grown) (by intro u hu; rw [M.cell_block1 hu]; dsimp only; omega)) (hb.mono (by go_size))
      have V3_b : M.Var w3 (w.heap.size) #[.int .i64 b.shape, .int .i64 b.sx, .int .i64 b.sy, .int .i64 b.mass, .int .i64 b.px, .int .i64 b.py, .int .i64 b.mx, .int .i64 b.my] := M.Var.mono' (u := M.sets _ ([(⟨w1.heap.size + 1, 0, none⟩, .int .i64 j)])) (by (try simp only [M.sets_append]); exact (M.var_sets_far ([(⟨w1.heap.size + 1, 0, none⟩, .int .i64 j)]) (by (repeat (first | (with_reducible assumption) | (refine M.var_alloc' _ _ _ ?_; first | rfl | (simp [go_sem]; done)) | (with_reducible refine M.Var.alloc ?_ _) | (with_reducible refine M.Var.drewN ?_ _) | (with_reducible refine M.Var.drew ?_) | (with_reducible refine M.Var.far ?_ _ _ ?h; case h => (first | omega | ((try simp [go_sem]) <;> omega))) | fail)) : M.Var _ (w.heap.size) #[.int .i64 b.shape, .int .i64 b.sx, .int .i64 b.sy, .int .i64 b.mass, .int .i64 b.px, .int .i64 b.py, .int .i64 b.mx, .int .i64 b.my]) (by intro u hu; all_goals (first | rw [M.usBx_block hu] | rw [M.usV_block hu] | rw [M.usI_block hu] | rw [M.usHt_block hu] | rw [M.usBd_block hu] | rw [M.cell_block1 hu] | (exfalso; simp at hu; done)); all_goals ((try simp [go_sem]) <;> omega)))) (M.sets_size _ _) hb
      have V3_c : M.Var w3 (w1.heap.size) #[.int .i64 i] := M.Var.mono' (u := M.sets _ ([(⟨w1.heap.size + 1, 0, none⟩, .int .i64 j)])) (by (try simp only [M.sets_append]); exact (M.var_sets_far ([(⟨w1.heap.size + 1, 0, none⟩, .int .i64 j)]) (by (repeat (first | (with_reducible assumption) | (refine M.var_alloc' _ _ _ ?_; first | rfl | (simp [go_sem]; done)) | (with_reducible refine M.Var.alloc ?_ _) | (with_reducible refine M.Var.drewN ?_ _) | (with_reducible refine M.Var.drew ?_) | (with_reducible refine M.Var.far ?_ _ _ ?h; case h => (first | omega | ((try simp [go_sem]) <;> omega))) | fail)) : M.Var _ (w1.heap.size) #[.int .i64 i]) (by intro u hu; all_goals (first | rw [M.usBx_block hu] | rw [M.usV_block hu] | rw [M.usI_block hu] | rw [M.usHt_block hu] | rw [M.usBd_block hu] | rw [M.cell_block1 hu] | (exfalso; simp at hu; done)); all_goals ((try simp [go_sem]) <;> omega)))) (M.sets_size _ _) hb
      have V3_d : M.Var w3 (w1.heap.size + 1) #[.int .i64 j] := M.Var.mono' (u := M.sets _ ([(⟨w1.heap.size + 1, 0, none⟩, .int .i64 j)])) (by (try simp only [M.sets_append]); exact (M.var_setI (by (repeat (first | (with_reducible assumption) | (refine M.var_alloc' _ _ _ ?_; first | rfl | (simp [go_sem]; done)) | (with_reducible refine M.Var.alloc ?_ _) | (with_reducible refine M.Var.drewN ?_ _) | (with_reducible refine M.Var.drew ?_) | (with_reducible refine M.Var.far ?_ _ _ ?h; case h => (first | omega | ((try simp [go_sem]) <;> omega))) | fail)) : M.Var _ (w1.heap.size + 1) #[.int .i64 0]) _)) (M.sets_size _ _) hb
      have V3_s : M.Var w3 (w2.heap.size) #[.int .i64 u, .int .i64 v] := M.Var.mono' (u := M.sets _ ([(⟨w1.heap.size + 1, 0, none⟩, .int .i64 j)])) (by (try simp only [M.sets_append]); exact (M.var_sets_far ([(⟨w1.heap.size + 1, 0, none⟩, .int .i64 j)]) (by (repeat (first | (with_reducible assumption) | (refine M.var_alloc' _ _ _ ?_; first | rfl | (simp [go_sem]; done)) | (with_reducible refine M.Var.alloc ?_ _) | (with_reducible refine M.Var.drewN ?_ _) | (with_reducible refine M.Var.drew ?_) | (with_reducible refine M.Var.far ?_ _ _ ?h; case h => (first | omega | ((try simp [go_sem]) <;> omega))) | fail)) : M.Var _ (w2.heap.size) #[.int .i64 u, .int .i64 v]) (by intro u hu; all_goals (first | rw [M.usBx_block hu] | rw [M.usV_block hu] | rw [M.usI_block hu] | rw [M.usHt_block hu] | rw [M.usBd_block hu] | rw [M.cell_block1 hu] | (exfalso; simp at hu; done)); all_goals ((try simp [go_sem]) <;> omega)))) (M.sets_size _ _) hb
      have q3_b_0 := V3_b.c 0 _ rfl
      have q3_b_1 := V3_b.c 1 _ rfl
      have q3_b_2 := V3_b.c 2 _ rfl
      have q3_b_3 := V3_b.c 3 _ rfl
      have q3_b_4 := V3_b.c 4 _ rfl
      have q3_b_5 := V3_b.c 5 _ rfl
      have q3_b_6 := V3_b.c 6 _ rfl
      have q3_b_7 := V3_b.c 7 _ rfl
      have f3_b := V3_b.2.2; have L3_b := V3_b.lt; have N3_b := Nat.ne_of_gt L3_b; have M3_b := Nat.ne_of_lt L3_b
      have HV3_b := Lib.hid V3_b
      have q3_c_0 := V3_c.c 0 _ rfl
      have f3_c := V3_c.2.2; have L3_c := V3_c.lt; have N3_c := Nat.ne_of_gt L3_c; have M3_c := Nat.ne_of_lt L3_c
      have HV3_c := Lib.hid V3_c
      have q3_d_0 := V3_d.c 0 _ rfl
      have f3_d := V3_d.2.2; have L3_d := V3_d.lt; have N3_d := Nat.ne_of_gt L3_d; have M3_d := Nat.ne_of_lt L3_d
      have HV3_d := Lib.hid V3_d
      have q3_s_0 := V3_s.c 0 _ rfl
      have q3_s_1 := V3_s.c 1 _ rfl
      have f3_s := V3_s.2.2; have L3_s := V3_s.lt; have N3_s := Nat.ne_of_gt L3_s; have M3_s := Nat.ne_of_lt L3_s
      have HV3_s := Lib.hid V3_s
      have S3 := G3.size; clear hb
      go_wp2_with fail
      refine (try_c 58 #[.pointer (some ⟨w.heap.size, 0, none⟩), .pointer (some ⟨w3.heap.size, 0, none⟩)] _ (i) ([]) (fun _ => rfl) ?_ ?_).mono ?_
      · intro u hu; (try simp only [List.mem_append] at hu); (repeat' (obtain hu | hu := (hu : _ ∨ _))); all_goals (first | rw [M.usBx_block hu] | rw [M.usV_block hu] | rw [M.usI_block hu] | rw [M.usHt_block hu] | rw [M.usBd_block hu] | rw [M.cell_block1 hu] | (exfalso; simp at hu; done)); all_goals ((try simp [go_sem]) <;> omega)
      · intro w1' hb; exact (cloSpeed _ _ b hB _ _ (.error i) hP.out w1' (M.Var.mono (b := w.heap.size) (cs := #[.int .i64 b.shape, .int .i64 b.sx, .int .i64 b.sy, .int .i64 b.mass, .int .i64 b.px, .int .i64 b.py, .int .i64 b.mx, .int .i64 b.my]) (by (repeat (first | (with_reducible assumption) | (refine M.var_alloc' _ _ _ ?_; first | rfl | (simp [go_sem]; done)) | (with_reducible refine M.Var.alloc ?_ _) | (with_reducible refine M.Var.drewN ?_ _) | (with_reducible refine M.Var.drew ?_) | (with_reducible refine M.Var.far ?_ _ _ ?h; case h => (first | omega | ((try simp [go_sem]) <;> omega))) | fail))) hb) (M.Var.mono (b := w3.heap.size) (cs := #[.int .i64 0, .int .i64 0]) (by (repeat (first | (with_reducible assumption) | (refine M.var_alloc' _ _ _ ?_; first | rfl | (simp [go_sem]; done)) | (with_reducible refine M.Var.alloc ?_ _) | (with_reducible refine M.Var.drewN ?_ _) | (with_reducible refine M.Var.drew ?_) | (with_reducible refine M.Var.far ?_ _ _ ?h; case h => (first | omega | ((try simp [go_sem]) <;> omega))) | fail))) hb)).mono fun e w' h => h
      rintro en w4 ⟨rfl, hb⟩
      have G4 : Below w.heap.size w w4 := Below.trans (M.below_sets_own ([]) (by (repeat (with_reducible refine M.Below.drewN ?_ _)); go_grown) (by intro u hu; (try simp only [List.mem_append] at hu); (repeat' (obtain hu | hu := (hu : _ ∨ _))); all_goals (first | rw [M.usBx_block hu] | rw [M.usV_block hu] | rw [M.usI_block hu] | rw [M.usHt_block hu] | rw [M.usBd_block hu] | rw [M.cell_block1 hu] | (exfalso; simp at hu; done)); all_goals ((try simp [go_sem]) <;> omega))) (hb.mono (by go_size))
      have V4_b : M.Var w4 (w.heap.size) #[.int .i64 b.shape, .int .i64 b.sx, .int .i64 b.sy, .int .i64 b.mass, .int .i64 b.px, .int .i64 b.py, .int .i64 b.mx, .int .i64 b.my] := M.Var.mono' (u := M.sets _ ([])) (by (try simp only [M.sets_append]); exact (M.var_sets_far ([]) (by (repeat (first | (with_reducible assumption) | (refine M.var_alloc' _ _ _ ?_; first | rfl | (simp [go_sem]; done)) | (with_reducible refine M.Var.alloc ?_ _) | (with_reducible refine M.Var.drewN ?_ _) | (with_reducible refine M.Var.drew ?_) | (with_reducible refine M.Var.far ?_ _ _ ?h; case h => (first | omega | ((try simp [go_sem]) <;> omega))) | fail)) : M.Var _ (w.heap.size) #[.int .i64 b.shape, .int .i64 b.sx, .int .i64 b.sy, .int .i64 b.mass, .int .i64 b.px, .int .i64 b.py, .int .i64 b.mx, .int .i64 b.my]) (by intro u hu; all_goals (first | rw [M.usBx_block hu] | rw [M.usV_block hu] | rw [M.usI_block hu] | rw [M.usHt_block hu] | rw [M.usBd_block hu] | rw [M.cell_block1 hu] | (exfalso; simp at hu; done)); all_goals ((try simp [go_sem]) <;> omega)))) (M.sets_size _ _) hb
      have V4_c : M.Var w4 (w1.heap.size) #[.int .i64 i] := M.Var.mono' (u := M.sets _ ([])) (by (try simp only [M.sets_append]); exact (M.var_sets_far ([]) (by (repeat (first | (with_reducible assumption) | (refine M.var_alloc' _ _ _ ?_; first | rfl | (simp [go_sem]; done)) | (with_reducible refine M.Var.alloc ?_ _) | (with_reducible refine M.Var.drewN ?_ _) | (with_reducible refine M.Var.drew ?_) | (with_reducible refine M.Var.far ?_ _ _ ?h; case h => (first | omega | ((try simp [go_sem]) <;> omega))) | fail)) : M.Var _ (w1.heap.size) #[.int .i64 i]) (by intro u hu; all_goals (first | rw [M.usBx_block hu] | rw [M.usV_block hu] | rw [M.usI_block hu] | rw [M.usHt_block hu] | rw [M.usBd_block hu] | rw [M.cell_block1 hu] | (exfalso; simp at hu; done)); all_goals ((try simp [go_sem]) <;> omega)))) (M.sets_size _ _) hb
      have V4_d : M.Var w4 (w1.heap.size + 1) #[.int .i64 j] := M.Var.mono' (u := M.sets _ ([])) (by (try simp only [M.sets_append]); exact (M.var_sets_far ([]) (by (repeat (first | (with_reducible assumption) | (refine M.var_alloc' _ _ _ ?_; first | rfl | (simp [go_sem]; done)) | (with_reducible refine M.Var.alloc ?_ _) | (with_reducible refine M.Var.drewN ?_ _) | (with_reducible refine M.Var.drew ?_) | (with_reducible refine M.Var.far ?_ _ _ ?h; case h => (first | omega | ((try simp [go_sem]) <;> omega))) | fail)) : M.Var _ (w1.heap.size + 1) #[.int .i64 j]) (by intro u hu; all_goals (first | rw [M.usBx_block hu] | rw [M.usV_block hu] | rw [M.usI_block hu] | rw [M.usHt_block hu] | rw [M.usBd_block hu] | rw [M.cell_block1 hu] | (exfalso; simp at hu; done)); all_goals ((try simp [go_sem]) <;> omega)))) (M.sets_size _ _) hb
      have V4_s : M.Var w4 (w2.heap.size) #[.int .i64 u, .int .i64 v] := M.Var.mono' (u := M.sets _ ([])) (by (try simp only [M.sets_append]); exact (M.var_sets_far ([]) (by (repeat (first | (with_reducible assumption) | (refine M.var_alloc' _ _ _ ?_; first | rfl | (simp [go_sem]; done)) | (with_reducible refine M.Var.alloc ?_ _) | (with_reducible refine M.Var.drewN ?_ _) | (with_reducible refine M.Var.drew ?_) | (with_reducible refine M.Var.far ?_ _ _ ?h; case h => (first | omega | ((try simp [go_sem]) <;> omega))) | fail)) : M.Var _ (w2.heap.size) #[.int .i64 u, .int .i64 v]) (by intro u hu; all_goals (first | rw [M.usBx_block hu] | rw [M.usV_block hu] | rw [M.usI_block hu] | rw [M.usHt_block hu] | rw [M.usBd_block hu] | rw [M.cell_block1 hu] | (exfalso; simp at hu; done)); all_goals ((try simp [go_sem]) <;> omega)))) (M.sets_size _ _) hb
      have V4_o : M.Var w4 (w3.heap.size) #[.int .i64 0, .int .i64 0] := M.Var.mono' (u := M.sets _ ([])) (by (try simp only [M.sets_append]); exact (M.var_sets_far ([]) (by (repeat (first | (with_reducible assumption) | (refine M.var_alloc' _ _ _ ?_; first | rfl | (simp [go_sem]; done)) | (with_reducible refine M.Var.alloc ?_ _) | (with_reducible refine M.Var.drewN ?_ _) | (with_reducible refine M.Var.drew ?_) | (with_reducible refine M.Var.far ?_ _ _ ?h; case h => (first | omega | ((try simp [go_sem]) <;> omega))) | fail)) : M.Var _ (w3.heap.size) #[.int .i64 0, .int .i64 0]) (by intro u hu; all_goals (first | rw [M.usBx_block hu] | rw [M.usV_block hu] | rw [M.usI_block hu] | rw [M.usHt_block hu] | rw [M.usBd_block hu] | rw [M.cell_block1 hu] | (exfalso; simp at hu; done)); all_goals ((try simp [go_sem]) <;> omega)))) (M.sets_size _ _) hb
      have V4_m : M.Var w4 (w3.heap.size + 1) #[.int .i64 0] := M.Var.mono' (u := M.sets _ ([])) (by (try simp only [M.sets_append]); exact (M.var_sets_far ([]) (by (repeat (first | (with_reducible assumption) | (refine M.var_alloc' _ _ _ ?_; first | rfl | (simp [go_sem]; done)) | (with_reducible refine M.Var.alloc ?_ _) | (with_reducible refine M.Var.drewN ?_ _) | (with_reducible refine M.Var.drew ?_) | (with_reducible refine M.Var.far ?_ _ _ ?h; case h => (first | omega | ((try simp [go_sem]) <;> omega))) | fail)) : M.Var _ (w3.heap.size + 1) #[.int .i64 0]) (by intro u hu; all_goals (first | rw [M.usBx_block hu] | rw [M.usV_block hu] | rw [M.usI_block hu] | rw [M.usHt_block hu] | rw [M.usBd_block hu] | rw [M.cell_block1 hu] | (exfalso; simp at hu; done)); all_goals ((try simp [go_sem]) <;> omega)))) (M.sets_size _ _) hb
      have q4_b_0 := V4_b.c 0 _ rfl
      have q4_b_1 := V4_b.c 1 _ rfl
      have q4_b_2 := V4_b.c 2 _ rfl
      have q4_b_3 := V4_b.c 3 _ rfl
      have q4_b_4 := V4_b.c 4 _ rfl
      have q4_b_5 := V4_b.c 5 _ rfl
      have q4_b_6 := V4_b.c 6 _ rfl
      have q4_b_7 := V4_b.c 7 _ rfl
      have f4_b := V4_b.2.2; have L4_b := V4_b.lt; have N4_b := Nat.ne_of_gt L4_b; have M4_b := Nat.ne_of_lt L4_b
      have HV4_b := Lib.hid V4_b
      have q4_c_0 := V4_c.c 0 _ rfl
      have f4_c := V4_c.2.2; have L4_c := V4_c.lt; have N4_c := Nat.ne_of_gt L4_c; have M4_c := Nat.ne_of_lt L4_c
      have HV4_c := Lib.hid V4_c
      have q4_d_0 := V4_d.c 0 _ rfl
      have f4_d := V4_d.2.2; have L4_d := V4_d.lt; have N4_d := Nat.ne_of_gt L4_d; have M4_d := Nat.ne_of_lt L4_d
      have HV4_d := Lib.hid V4_d
      have q4_s_0 := V4_s.c 0 _ rfl
      have q4_s_1 := V4_s.c 1 _ rfl
      have f4_s := V4_s.2.2; have L4_s := V4_s.lt; have N4_s := Nat.ne_of_gt L4_s; have M4_s := Nat.ne_of_lt L4_s
      have HV4_s := Lib.hid V4_s
      have q4_o_0 := V4_o.c 0 _ rfl
      have q4_o_1 := V4_o.c 1 _ rfl
      have f4_o := V4_o.2.2; have L4_o := V4_o.lt; have N4_o := Nat.ne_of_gt L4_o; have M4_o := Nat.ne_of_lt L4_o
      have HV4_o := Lib.hid V4_o
      have q4_m_0 := V4_m.c 0 _ rfl
      have f4_m := V4_m.2.2; have L4_m := V4_m.lt; have N4_m := Nat.ne_of_gt L4_m; have M4_m := Nat.ne_of_lt L4_m
      have HV4_m := Lib.hid V4_m
      have S4 := G4.size; clear hb
      go_wp2_with fail
      refine (try_c 60 #[.pointer (some ⟨w.heap.size, 0, none⟩), .pointer (some ⟨w3.heap.size + 1, 0, none⟩)] _ (j) ([]) (fun _ => rfl) ?_ ?_).mono ?_
      · intro u hu; (try simp only [List.mem_append] at hu); (repeat' (obtain hu | hu := (hu : _ ∨ _))); all_goals (first | rw [M.usBx_block hu] | rw [M.usV_block hu] | rw [M.usI_block hu] | rw [M.usHt_block hu] | rw [M.usBd_block hu] | rw [M.cell_block1 hu] | (exfalso; simp at hu; done)); all_goals ((try simp [go_sem]) <;> omega)
      · intro w1' hb; exact (cloLight _ _ b hB _ (.error j) hR.out w1' (M.Var.mono (b := w.heap.size) (cs := #[.int .i64 b.shape, .int .i64 b.sx, .int .i64 b.sy, .int .i64 b.mass, .int .i64 b.px, .int .i64 b.py, .int .i64 b.mx, .int .i64 b.my]) (by (repeat (first | (with_reducible assumption) | (refine M.var_alloc' _ _ _ ?_; first | rfl | (simp [go_sem]; done)) | (with_reducible refine M.Var.alloc ?_ _) | (with_reducible refine M.Var.drewN ?_ _) | (with_reducible refine M.Var.drew ?_) | (with_reducible refine M.Var.far ?_ _ _ ?h; case h => (first | omega | ((try simp [go_sem]) <;> omega))) | fail))) hb) (M.Var.mono (b := w3.heap.size + 1) (cs := #[.int .i64 0]) (by (repeat (first | (with_reducible assumption) | (refine M.var_alloc' _ _ _ ?_; first | rfl | (simp [go_sem]; done)) | (with_reducible refine M.Var.alloc ?_ _) | (with_reducible refine M.Var.drewN ?_ _) | (with_reducible refine M.Var.drew ?_) | (with_reducible refine M.Var.far ?_ _ _ ?h; case h => (first | omega | ((try simp [go_sem]) <;> omega))) | fail))) hb)).mono fun e w' h => h
      rintro en w5 ⟨rfl, hb⟩
      have G5 : Below w.heap.size w w5 := Below.trans (M.below_sets_own ([]) (by (repeat (with_reducible refine M.Below.drewN ?_ _)); go_grown) (by intro u hu; (try simp only [List.mem_append] at hu); (repeat' (obtain hu | hu := (hu : _ ∨ _))); all_goals (first | rw [M.usBx_block hu] | rw [M.usV_block hu] | rw [M.usI_block hu] | rw [M.usHt_block hu] | rw [M.usBd_block hu] | rw [M.cell_block1 hu] | (exfalso; simp at hu; done)); all_goals ((try simp [go_sem]) <;> omega))) (hb.mono (by go_size))
      have V5_b : M.Var w5 (w.heap.size) #[.int .i64 b.shape, .int .i64 b.sx, .int .i64 b.sy, .int .i64 b.mass, .int .i64 b.px, .int .i64 b.py, .int .i64 b.mx, .int .i64 b.my] := M.Var.mono' (u := M.sets _ ([])) (by (try simp only [M.sets_append]); exact (M.var_sets_far ([]) (by (repeat (first | (with_reducible assumption) | (refine M.var_alloc' _ _ _ ?_; first | rfl | (simp [go_sem]; done)) | (with_reducible refine M.Var.alloc ?_ _) | (with_reducible refine M.Var.drewN ?_ _) | (with_reducible refine M.Var.drew ?_) | (with_reducible refine M.Var.far ?_ _ _ ?h; case h => (first | omega | ((try simp [go_sem]) <;> omega))) | fail)) : M.Var _ (w.heap.size) #[.int .i64 b.shape, .int .i64 b.sx, .int .i64 b.sy, .int .i64 b.mass, .int .i64 b.px, .int .i64 b.py, .int .i64 b.mx, .int .i64 b.my]) (by intro u hu; all_goals (first | rw [M.usBx_block hu] | rw [M.usV_block hu] | rw [M.usI_block hu] | rw [M.usHt_block hu] | rw [M.usBd_block hu] | rw [M.cell_block1 hu] | (exfalso; simp at hu; done)); all_goals ((try simp [go_sem]) <;> omega)))) (M.sets_size _ _) hb
      have V5_c : M.Var w5 (w1.heap.size) #[.int .i64 i] := M.Var.mono' (u := M.sets _ ([])) (by (try simp only [M.sets_append]); exact (M.var_sets_far ([]) (by (repeat (first | (with_reducible assumption) | (refine M.var_alloc' _ _ _ ?_; first | rfl | (simp [go_sem]; done)) | (with_reducible refine M.Var.alloc ?_ _) | (with_reducible refine M.Var.drewN ?_ _) | (with_reducible refine M.Var.drew ?_) | (with_reducible refine M.Var.far ?_ _ _ ?h; case h => (first | omega | ((try simp [go_sem]) <;> omega))) | fail)) : M.Var _ (w1.heap.size) #[.int .i64 i]) (by intro u hu; all_goals (first | rw [M.usBx_block hu] | rw [M.usV_block hu] | rw [M.usI_block hu] | rw [M.usHt_block hu] | rw [M.usBd_block hu] | rw [M.cell_block1 hu] | (exfalso; simp at hu; done)); all_goals ((try simp [go_sem]) <;> omega)))) (M.sets_size _ _) hb
      have V5_d : M.Var w5 (w1.heap.size + 1) #[.int .i64 j] := M.Var.mono' (u := M.sets _ ([])) (by (try simp only [M.sets_append]); exact (M.var_sets_far ([]) (by (repeat (first | (with_reducible assumption) | (refine M.var_alloc' _ _ _ ?_; first | rfl | (simp [go_sem]; done)) | (with_reducible refine M.Var.alloc ?_ _) | (with_reducible refine M.Var.drewN ?_ _) | (with_reducible refine M.Var.drew ?_) | (with_reducible refine M.Var.far ?_ _ _ ?h; case h => (first | omega | ((try simp [go_sem]) <;> omega))) | fail)) : M.Var _ (w1.heap.size + 1) #[.int .i64 j]) (by intro u hu; all_goals (first | rw [M.usBx_block hu] | rw [M.usV_block hu] | rw [M.usI_block hu] | rw [M.usHt_block hu] | rw [M.usBd_block hu] | rw [M.cell_block1 hu] | (exfalso; simp at hu; done)); all_goals ((try simp [go_sem]) <;> omega)))) (M.sets_size _ _) hb
      have V5_s : M.Var w5 (w2.heap.size) #[.int .i64 u, .int .i64 v] := M.Var.mono' (u := M.sets _ ([])) (by (try simp only [M.sets_append]); exact (M.var_sets_far ([]) (by (repeat (first | (with_reducible assumption) | (refine M.var_alloc' _ _ _ ?_; first | rfl | (simp [go_sem]; done)) | (with_reducible refine M.Var.alloc ?_ _) | (with_reducible refine M.Var.drewN ?_ _) | (with_reducible refine M.Var.drew ?_) | (with_reducible refine M.Var.far ?_ _ _ ?h; case h => (first | omega | ((try simp [go_sem]) <;> omega))) | fail)) : M.Var _ (w2.heap.size) #[.int .i64 u, .int .i64 v]) (by intro u hu; all_goals (first | rw [M.usBx_block hu] | rw [M.usV_block hu] | rw [M.usI_block hu] | rw [M.usHt_block hu] | rw [M.usBd_block hu] | rw [M.cell_block1 hu] | (exfalso; simp at hu; done)); all_goals ((try simp [go_sem]) <;> omega)))) (M.sets_size _ _) hb
      have V5_o : M.Var w5 (w3.heap.size) #[.int .i64 0, .int .i64 0] := M.Var.mono' (u := M.sets _ ([])) (by (try simp only [M.sets_append]); exact (M.var_sets_far ([]) (by (repeat (first | (with_reducible assumption) | (refine M.var_alloc' _ _ _ ?_; first | rfl | (simp [go_sem]; done)) | (with_reducible refine M.Var.alloc ?_ _) | (with_reducible refine M.Var.drewN ?_ _) | (with_reducible refine M.Var.drew ?_) | (with_reducible refine M.Var.far ?_ _ _ ?h; case h => (first | omega | ((try simp [go_sem]) <;> omega))) | fail)) : M.Var _ (w3.heap.size) #[.int .i64 0, .int .i64 0]) (by intro u hu; all_goals (first | rw [M.usBx_block hu] | rw [M.usV_block hu] | rw [M.usI_block hu] | rw [M.usHt_block hu] | rw [M.usBd_block hu] | rw [M.cell_block1 hu] | (exfalso; simp at hu; done)); all_goals ((try simp [go_sem]) <;> omega)))) (M.sets_size _ _) hb
      have V5_m : M.Var w5 (w3.heap.size + 1) #[.int .i64 0] := M.Var.mono' (u := M.sets _ ([])) (by (try simp only [M.sets_append]); exact (M.var_sets_far ([]) (by (repeat (first | (with_reducible assumption) | (refine M.var_alloc' _ _ _ ?_; first | rfl | (simp [go_sem]; done)) | (with_reducible refine M.Var.alloc ?_ _) | (with_reducible refine M.Var.drewN ?_ _) | (with_reducible refine M.Var.drew ?_) | (with_reducible refine M.Var.far ?_ _ _ ?h; case h => (first | omega | ((try simp [go_sem]) <;> omega))) | fail)) : M.Var _ (w3.heap.size + 1) #[.int .i64 0]) (by intro u hu; all_goals (first | rw [M.usBx_block hu] | rw [M.usV_block hu] | rw [M.usI_block hu] | rw [M.usHt_block hu] | rw [M.usBd_block hu] | rw [M.cell_block1 hu] | (exfalso; simp at hu; done)); all_goals ((try simp [go_sem]) <;> omega)))) (M.sets_size _ _) hb
      have q5_b_0 := V5_b.c 0 _ rfl
      have q5_b_1 := V5_b.c 1 _ rfl
      have q5_b_2 := V5_b.c 2 _ rfl
      have q5_b_3 := V5_b.c 3 _ rfl
      have q5_b_4 := V5_b.c 4 _ rfl
      have q5_b_5 := V5_b.c 5 _ rfl
      have q5_b_6 := V5_b.c 6 _ rfl
      have q5_b_7 := V5_b.c 7 _ rfl
      have f5_b := V5_b.2.2; have L5_b := V5_b.lt; have N5_b := Nat.ne_of_gt L5_b; have M5_b := Nat.ne_of_lt L5_b
      have HV5_b := Lib.hid V5_b
      have q5_c_0 := V5_c.c 0 _ rfl
      have f5_c := V5_c.2.2; have L5_c := V5_c.lt; have N5_c := Nat.ne_of_gt L5_c; have M5_c := Nat.ne_of_lt L5_c
      have HV5_c := Lib.hid V5_c
      have q5_d_0 := V5_d.c 0 _ rfl
      have f5_d := V5_d.2.2; have L5_d := V5_d.lt; have N5_d := Nat.ne_of_gt L5_d; have M5_d := Nat.ne_of_lt L5_d
      have HV5_d := Lib.hid V5_d
      have q5_s_0 := V5_s.c 0 _ rfl
      have q5_s_1 := V5_s.c 1 _ rfl
      have f5_s := V5_s.2.2; have L5_s := V5_s.lt; have N5_s := Nat.ne_of_gt L5_s; have M5_s := Nat.ne_of_lt L5_s
      have HV5_s := Lib.hid V5_s
      have q5_o_0 := V5_o.c 0 _ rfl
      have q5_o_1 := V5_o.c 1 _ rfl
      have f5_o := V5_o.2.2; have L5_o := V5_o.lt; have N5_o := Nat.ne_of_gt L5_o; have M5_o := Nat.ne_of_lt L5_o
      have HV5_o := Lib.hid V5_o
      have q5_m_0 := V5_m.c 0 _ rfl
      have f5_m := V5_m.2.2; have L5_m := V5_m.lt; have N5_m := Nat.ne_of_gt L5_m; have M5_m := Nat.ne_of_lt L5_m
      have HV5_m := Lib.hid V5_m
      have S5 := G5.size; clear hb
      go_wp2_with fail
      refine M.wp_region_later (fun w' => M.Var w' (w.heap.size) #[.int .i64 b.shape, .int .i64 b.sx, .int .i64 b.sy, .int .i64 b.mass, .int .i64 b.px, .int .i64 b.py, .int .i64 b.mx, .int .i64 b.my] ∧ M.Var w' (w1.heap.size) #[.int .i64 i] ∧ M.Var w' (w1.heap.size + 1) #[.int .i64 j] ∧ M.Var w' (w2.heap.size) #[.int .i64 u, .int .i64 v] ∧ M.Var w' (w3.heap.size) #[.int .i64 0, .int .i64 0] ∧ M.Var w' (w3.heap.size + 1) #[.int .i64 0] ∧ True) (by kernel_rfl) (by kernel_rfl) (fun w' hb => ⟨M.Var.mono (by (repeat (first | (with_reducible assumption) | (refine M.var_alloc' _ _ _ ?_; first | rfl | (simp [go_sem]; done)) | (with_reducible refine M.Var.alloc ?_ _) | (with_reducible refine M.Var.drewN ?_ _) | (with_reducible refine M.Var.drew ?_) | (with_reducible refine M.Var.far ?_ _ _ ?h; case h => (first | omega | ((try simp [go_sem]) <;> omega))) | fail)) : M.Var _ (w.heap.size) #[.int .i64 b.shape, .int .i64 b.sx, .int .i64 b.sy, .int .i64 b.mass, .int .i64 b.px, .int .i64 b.py, .int .i64 b.mx, .int .i64 b.my]) hb, M.Var.mono (by (repeat (first | (with_reducible assumption) | (refine M.var_alloc' _ _ _ ?_; first | rfl | (simp [go_sem]; done)) | (with_reducible refine M.Var.alloc ?_ _) | (with_reducible refine M.Var.drewN ?_ _) | (with_reducible refine M.Var.drew ?_) | (with_reducible refine M.Var.far ?_ _ _ ?h; case h => (first | omega | ((try simp [go_sem]) <;> omega))) | fail)) : M.Var _ (w1.heap.size) #[.int .i64 i]) hb, M.Var.mono (by (repeat (first | (with_reducible assumption) | (refine M.var_alloc' _ _ _ ?_; first | rfl | (simp [go_sem]; done)) | (with_reducible refine M.Var.alloc ?_ _) | (with_reducible refine M.Var.drewN ?_ _) | (with_reducible refine M.Var.drew ?_) | (with_reducible refine M.Var.far ?_ _ _ ?h; case h => (first | omega | ((try simp [go_sem]) <;> omega))) | fail)) : M.Var _ (w1.heap.size + 1) #[.int .i64 j]) hb, M.Var.mono (by (repeat (first | (with_reducible assumption) | (refine M.var_alloc' _ _ _ ?_; first | rfl | (simp [go_sem]; done)) | (with_reducible refine M.Var.alloc ?_ _) | (with_reducible refine M.Var.drewN ?_ _) | (with_reducible refine M.Var.drew ?_) | (with_reducible refine M.Var.far ?_ _ _ ?h; case h => (first | omega | ((try simp [go_sem]) <;> omega))) | fail)) : M.Var _ (w2.heap.size) #[.int .i64 u, .int .i64 v]) hb, M.Var.mono (by (repeat (first | (with_reducible assumption) | (refine M.var_alloc' _ _ _ ?_; first | rfl | (simp [go_sem]; done)) | (with_reducible refine M.Var.alloc ?_ _) | (with_reducible refine M.Var.drewN ?_ _) | (with_reducible refine M.Var.drew ?_) | (with_reducible refine M.Var.far ?_ _ _ ?h; case h => (first | omega | ((try simp [go_sem]) <;> omega))) | fail)) : M.Var _ (w3.heap.size) #[.int .i64 0, .int .i64 0]) hb, M.Var.mono (by (repeat (first | (with_reducible assumption) | (refine M.var_alloc' _ _ _ ?_; first | rfl | (simp [go_sem]; done)) | (with_reducible refine M.Var.alloc ?_ _) | (with_reducible refine M.Var.drewN ?_ _) | (with_reducible refine M.Var.drew ?_) | (with_reducible refine M.Var.far ?_ _ _ ?h; case h => (first | omega | ((try simp [go_sem]) <;> omega))) | fail)) : M.Var _ (w3.heap.size + 1) #[.int .i64 0]) hb, trivial⟩) ?_
      intro hS
      have z6_b_0 := fun p => (hS p).1.c 0 _ rfl
      have z6_b_1 := fun p => (hS p).1.c 1 _ rfl
      have z6_b_2 := fun p => (hS p).1.c 2 _ rfl
      have z6_b_3 := fun p => (hS p).1.c 3 _ rfl
      have z6_b_4 := fun p => (hS p).1.c 4 _ rfl
      have z6_b_5 := fun p => (hS p).1.c 5 _ rfl
      have z6_b_6 := fun p => (hS p).1.c 6 _ rfl
      have z6_b_7 := fun p => (hS p).1.c 7 _ rfl
      have z6_c_0 := fun p => (hS p).2.1.c 0 _ rfl
      have z6_d_0 := fun p => (hS p).2.2.1.c 0 _ rfl
      have z6_s_0 := fun p => (hS p).2.2.2.1.c 0 _ rfl
      have z6_s_1 := fun p => (hS p).2.2.2.1.c 1 _ rfl
      have z6_o_0 := fun p => (hS p).2.2.2.2.1.c 0 _ rfl
      have z6_o_1 := fun p => (hS p).2.2.2.2.1.c 1 _ rfl
      have z6_m_0 := fun p => (hS p).2.2.2.2.2.1.c 0 _ rfl
      have HS := Lib.hid hS; clear hS
      repeat (go_big_quiet_step ((first
            | (go_at_call 62; with_reducible exact M.later_of (C1.out _))
            | (go_at_call 45; with_reducible exact M.later_of (C2.out _))
            | (go_at_call 63; with_reducible exact M.later_of_dr (C3.out _))
        )))
      refine wpQuiet_nil ?_
      intro w6 hw'
      obtain ⟨pL, hL⟩ := hw'
      have hb := pL.h; rw [← hL] at hb; clear hL pL
      have G6 : Below w.heap.size w w6 := Below.trans (by (repeat (with_reducible refine M.Below.drewN ?_ _)); go_grown) (hb.mono (by go_size))
      have V6_b : M.Var w6 (w.heap.size) #[.int .i64 b.shape, .int .i64 b.sx, .int .i64 b.sy, .int .i64 b.mass, .int .i64 b.px, .int .i64 b.py, .int .i64 b.mx, .int .i64 b.my] := M.Var.mono (by (repeat (first | (with_reducible assumption) | (refine M.var_alloc' _ _ _ ?_; first | rfl | (simp [go_sem]; done)) | (with_reducible refine M.Var.alloc ?_ _) | (with_reducible refine M.Var.drewN ?_ _) | (with_reducible refine M.Var.drew ?_) | (with_reducible refine M.Var.far ?_ _ _ ?h; case h => (first | omega | ((try simp [go_sem]) <;> omega))) | fail))) hb
      have V6_c : M.Var w6 (w1.heap.size) #[.int .i64 i] := M.Var.mono (by (repeat (first | (with_reducible assumption) | (refine M.var_alloc' _ _ _ ?_; first | rfl | (simp [go_sem]; done)) | (with_reducible refine M.Var.alloc ?_ _) | (with_reducible refine M.Var.drewN ?_ _) | (with_reducible refine M.Var.drew ?_) | (with_reducible refine M.Var.far ?_ _ _ ?h; case h => (first | omega | ((try simp [go_sem]) <;> omega))) | fail))) hb
      have V6_d : M.Var w6 (w1.heap.size + 1) #[.int .i64 j] := M.Var.mono (by (repeat (first | (with_reducible assumption) | (refine M.var_alloc' _ _ _ ?_; first | rfl | (simp [go_sem]; done)) | (with_reducible refine M.Var.alloc ?_ _) | (with_reducible refine M.Var.drewN ?_ _) | (with_reducible refine M.Var.drew ?_) | (with_reducible refine M.Var.far ?_ _ _ ?h; case h => (first | omega | ((try simp [go_sem]) <;> omega))) | fail))) hb
      have V6_s : M.Var w6 (w2.heap.size) #[.int .i64 u, .int .i64 v] := M.Var.mono (by (repeat (first | (with_reducible assumption) | (refine M.var_alloc' _ _ _ ?_; first | rfl | (simp [go_sem]; done)) | (with_reducible refine M.Var.alloc ?_ _) | (with_reducible refine M.Var.drewN ?_ _) | (with_reducible refine M.Var.drew ?_) | (with_reducible refine M.Var.far ?_ _ _ ?h; case h => (first | omega | ((try simp [go_sem]) <;> omega))) | fail))) hb
      have V6_o : M.Var w6 (w3.heap.size) #[.int .i64 0, .int .i64 0] := M.Var.mono (by (repeat (first | (with_reducible assumption) | (refine M.var_alloc' _ _ _ ?_; first | rfl | (simp [go_sem]; done)) | (with_reducible refine M.Var.alloc ?_ _) | (with_reducible refine M.Var.drewN ?_ _) | (with_reducible refine M.Var.drew ?_) | (with_reducible refine M.Var.far ?_ _ _ ?h; case h => (first | omega | ((try simp [go_sem]) <;> omega))) | fail))) hb
      have V6_m : M.Var w6 (w3.heap.size + 1) #[.int .i64 0] := M.Var.mono (by (repeat (first | (with_reducible assumption) | (refine M.var_alloc' _ _ _ ?_; first | rfl | (simp [go_sem]; done)) | (with_reducible refine M.Var.alloc ?_ _) | (with_reducible refine M.Var.drewN ?_ _) | (with_reducible refine M.Var.drew ?_) | (with_reducible refine M.Var.far ?_ _ _ ?h; case h => (first | omega | ((try simp [go_sem]) <;> omega))) | fail))) hb
      have q6_b_0 := V6_b.c 0 _ rfl
      have q6_b_1 := V6_b.c 1 _ rfl
      have q6_b_2 := V6_b.c 2 _ rfl
      have q6_b_3 := V6_b.c 3 _ rfl
      have q6_b_4 := V6_b.c 4 _ rfl
      have q6_b_5 := V6_b.c 5 _ rfl
      have q6_b_6 := V6_b.c 6 _ rfl
      have q6_b_7 := V6_b.c 7 _ rfl
      have f6_b := V6_b.2.2; have L6_b := V6_b.lt; have N6_b := Nat.ne_of_gt L6_b; have M6_b := Nat.ne_of_lt L6_b
      have HV6_b := Lib.hid V6_b
      have q6_c_0 := V6_c.c 0 _ rfl
      have f6_c := V6_c.2.2; have L6_c := V6_c.lt; have N6_c := Nat.ne_of_gt L6_c; have M6_c := Nat.ne_of_lt L6_c
      have HV6_c := Lib.hid V6_c
      have q6_d_0 := V6_d.c 0 _ rfl
      have f6_d := V6_d.2.2; have L6_d := V6_d.lt; have N6_d := Nat.ne_of_gt L6_d; have M6_d := Nat.ne_of_lt L6_d
      have HV6_d := Lib.hid V6_d
      have q6_s_0 := V6_s.c 0 _ rfl
      have q6_s_1 := V6_s.c 1 _ rfl
      have f6_s := V6_s.2.2; have L6_s := V6_s.lt; have N6_s := Nat.ne_of_gt L6_s; have M6_s := Nat.ne_of_lt L6_s
      have HV6_s := Lib.hid V6_s
      have q6_o_0 := V6_o.c 0 _ rfl
      have q6_o_1 := V6_o.c 1 _ rfl
      have f6_o := V6_o.2.2; have L6_o := V6_o.lt; have N6_o := Nat.ne_of_gt L6_o; have M6_o := Nat.ne_of_lt L6_o
      have HV6_o := Lib.hid V6_o
      have q6_m_0 := V6_m.c 0 _ rfl
      have f6_m := V6_m.2.2; have L6_m := V6_m.lt; have N6_m := Nat.ne_of_gt L6_m; have M6_m := Nat.ne_of_lt L6_m
      have HV6_m := Lib.hid V6_m
      have S6 := G6.size; clear hb
      clear z6_b_0 z6_b_1 z6_b_2 z6_b_3 z6_b_4 z6_b_5 z6_b_6 z6_b_7 z6_c_0 z6_d_0 z6_s_0 z6_s_1 z6_o_0 z6_o_1 z6_m_0 HS
      go_wp2_with fail
      go_ret
      exact ⟨rfl, by (repeat (with_reducible refine M.Below.drewN ?_ _)); go_grown⟩
  · have z1 := bne_iff_ne.2 (nz_speed b i hP)
    have K1 := Lib.hid (fun pb w hp => (refSpeed_x pb 0 b hB w hp).mono fun en w' h => relV_err hP h)
    have K2 := Lib.hid (fun pb w hp => (refLight_x pb 0 b hB w hp).mono fun en w' h => relI_ok hR h)
    replace hP := Lib.hid hP; replace hR := Lib.hid hR
    have hn : n = 1 ∨ n = 2 ∨ ((n == 1) = false ∧ (n == 2) = false ∧ nameS n = ⟨#[]⟩) := by
      by_cases h1 : n = 1
      · exact .inl h1
      · by_cases h2 : n = 2
        · exact .inr (.inl h2)
        · exact .inr (.inr ⟨beq_eq_false_iff_ne.2 h1, beq_eq_false_iff_ne.2 h2, by unfold nameS; rw [if_neg h1, if_neg h2]⟩)
    rcases hn with rfl | rfl | ⟨h1, h2, h3⟩
    · rw [show nameS 1 = ⟨#[98, 97, 108, 108]⟩ from rfl] at c3
      have C3 := Lib.hid c3
      clear c3
      go_enter Try.func8, Try.ntmps8
      go_wp2_with fail
      (with_reducible refine (c0.out _).mono ?_); rintro en w1 ⟨rfl, hb⟩
      have G1 : Below w.heap.size w w1 := Below.trans (by (repeat (with_reducible refine M.Below.drewN ?_ _)); go_grown) (hb.mono (by go_size))
      have V1_b : M.Var w1 (w.heap.size) #[.int .i64 b.shape, .int .i64 b.sx, .int .i64 b.sy, .int .i64 b.mass, .int .i64 b.px, .int .i64 b.py, .int .i64 b.mx, .int .i64 b.my] := M.Var.mono (by (repeat (first | (with_reducible assumption) | (refine M.var_alloc' _ _ _ ?_; first | rfl | (simp [go_sem]; done)) | (with_reducible refine M.Var.alloc ?_ _) | (with_reducible refine M.Var.drewN ?_ _) | (with_reducible refine M.Var.drew ?_) | (with_reducible refine M.Var.far ?_ _ _ ?h; case h => (first | omega | ((try simp [go_sem]) <;> omega))) | fail))) hb
      have q1_b_0 := V1_b.c 0 _ rfl
      have q1_b_1 := V1_b.c 1 _ rfl
      have q1_b_2 := V1_b.c 2 _ rfl
      have q1_b_3 := V1_b.c 3 _ rfl
      have q1_b_4 := V1_b.c 4 _ rfl
      have q1_b_5 := V1_b.c 5 _ rfl
      have q1_b_6 := V1_b.c 6 _ rfl
      have q1_b_7 := V1_b.c 7 _ rfl
      have f1_b := V1_b.2.2; have L1_b := V1_b.lt; have N1_b := Nat.ne_of_gt L1_b; have M1_b := Nat.ne_of_lt L1_b
      have HV1_b := Lib.hid V1_b
      have S1 := G1.size; clear hb
      go_wp2_with fail
      (with_reducible refine (K1.out _ _ (M.pcell_var (by (repeat (first | (with_reducible assumption) | (refine M.var_alloc' _ _ _ ?_; first | rfl | (simp [go_sem]; done)) | (with_reducible refine M.Var.alloc ?_ _) | (with_reducible refine M.Var.drewN ?_ _) | (with_reducible refine M.Var.drew ?_) | (with_reducible refine M.Var.far ?_ _ _ ?h; case h => (first | omega | ((try simp [go_sem]) <;> omega))) | fail)) : M.Var _ (w1.heap.size) #[.int .i64 0]))).mono ?_); rintro en w2 ⟨⟨u, v, rfl⟩, hb⟩
      have G2 : Below w.heap.size w w2 := Below.trans (M.below_sets_own ([(⟨w1.heap.size, 0, none⟩, .int .i64 i)]) (by (repeat (with_reducible refine M.Below.drewN ?_ _)); go_grown) (by intro u hu; rw [M.cell_block1 hu]; dsimp only; omega)) (hb.mono (by go_size))
      have V2_b : M.Var w2 (w.heap.size) #[.int .i64 b.shape, .int .i64 b.sx, .int .i64 b.sy, .int .i64 b.mass, .int .i64 b.px, .int .i64 b.py, .int .i64 b.mx, .int .i64 b.my] := M.Var.mono' (u := M.sets _ ([(⟨w1.heap.size, 0, none⟩, .int .i64 i)])) (by (try simp only [M.sets_append]); exact (M.var_sets_far ([(⟨w1.heap.size, 0, none⟩, .int .i64 i)]) (by (repeat (first | (with_reducible assumption) | (refine M.var_alloc' _ _ _ ?_; first | rfl | (simp [go_sem]; done)) | (with_reducible refine M.Var.alloc ?_ _) | (with_reducible refine M.Var.drewN ?_ _) | (with_reducible refine M.Var.drew ?_) | (with_reducible refine M.Var.far ?_ _ _ ?h; case h => (first | omega | ((try simp [go_sem]) <;> omega))) | fail)) : M.Var _ (w.heap.size) #[.int .i64 b.shape, .int .i64 b.sx, .int .i64 b.sy, .int .i64 b.mass, .int .i64 b.px, .int .i64 b.py, .int .i64 b.mx, .int .i64 b.my]) (by intro u hu; all_goals (first | rw [M.usBx_block hu] | rw [M.usV_block hu] | rw [M.usI_block hu] | rw [M.usHt_block hu] | rw [M.usBd_block hu] | rw [M.cell_block1 hu] | (exfalso; simp at hu; done)); all_goals ((try simp [go_sem]) <;> omega)))) (M.sets_size _ _) hb
      have V2_c : M.Var w2 (w1.heap.size) #[.int .i64 i] := M.Var.mono' (u := M.sets _ ([(⟨w1.heap.size, 0, none⟩, .int .i64 i)])) (by (try simp only [M.sets_append]); exact (M.var_setI (by (repeat (first | (with_reducible assumption) | (refine M.var_alloc' _ _ _ ?_; first | rfl | (simp [go_sem]; done)) | (with_reducible refine M.Var.alloc ?_ _) | (with_reducible refine M.Var.drewN ?_ _) | (with_reducible refine M.Var.drew ?_) | (with_reducible refine M.Var.far ?_ _ _ ?h; case h => (first | omega | ((try simp [go_sem]) <;> omega))) | fail)) : M.Var _ (w1.heap.size) #[.int .i64 0]) _)) (M.sets_size _ _) hb
      have V2_d : M.Var w2 (w1.heap.size + 1) #[.int .i64 0] := M.Var.mono' (u := M.sets _ ([(⟨w1.heap.size, 0, none⟩, .int .i64 i)])) (by (try simp only [M.sets_append]); exact (M.var_sets_far ([(⟨w1.heap.size, 0, none⟩, .int .i64 i)]) (by (repeat (first | (with_reducible assumption) | (refine M.var_alloc' _ _ _ ?_; first | rfl | (simp [go_sem]; done)) | (with_reducible refine M.Var.alloc ?_ _) | (with_reducible refine M.Var.drewN ?_ _) | (with_reducible refine M.Var.drew ?_) | (with_reducible refine M.Var.far ?_ _ _ ?h; case h => (first | omega | ((try simp [go_sem]) <;> omega))) | fail)) : M.Var _ (w1.heap.size + 1) #[.int .i64 0]) (by intro u hu; all_goals (first | rw [M.usBx_block hu] | rw [M.usV_block hu] | rw [M.usI_block hu] | rw [M.usHt_block hu] | rw [M.usBd_block hu] | rw [M.cell_block1 hu] | (exfalso; simp at hu; done)); all_goals ((try simp [go_sem]) <;> omega)))) (M.sets_size _ _) hb
      have q2_b_0 := V2_b.c 0 _ rfl
      have q2_b_1 := V2_b.c 1 _ rfl
      have q2_b_2 := V2_b.c 2 _ rfl
      have q2_b_3 := V2_b.c 3 _ rfl
      have q2_b_4 := V2_b.c 4 _ rfl
      have q2_b_5 := V2_b.c 5 _ rfl
      have q2_b_6 := V2_b.c 6 _ rfl
      have q2_b_7 := V2_b.c 7 _ rfl
      have f2_b := V2_b.2.2; have L2_b := V2_b.lt; have N2_b := Nat.ne_of_gt L2_b; have M2_b := Nat.ne_of_lt L2_b
      have HV2_b := Lib.hid V2_b
      have q2_c_0 := V2_c.c 0 _ rfl
      have f2_c := V2_c.2.2; have L2_c := V2_c.lt; have N2_c := Nat.ne_of_gt L2_c; have M2_c := Nat.ne_of_lt L2_c
      have HV2_c := Lib.hid V2_c
      have q2_d_0 := V2_d.c 0 _ rfl
      have f2_d := V2_d.2.2; have L2_d := V2_d.lt; have N2_d := Nat.ne_of_gt L2_d; have M2_d := Nat.ne_of_lt L2_d
      have HV2_d := Lib.hid V2_d
      have S2 := G2.size; clear hb
      go_wp2_with fail
      (with_reducible refine (K2.out _ _ (M.pcell_var (by (repeat (first | (with_reducible assumption) | (refine M.var_alloc' _ _ _ ?_; first | rfl | (simp [go_sem]; done)) | (with_reducible refine M.Var.alloc ?_ _) | (with_reducible refine M.Var.drewN ?_ _) | (with_reducible refine M.Var.drew ?_) | (with_reducible refine M.Var.far ?_ _ _ ?h; case h => (first | omega | ((try simp [go_sem]) <;> omega))) | fail)) : M.Var _ (w1.heap.size + 1) #[.int .i64 0]))).mono ?_); rintro en w3 ⟨rfl, hb⟩
      have G3 : Below w.heap.size w w3 := Below.trans (M.below_sets_own ([(⟨w1.heap.size + 1, 0, none⟩, .int .i64 0)]) (by (repeat (with_reducible refine M.Below.drewN ?_ _)); go_grown) (by intro u hu; rw [M.cell_block1 hu]; dsimp only; omega)) (hb.mono (by go_size))
      have V3_b : M.Var w3 (w.heap.size) #[.int .i64 b.shape, .int .i64 b.sx, .int .i64 b.sy, .int .i64 b.mass, .int .i64 b.px, .int .i64 b.py, .int .i64 b.mx, .int .i64 b.my] := M.Var.mono' (u := M.sets _ ([(⟨w1.heap.size + 1, 0, none⟩, .int .i64 0)])) (by (try simp only [M.sets_append]); exact (M.var_sets_far ([(⟨w1.heap.size + 1, 0, none⟩, .int .i64 0)]) (by (repeat (first | (with_reducible assumption) | (refine M.var_alloc' _ _ _ ?_; first | rfl | (simp [go_sem]; done)) | (with_reducible refine M.Var.alloc ?_ _) | (with_reducible refine M.Var.drewN ?_ _) | (with_reducible refine M.Var.drew ?_) | (with_reducible refine M.Var.far ?_ _ _ ?h; case h => (first | omega | ((try simp [go_sem]) <;> omega))) | fail)) : M.Var _ (w.heap.size) #[.int .i64 b.shape, .int .i64 b.sx, .int .i64 b.sy, .int .i64 b.mass, .int .i64 b.px, .int .i64 b.py, .int .i64 b.mx, .int .i64 b.my]) (by intro u hu; all_goals (first | rw [M.usBx_block hu] | rw [M.usV_block hu] | rw [M.usI_block hu] | rw [M.usHt_block hu] | rw [M.usBd_block hu] | rw [M.cell_block1 hu] | (exfalso; simp at hu; done)); all_goals ((try simp [go_sem]) <;> omega)))) (M.sets_size _ _) hb
      have V3_c : M.Var w3 (w1.heap.size) #[.int .i64 i] := M.Var.mono' (u := M.sets _ ([(⟨w1.heap.size + 1, 0, none⟩, .int .i64 0)])) (by (try simp only [M.sets_append]); exact (M.var_sets_far ([(⟨w1.heap.size + 1, 0, none⟩, .int .i64 0)]) (by (repeat (first | (with_reducible assumption) | (refine M.var_alloc' _ _ _ ?_; first | rfl | (simp [go_sem]; done)) | (with_reducible refine M.Var.alloc ?_ _) | (with_reducible refine M.Var.drewN ?_ _) | (with_reducible refine M.Var.drew ?_) | (with_reducible refine M.Var.far ?_ _ _ ?h; case h => (first | omega | ((try simp [go_sem]) <;> omega))) | fail)) : M.Var _ (w1.heap.size) #[.int .i64 i]) (by intro u hu; all_goals (first | rw [M.usBx_block hu] | rw [M.usV_block hu] | rw [M.usI_block hu] | rw [M.usHt_block hu] | rw [M.usBd_block hu] | rw [M.cell_block1 hu] | (exfalso; simp at hu; done)); all_goals ((try simp [go_sem]) <;> omega)))) (M.sets_size _ _) hb
      have V3_d : M.Var w3 (w1.heap.size + 1) #[.int .i64 0] := M.Var.mono' (u := M.sets _ ([(⟨w1.heap.size + 1, 0, none⟩, .int .i64 0)])) (by (try simp only [M.sets_append]); exact (M.var_setI (by (repeat (first | (with_reducible assumption) | (refine M.var_alloc' _ _ _ ?_; first | rfl | (simp [go_sem]; done)) | (with_reducible refine M.Var.alloc ?_ _) | (with_reducible refine M.Var.drewN ?_ _) | (with_reducible refine M.Var.drew ?_) | (with_reducible refine M.Var.far ?_ _ _ ?h; case h => (first | omega | ((try simp [go_sem]) <;> omega))) | fail)) : M.Var _ (w1.heap.size + 1) #[.int .i64 0]) _)) (M.sets_size _ _) hb
      have V3_s : M.Var w3 (w2.heap.size) #[.int .i64 u, .int .i64 v] := M.Var.mono' (u := M.sets _ ([(⟨w1.heap.size + 1, 0, none⟩, .int .i64 0)])) (by (try simp only [M.sets_append]); exact (M.var_sets_far ([(⟨w1.heap.size + 1, 0, none⟩, .int .i64 0)]) (by (repeat (first | (with_reducible assumption) | (refine M.var_alloc' _ _ _ ?_; first | rfl | (simp [go_sem]; done)) | (with_reducible refine M.Var.alloc ?_ _) | (with_reducible refine M.Var.drewN ?_ _) | (with_reducible refine M.Var.drew ?_) | (with_reducible refine M.Var.far ?_ _ _ ?h; case h => (first | omega | ((try simp [go_sem]) <;> omega))) | fail)) : M.Var _ (w2.heap.size) #[.int .i64 u, .int .i64 v]) (by intro u hu; all_goals (first | rw [M.usBx_block hu] | rw [M.usV_block hu] | rw [M.usI_block hu] | rw [M.usHt_block hu] | rw [M.usBd_block hu] | rw [M.cell_block1 hu] | (exfalso; simp at hu; done)); all_goals ((try simp [go_sem]) <;> omega)))) (M.sets_size _ _) hb
      have q3_b_0 := V3_b.c 0 _ rfl
      have q3_b_1 := V3_b.c 1 _ rfl
      have q3_b_2 := V3_b.c 2 _ rfl
      have q3_b_3 := V3_b.c 3 _ rfl
      have q3_b_4 := V3_b.c 4 _ rfl
      have q3_b_5 := V3_b.c 5 _ rfl
      have q3_b_6 := V3_b.c 6 _ rfl
      have q3_b_7 := V3_b.c 7 _ rfl
      have f3_b := V3_b.2.2; have L3_b := V3_b.lt; have N3_b := Nat.ne_of_gt L3_b; have M3_b := Nat.ne_of_lt L3_b
      have HV3_b := Lib.hid V3_b
      have q3_c_0 := V3_c.c 0 _ rfl
      have f3_c := V3_c.2.2; have L3_c := V3_c.lt; have N3_c := Nat.ne_of_gt L3_c; have M3_c := Nat.ne_of_lt L3_c
      have HV3_c := Lib.hid V3_c
      have q3_d_0 := V3_d.c 0 _ rfl
      have f3_d := V3_d.2.2; have L3_d := V3_d.lt; have N3_d := Nat.ne_of_gt L3_d; have M3_d := Nat.ne_of_lt L3_d
      have HV3_d := Lib.hid V3_d
      have q3_s_0 := V3_s.c 0 _ rfl
      have q3_s_1 := V3_s.c 1 _ rfl
      have f3_s := V3_s.2.2; have L3_s := V3_s.lt; have N3_s := Nat.ne_of_gt L3_s; have M3_s := Nat.ne_of_lt L3_s
      have HV3_s := Lib.hid V3_s
      have S3 := G3.size; clear hb
      go_wp2_with fail
      refine (try_c 58 #[.pointer (some ⟨w.heap.size, 0, none⟩), .pointer (some ⟨w3.heap.size, 0, none⟩)] _ (i) ([]) (fun _ => rfl) ?_ ?_).mono ?_
      · intro u hu; (try simp only [List.mem_append] at hu); (repeat' (obtain hu | hu := (hu : _ ∨ _))); all_goals (first | rw [M.usBx_block hu] | rw [M.usV_block hu] | rw [M.usI_block hu] | rw [M.usHt_block hu] | rw [M.usBd_block hu] | rw [M.cell_block1 hu] | (exfalso; simp at hu; done)); all_goals ((try simp [go_sem]) <;> omega)
      · intro w1' hb; exact (cloSpeed _ _ b hB _ _ (.error i) hP.out w1' (M.Var.mono (b := w.heap.size) (cs := #[.int .i64 b.shape, .int .i64 b.sx, .int .i64 b.sy, .int .i64 b.mass, .int .i64 b.px, .int .i64 b.py, .int .i64 b.mx, .int .i64 b.my]) (by (repeat (first | (with_reducible assumption) | (refine M.var_alloc' _ _ _ ?_; first | rfl | (simp [go_sem]; done)) | (with_reducible refine M.Var.alloc ?_ _) | (with_reducible refine M.Var.drewN ?_ _) | (with_reducible refine M.Var.drew ?_) | (with_reducible refine M.Var.far ?_ _ _ ?h; case h => (first | omega | ((try simp [go_sem]) <;> omega))) | fail))) hb) (M.Var.mono (b := w3.heap.size) (cs := #[.int .i64 0, .int .i64 0]) (by (repeat (first | (with_reducible assumption) | (refine M.var_alloc' _ _ _ ?_; first | rfl | (simp [go_sem]; done)) | (with_reducible refine M.Var.alloc ?_ _) | (with_reducible refine M.Var.drewN ?_ _) | (with_reducible refine M.Var.drew ?_) | (with_reducible refine M.Var.far ?_ _ _ ?h; case h => (first | omega | ((try simp [go_sem]) <;> omega))) | fail))) hb)).mono fun e w' h => h
      rintro en w4 ⟨rfl, hb⟩
      have G4 : Below w.heap.size w w4 := Below.trans (M.below_sets_own ([]) (by (repeat (with_reducible refine M.Below.drewN ?_ _)); go_grown) (by intro u hu; (try simp only [List.mem_append] at hu); (repeat' (obtain hu | hu := (hu : _ ∨ _))); all_goals (first | rw [M.usBx_block hu] | rw [M.usV_block hu] | rw [M.usI_block hu] | rw [M.usHt_block hu] | rw [M.usBd_block hu] | rw [M.cell_block1 hu] | (exfalso; simp at hu; done)); all_goals ((try simp [go_sem]) <;> omega))) (hb.mono (by go_size))
      have V4_b : M.Var w4 (w.heap.size) #[.int .i64 b.shape, .int .i64 b.sx, .int .i64 b.sy, .int .i64 b.mass, .int .i64 b.px, .int .i64 b.py, .int .i64 b.mx, .int .i64 b.my] := M.Var.mono' (u := M.sets _ ([])) (by (try simp only [M.sets_append]); exact (M.var_sets_far ([]) (by (repeat (first | (with_reducible assumption) | (refine M.var_alloc' _ _ _ ?_; first | rfl | (simp [go_sem]; done)) | (with_reducible refine M.Var.alloc ?_ _) | (with_reducible refine M.Var.drewN ?_ _) | (with_reducible refine M.Var.drew ?_) | (with_reducible refine M.Var.far ?_ _ _ ?h; case h => (first | omega | ((try simp [go_sem]) <;> omega))) | fail)) : M.Var _ (w.heap.size) #[.int .i64 b.shape, .int .i64 b.sx, .int .i64 b.sy, .int .i64 b.mass, .int .i64 b.px, .int .i64 b.py, .int .i64 b.mx, .int .i64 b.my]) (by intro u hu; all_goals (first | rw [M.usBx_block hu] | rw [M.usV_block hu] | rw [M.usI_block hu] | rw [M.usHt_block hu] | rw [M.usBd_block hu] | rw [M.cell_block1 hu] | (exfalso; simp at hu; done)); all_goals ((try simp [go_sem]) <;> omega)))) (M.sets_size _ _) hb
      have V4_c : M.Var w4 (w1.heap.size) #[.int .i64 i] := M.Var.mono' (u := M.sets _ ([])) (by (try simp only [M.sets_append]); exact (M.var_sets_far ([]) (by (repeat (first | (with_reducible assumption) | (refine M.var_alloc' _ _ _ ?_; first | rfl | (simp [go_sem]; done)) | (with_reducible refine M.Var.alloc ?_ _) | (with_reducible refine M.Var.drewN ?_ _) | (with_reducible refine M.Var.drew ?_) | (with_reducible refine M.Var.far ?_ _ _ ?h; case h => (first | omega | ((try simp [go_sem]) <;> omega))) | fail)) : M.Var _ (w1.heap.size) #[.int .i64 i]) (by intro u hu; all_goals (first | rw [M.usBx_block hu] | rw [M.usV_block hu] | rw [M.usI_block hu] | rw [M.usHt_block hu] | rw [M.usBd_block hu] | rw [M.cell_block1 hu] | (exfalso; simp at hu; done)); all_goals ((try simp [go_sem]) <;> omega)))) (M.sets_size _ _) hb
      have V4_d : M.Var w4 (w1.heap.size + 1) #[.int .i64 0] := M.Var.mono' (u := M.sets _ ([])) (by (try simp only [M.sets_append]); exact (M.var_sets_far ([]) (by (repeat (first | (with_reducible assumption) | (refine M.var_alloc' _ _ _ ?_; first | rfl | (simp [go_sem]; done)) | (with_reducible refine M.Var.alloc ?_ _) | (with_reducible refine M.Var.drewN ?_ _) | (with_reducible refine M.Var.drew ?_) | (with_reducible refine M.Var.far ?_ _ _ ?h; case h => (first | omega | ((try simp [go_sem]) <;> omega))) | fail)) : M.Var _ (w1.heap.size + 1) #[.int .i64 0]) (by intro u hu; all_goals (first | rw [M.usBx_block hu] | rw [M.usV_block hu] | rw [M.usI_block hu] | rw [M.usHt_block hu] | rw [M.usBd_block hu] | rw [M.cell_block1 hu] | (exfalso; simp at hu; done)); all_goals ((try simp [go_sem]) <;> omega)))) (M.sets_size _ _) hb
      have V4_s : M.Var w4 (w2.heap.size) #[.int .i64 u, .int .i64 v] := M.Var.mono' (u := M.sets _ ([])) (by (try simp only [M.sets_append]); exact (M.var_sets_far ([]) (by (repeat (first | (with_reducible assumption) | (refine M.var_alloc' _ _ _ ?_; first | rfl | (simp [go_sem]; done)) | (with_reducible refine M.Var.alloc ?_ _) | (with_reducible refine M.Var.drewN ?_ _) | (with_reducible refine M.Var.drew ?_) | (with_reducible refine M.Var.far ?_ _ _ ?h; case h => (first | omega | ((try simp [go_sem]) <;> omega))) | fail)) : M.Var _ (w2.heap.size) #[.int .i64 u, .int .i64 v]) (by intro u hu; all_goals (first | rw [M.usBx_block hu] | rw [M.usV_block hu] | rw [M.usI_block hu] | rw [M.usHt_block hu] | rw [M.usBd_block hu] | rw [M.cell_block1 hu] | (exfalso; simp at hu; done)); all_goals ((try simp [go_sem]) <;> omega)))) (M.sets_size _ _) hb
      have V4_o : M.Var w4 (w3.heap.size) #[.int .i64 0, .int .i64 0] := M.Var.mono' (u := M.sets _ ([])) (by (try simp only [M.sets_append]); exact (M.var_sets_far ([]) (by (repeat (first | (with_reducible assumption) | (refine M.var_alloc' _ _ _ ?_; first | rfl | (simp [go_sem]; done)) | (with_reducible refine M.Var.alloc ?_ _) | (with_reducible refine M.Var.drewN ?_ _) | (with_reducible refine M.Var.drew ?_) | (with_reducible refine M.Var.far ?_ _ _ ?h; case h => (first | omega | ((try simp [go_sem]) <;> omega))) | fail)) : M.Var _ (w3.heap.size) #[.int .i64 0, .int .i64 0]) (by intro u hu; all_goals (first | rw [M.usBx_block hu] | rw [M.usV_block hu] | rw [M.usI_block hu] | rw [M.usHt_block hu] | rw [M.usBd_block hu] | rw [M.cell_block1 hu] | (exfalso; simp at hu; done)); all_goals ((try simp [go_sem]) <;> omega)))) (M.sets_size _ _) hb
      have V4_m : M.Var w4 (w3.heap.size + 1) #[.int .i64 0] := M.Var.mono' (u := M.sets _ ([])) (by (try simp only [M.sets_append]); exact (M.var_sets_far ([]) (by (repeat (first | (with_reducible assumption) | (refine M.var_alloc' _ _ _ ?_; first | rfl | (simp [go_sem]; done)) | (with_reducible refine M.Var.alloc ?_ _) | (with_reducible refine M.Var.drewN ?_ _) | (with_reducible refine M.Var.drew ?_) | (with_reducible refine M.Var.far ?_ _ _ ?h; case h => (first | omega | ((try simp [go_sem]) <;> omega))) | fail)) : M.Var _ (w3.heap.size + 1) #[.int .i64 0]) (by intro u hu; all_goals (first | rw [M.usBx_block hu] | rw [M.usV_block hu] | rw [M.usI_block hu] | rw [M.usHt_block hu] | rw [M.usBd_block hu] | rw [M.cell_block1 hu] | (exfalso; simp at hu; done)); all_goals ((try simp [go_sem]) <;> omega)))) (M.sets_size _ _) hb
      have q4_b_0 := V4_b.c 0 _ rfl
      have q4_b_1 := V4_b.c 1 _ rfl
      have q4_b_2 := V4_b.c 2 _ rfl
      have q4_b_3 := V4_b.c 3 _ rfl
      have q4_b_4 := V4_b.c 4 _ rfl
      have q4_b_5 := V4_b.c 5 _ rfl
      have q4_b_6 := V4_b.c 6 _ rfl
      have q4_b_7 := V4_b.c 7 _ rfl
      have f4_b := V4_b.2.2; have L4_b := V4_b.lt; have N4_b := Nat.ne_of_gt L4_b; have M4_b := Nat.ne_of_lt L4_b
      have HV4_b := Lib.hid V4_b
      have q4_c_0 := V4_c.c 0 _ rfl
      have f4_c := V4_c.2.2; have L4_c := V4_c.lt; have N4_c := Nat.ne_of_gt L4_c; have M4_c := Nat.ne_of_lt L4_c
      have HV4_c := Lib.hid V4_c
      have q4_d_0 := V4_d.c 0 _ rfl
      have f4_d := V4_d.2.2; have L4_d := V4_d.lt; have N4_d := Nat.ne_of_gt L4_d; have M4_d := Nat.ne_of_lt L4_d
      have HV4_d := Lib.hid V4_d
      have q4_s_0 := V4_s.c 0 _ rfl
      have q4_s_1 := V4_s.c 1 _ rfl
      have f4_s := V4_s.2.2; have L4_s := V4_s.lt; have N4_s := Nat.ne_of_gt L4_s; have M4_s := Nat.ne_of_lt L4_s
      have HV4_s := Lib.hid V4_s
      have q4_o_0 := V4_o.c 0 _ rfl
      have q4_o_1 := V4_o.c 1 _ rfl
      have f4_o := V4_o.2.2; have L4_o := V4_o.lt; have N4_o := Nat.ne_of_gt L4_o; have M4_o := Nat.ne_of_lt L4_o
      have HV4_o := Lib.hid V4_o
      have q4_m_0 := V4_m.c 0 _ rfl
      have f4_m := V4_m.2.2; have L4_m := V4_m.lt; have N4_m := Nat.ne_of_gt L4_m; have M4_m := Nat.ne_of_lt L4_m
      have HV4_m := Lib.hid V4_m
      have S4 := G4.size; clear hb
      go_wp2_with fail
      refine (try_c 60 #[.pointer (some ⟨w.heap.size, 0, none⟩), .pointer (some ⟨w3.heap.size + 1, 0, none⟩)] _ (0) (usI (w3.heap.size + 1) (.ok l)) (fun _ => rfl) ?_ ?_).mono ?_
      · intro u hu; (try simp only [List.mem_append] at hu); (repeat' (obtain hu | hu := (hu : _ ∨ _))); all_goals (first | rw [M.usBx_block hu] | rw [M.usV_block hu] | rw [M.usI_block hu] | rw [M.usHt_block hu] | rw [M.usBd_block hu] | rw [M.cell_block1 hu] | (exfalso; simp at hu; done)); all_goals ((try simp [go_sem]) <;> omega)
      · intro w1' hb; exact (cloLight _ _ b hB _ (.ok l) hR.out w1' (M.Var.mono (b := w.heap.size) (cs := #[.int .i64 b.shape, .int .i64 b.sx, .int .i64 b.sy, .int .i64 b.mass, .int .i64 b.px, .int .i64 b.py, .int .i64 b.mx, .int .i64 b.my]) (by (repeat (first | (with_reducible assumption) | (refine M.var_alloc' _ _ _ ?_; first | rfl | (simp [go_sem]; done)) | (with_reducible refine M.Var.alloc ?_ _) | (with_reducible refine M.Var.drewN ?_ _) | (with_reducible refine M.Var.drew ?_) | (with_reducible refine M.Var.far ?_ _ _ ?h; case h => (first | omega | ((try simp [go_sem]) <;> omega))) | fail))) hb) (M.Var.mono (b := w3.heap.size + 1) (cs := #[.int .i64 0]) (by (repeat (first | (with_reducible assumption) | (refine M.var_alloc' _ _ _ ?_; first | rfl | (simp [go_sem]; done)) | (with_reducible refine M.Var.alloc ?_ _) | (with_reducible refine M.Var.drewN ?_ _) | (with_reducible refine M.Var.drew ?_) | (with_reducible refine M.Var.far ?_ _ _ ?h; case h => (first | omega | ((try simp [go_sem]) <;> omega))) | fail))) hb)).mono fun e w' h => h
      rintro en w5 ⟨rfl, hb⟩
      have G5 : Below w.heap.size w w5 := Below.trans (M.below_sets_own (usI (w3.heap.size + 1) (.ok l)) (by (repeat (with_reducible refine M.Below.drewN ?_ _)); go_grown) (by intro u hu; (try simp only [List.mem_append] at hu); (repeat' (obtain hu | hu := (hu : _ ∨ _))); all_goals (first | rw [M.usBx_block hu] | rw [M.usV_block hu] | rw [M.usI_block hu] | rw [M.usHt_block hu] | rw [M.usBd_block hu] | rw [M.cell_block1 hu] | (exfalso; simp at hu; done)); all_goals ((try simp [go_sem]) <;> omega))) (hb.mono (by go_size))
      have V5_b : M.Var w5 (w.heap.size) #[.int .i64 b.shape, .int .i64 b.sx, .int .i64 b.sy, .int .i64 b.mass, .int .i64 b.px, .int .i64 b.py, .int .i64 b.mx, .int .i64 b.my] := M.Var.mono' (u := M.sets _ (usI (w3.heap.size + 1) (.ok l))) (by (try simp only [M.sets_append]); exact (M.var_sets_far (usI (w3.heap.size + 1) (.ok l)) (by (repeat (first | (with_reducible assumption) | (refine M.var_alloc' _ _ _ ?_; first | rfl | (simp [go_sem]; done)) | (with_reducible refine M.Var.alloc ?_ _) | (with_reducible refine M.Var.drewN ?_ _) | (with_reducible refine M.Var.drew ?_) | (with_reducible refine M.Var.far ?_ _ _ ?h; case h => (first | omega | ((try simp [go_sem]) <;> omega))) | fail)) : M.Var _ (w.heap.size) #[.int .i64 b.shape, .int .i64 b.sx, .int .i64 b.sy, .int .i64 b.mass, .int .i64 b.px, .int .i64 b.py, .int .i64 b.mx, .int .i64 b.my]) (by intro u hu; all_goals (first | rw [M.usBx_block hu] | rw [M.usV_block hu] | rw [M.usI_block hu] | rw [M.usHt_block hu] | rw [M.usBd_block hu] | rw [M.cell_block1 hu] | (exfalso; simp at hu; done)); all_goals ((try simp [go_sem]) <;> omega)))) (M.sets_size _ _) hb
      have V5_c : M.Var w5 (w1.heap.size) #[.int .i64 i] := M.Var.mono' (u := M.sets _ (usI (w3.heap.size + 1) (.ok l))) (by (try simp only [M.sets_append]); exact (M.var_sets_far (usI (w3.heap.size + 1) (.ok l)) (by (repeat (first | (with_reducible assumption) | (refine M.var_alloc' _ _ _ ?_; first | rfl | (simp [go_sem]; done)) | (with_reducible refine M.Var.alloc ?_ _) | (with_reducible refine M.Var.drewN ?_ _) | (with_reducible refine M.Var.drew ?_) | (with_reducible refine M.Var.far ?_ _ _ ?h; case h => (first | omega | ((try simp [go_sem]) <;> omega))) | fail)) : M.Var _ (w1.heap.size) #[.int .i64 i]) (by intro u hu; all_goals (first | rw [M.usBx_block hu] | rw [M.usV_block hu] | rw [M.usI_block hu] | rw [M.usHt_block hu] | rw [M.usBd_block hu] | rw [M.cell_block1 hu] | (exfalso; simp at hu; done)); all_goals ((try simp [go_sem]) <;> omega)))) (M.sets_size _ _) hb
      have V5_d : M.Var w5 (w1.heap.size + 1) #[.int .i64 0] := M.Var.mono' (u := M.sets _ (usI (w3.heap.size + 1) (.ok l))) (by (try simp only [M.sets_append]); exact (M.var_sets_far (usI (w3.heap.size + 1) (.ok l)) (by (repeat (first | (with_reducible assumption) | (refine M.var_alloc' _ _ _ ?_; first | rfl | (simp [go_sem]; done)) | (with_reducible refine M.Var.alloc ?_ _) | (with_reducible refine M.Var.drewN ?_ _) | (with_reducible refine M.Var.drew ?_) | (with_reducible refine M.Var.far ?_ _ _ ?h; case h => (first | omega | ((try simp [go_sem]) <;> omega))) | fail)) : M.Var _ (w1.heap.size + 1) #[.int .i64 0]) (by intro u hu; all_goals (first | rw [M.usBx_block hu] | rw [M.usV_block hu] | rw [M.usI_block hu] | rw [M.usHt_block hu] | rw [M.usBd_block hu] | rw [M.cell_block1 hu] | (exfalso; simp at hu; done)); all_goals ((try simp [go_sem]) <;> omega)))) (M.sets_size _ _) hb
      have V5_s : M.Var w5 (w2.heap.size) #[.int .i64 u, .int .i64 v] := M.Var.mono' (u := M.sets _ (usI (w3.heap.size + 1) (.ok l))) (by (try simp only [M.sets_append]); exact (M.var_sets_far (usI (w3.heap.size + 1) (.ok l)) (by (repeat (first | (with_reducible assumption) | (refine M.var_alloc' _ _ _ ?_; first | rfl | (simp [go_sem]; done)) | (with_reducible refine M.Var.alloc ?_ _) | (with_reducible refine M.Var.drewN ?_ _) | (with_reducible refine M.Var.drew ?_) | (with_reducible refine M.Var.far ?_ _ _ ?h; case h => (first | omega | ((try simp [go_sem]) <;> omega))) | fail)) : M.Var _ (w2.heap.size) #[.int .i64 u, .int .i64 v]) (by intro u hu; all_goals (first | rw [M.usBx_block hu] | rw [M.usV_block hu] | rw [M.usI_block hu] | rw [M.usHt_block hu] | rw [M.usBd_block hu] | rw [M.cell_block1 hu] | (exfalso; simp at hu; done)); all_goals ((try simp [go_sem]) <;> omega)))) (M.sets_size _ _) hb
      have V5_o : M.Var w5 (w3.heap.size) #[.int .i64 0, .int .i64 0] := M.Var.mono' (u := M.sets _ (usI (w3.heap.size + 1) (.ok l))) (by (try simp only [M.sets_append]); exact (M.var_sets_far (usI (w3.heap.size + 1) (.ok l)) (by (repeat (first | (with_reducible assumption) | (refine M.var_alloc' _ _ _ ?_; first | rfl | (simp [go_sem]; done)) | (with_reducible refine M.Var.alloc ?_ _) | (with_reducible refine M.Var.drewN ?_ _) | (with_reducible refine M.Var.drew ?_) | (with_reducible refine M.Var.far ?_ _ _ ?h; case h => (first | omega | ((try simp [go_sem]) <;> omega))) | fail)) : M.Var _ (w3.heap.size) #[.int .i64 0, .int .i64 0]) (by intro u hu; all_goals (first | rw [M.usBx_block hu] | rw [M.usV_block hu] | rw [M.usI_block hu] | rw [M.usHt_block hu] | rw [M.usBd_block hu] | rw [M.cell_block1 hu] | (exfalso; simp at hu; done)); all_goals ((try simp [go_sem]) <;> omega)))) (M.sets_size _ _) hb
      have V5_m : M.Var w5 (w3.heap.size + 1) #[.int .i64 l] := M.Var.mono' (u := M.sets _ (usI (w3.heap.size + 1) (.ok l))) (by (try simp only [M.sets_append]); exact (M.var_setI (by (repeat (first | (with_reducible assumption) | (refine M.var_alloc' _ _ _ ?_; first | rfl | (simp [go_sem]; done)) | (with_reducible refine M.Var.alloc ?_ _) | (with_reducible refine M.Var.drewN ?_ _) | (with_reducible refine M.Var.drew ?_) | (with_reducible refine M.Var.far ?_ _ _ ?h; case h => (first | omega | ((try simp [go_sem]) <;> omega))) | fail)) : M.Var _ (w3.heap.size + 1) #[.int .i64 0]) _)) (M.sets_size _ _) hb
      have q5_b_0 := V5_b.c 0 _ rfl
      have q5_b_1 := V5_b.c 1 _ rfl
      have q5_b_2 := V5_b.c 2 _ rfl
      have q5_b_3 := V5_b.c 3 _ rfl
      have q5_b_4 := V5_b.c 4 _ rfl
      have q5_b_5 := V5_b.c 5 _ rfl
      have q5_b_6 := V5_b.c 6 _ rfl
      have q5_b_7 := V5_b.c 7 _ rfl
      have f5_b := V5_b.2.2; have L5_b := V5_b.lt; have N5_b := Nat.ne_of_gt L5_b; have M5_b := Nat.ne_of_lt L5_b
      have HV5_b := Lib.hid V5_b
      have q5_c_0 := V5_c.c 0 _ rfl
      have f5_c := V5_c.2.2; have L5_c := V5_c.lt; have N5_c := Nat.ne_of_gt L5_c; have M5_c := Nat.ne_of_lt L5_c
      have HV5_c := Lib.hid V5_c
      have q5_d_0 := V5_d.c 0 _ rfl
      have f5_d := V5_d.2.2; have L5_d := V5_d.lt; have N5_d := Nat.ne_of_gt L5_d; have M5_d := Nat.ne_of_lt L5_d
      have HV5_d := Lib.hid V5_d
      have q5_s_0 := V5_s.c 0 _ rfl
      have q5_s_1 := V5_s.c 1 _ rfl
      have f5_s := V5_s.2.2; have L5_s := V5_s.lt; have N5_s := Nat.ne_of_gt L5_s; have M5_s := Nat.ne_of_lt L5_s
      have HV5_s := Lib.hid V5_s
      have q5_o_0 := V5_o.c 0 _ rfl
      have q5_o_1 := V5_o.c 1 _ rfl
      have f5_o := V5_o.2.2; have L5_o := V5_o.lt; have N5_o := Nat.ne_of_gt L5_o; have M5_o := Nat.ne_of_lt L5_o
      have HV5_o := Lib.hid V5_o
      have q5_m_0 := V5_m.c 0 _ rfl
      have f5_m := V5_m.2.2; have L5_m := V5_m.lt; have N5_m := Nat.ne_of_gt L5_m; have M5_m := Nat.ne_of_lt L5_m
      have HV5_m := Lib.hid V5_m
      have S5 := G5.size; clear hb
      go_wp2_with fail
      refine M.wp_region_later (fun w' => M.Var w' (w.heap.size) #[.int .i64 b.shape, .int .i64 b.sx, .int .i64 b.sy, .int .i64 b.mass, .int .i64 b.px, .int .i64 b.py, .int .i64 b.mx, .int .i64 b.my] ∧ M.Var w' (w1.heap.size) #[.int .i64 i] ∧ M.Var w' (w1.heap.size + 1) #[.int .i64 0] ∧ M.Var w' (w2.heap.size) #[.int .i64 u, .int .i64 v] ∧ M.Var w' (w3.heap.size) #[.int .i64 0, .int .i64 0] ∧ M.Var w' (w3.heap.size + 1) #[.int .i64 l] ∧ True) (by kernel_rfl) (by kernel_rfl) (fun w' hb => ⟨M.Var.mono (by (repeat (first | (with_reducible assumption) | (refine M.var_alloc' _ _ _ ?_; first | rfl | (simp [go_sem]; done)) | (with_reducible refine M.Var.alloc ?_ _) | (with_reducible refine M.Var.drewN ?_ _) | (with_reducible refine M.Var.drew ?_) | (with_reducible refine M.Var.far ?_ _ _ ?h; case h => (first | omega | ((try simp [go_sem]) <;> omega))) | fail)) : M.Var _ (w.heap.size) #[.int .i64 b.shape, .int .i64 b.sx, .int .i64 b.sy, .int .i64 b.mass, .int .i64 b.px, .int .i64 b.py, .int .i64 b.mx, .int .i64 b.my]) hb, M.Var.mono (by (repeat (first | (with_reducible assumption) | (refine M.var_alloc' _ _ _ ?_; first | rfl | (simp [go_sem]; done)) | (with_reducible refine M.Var.alloc ?_ _) | (with_reducible refine M.Var.drewN ?_ _) | (with_reducible refine M.Var.drew ?_) | (with_reducible refine M.Var.far ?_ _ _ ?h; case h => (first | omega | ((try simp [go_sem]) <;> omega))) | fail)) : M.Var _ (w1.heap.size) #[.int .i64 i]) hb, M.Var.mono (by (repeat (first | (with_reducible assumption) | (refine M.var_alloc' _ _ _ ?_; first | rfl | (simp [go_sem]; done)) | (with_reducible refine M.Var.alloc ?_ _) | (with_reducible refine M.Var.drewN ?_ _) | (with_reducible refine M.Var.drew ?_) | (with_reducible refine M.Var.far ?_ _ _ ?h; case h => (first | omega | ((try simp [go_sem]) <;> omega))) | fail)) : M.Var _ (w1.heap.size + 1) #[.int .i64 0]) hb, M.Var.mono (by (repeat (first | (with_reducible assumption) | (refine M.var_alloc' _ _ _ ?_; first | rfl | (simp [go_sem]; done)) | (with_reducible refine M.Var.alloc ?_ _) | (with_reducible refine M.Var.drewN ?_ _) | (with_reducible refine M.Var.drew ?_) | (with_reducible refine M.Var.far ?_ _ _ ?h; case h => (first | omega | ((try simp [go_sem]) <;> omega))) | fail)) : M.Var _ (w2.heap.size) #[.int .i64 u, .int .i64 v]) hb, M.Var.mono (by (repeat (first | (with_reducible assumption) | (refine M.var_alloc' _ _ _ ?_; first | rfl | (simp [go_sem]; done)) | (with_reducible refine M.Var.alloc ?_ _) | (with_reducible refine M.Var.drewN ?_ _) | (with_reducible refine M.Var.drew ?_) | (with_reducible refine M.Var.far ?_ _ _ ?h; case h => (first | omega | ((try simp [go_sem]) <;> omega))) | fail)) : M.Var _ (w3.heap.size) #[.int .i64 0, .int .i64 0]) hb, M.Var.mono (by (repeat (first | (with_reducible assumption) | (refine M.var_alloc' _ _ _ ?_; first | rfl | (simp [go_sem]; done)) | (with_reducible refine M.Var.alloc ?_ _) | (with_reducible refine M.Var.drewN ?_ _) | (with_reducible refine M.Var.drew ?_) | (with_reducible refine M.Var.far ?_ _ _ ?h; case h => (first | omega | ((try simp [go_sem]) <;> omega))) | fail)) : M.Var _ (w3.heap.size + 1) #[.int .i64 l]) hb, trivial⟩) ?_
      intro hS
      have z6_b_0 := fun p => (hS p).1.c 0 _ rfl
      have z6_b_1 := fun p => (hS p).1.c 1 _ rfl
      have z6_b_2 := fun p => (hS p).1.c 2 _ rfl
      have z6_b_3 := fun p => (hS p).1.c 3 _ rfl
      have z6_b_4 := fun p => (hS p).1.c 4 _ rfl
      have z6_b_5 := fun p => (hS p).1.c 5 _ rfl
      have z6_b_6 := fun p => (hS p).1.c 6 _ rfl
      have z6_b_7 := fun p => (hS p).1.c 7 _ rfl
      have z6_c_0 := fun p => (hS p).2.1.c 0 _ rfl
      have z6_d_0 := fun p => (hS p).2.2.1.c 0 _ rfl
      have z6_s_0 := fun p => (hS p).2.2.2.1.c 0 _ rfl
      have z6_s_1 := fun p => (hS p).2.2.2.1.c 1 _ rfl
      have z6_o_0 := fun p => (hS p).2.2.2.2.1.c 0 _ rfl
      have z6_o_1 := fun p => (hS p).2.2.2.2.1.c 1 _ rfl
      have z6_m_0 := fun p => (hS p).2.2.2.2.2.1.c 0 _ rfl
      have HS := Lib.hid hS; clear hS
      repeat (go_big_quiet_step ((first
            | (go_at_call 62; with_reducible exact M.later_of (C1.out _))
            | (go_at_call 45; with_reducible exact M.later_of (C2.out _))
            | (go_at_call 63; with_reducible exact M.later_of_dr (C3.out _))
        )))
      refine wpQuiet_nil ?_
      intro w6 hw'
      obtain ⟨pL, hL⟩ := hw'
      have hb := pL.h; rw [← hL] at hb; clear hL pL
      have G6 : Below w.heap.size w w6 := Below.trans (by (repeat (with_reducible refine M.Below.drewN ?_ _)); go_grown) (hb.mono (by go_size))
      have V6_b : M.Var w6 (w.heap.size) #[.int .i64 b.shape, .int .i64 b.sx, .int .i64 b.sy, .int .i64 b.mass, .int .i64 b.px, .int .i64 b.py, .int .i64 b.mx, .int .i64 b.my] := M.Var.mono (by (repeat (first | (with_reducible assumption) | (refine M.var_alloc' _ _ _ ?_; first | rfl | (simp [go_sem]; done)) | (with_reducible refine M.Var.alloc ?_ _) | (with_reducible refine M.Var.drewN ?_ _) | (with_reducible refine M.Var.drew ?_) | (with_reducible refine M.Var.far ?_ _ _ ?h; case h => (first | omega | ((try simp [go_sem]) <;> omega))) | fail))) hb
      have V6_c : M.Var w6 (w1.heap.size) #[.int .i64 i] := M.Var.mono (by (repeat (first | (with_reducible assumption) | (refine M.var_alloc' _ _ _ ?_; first | rfl | (simp [go_sem]; done)) | (with_reducible refine M.Var.alloc ?_ _) | (with_reducible refine M.Var.drewN ?_ _) | (with_reducible refine M.Var.drew ?_) | (with_reducible refine M.Var.far ?_ _ _ ?h; case h => (first | omega | ((try simp [go_sem]) <;> omega))) | fail))) hb
      have V6_d : M.Var w6 (w1.heap.size + 1) #[.int .i64 0] := M.Var.mono (by (repeat (first | (with_reducible assumption) | (refine M.var_alloc' _ _ _ ?_; first | rfl | (simp [go_sem]; done)) | (with_reducible refine M.Var.alloc ?_ _) | (with_reducible refine M.Var.drewN ?_ _) | (with_reducible refine M.Var.drew ?_) | (with_reducible refine M.Var.far ?_ _ _ ?h; case h => (first | omega | ((try simp [go_sem]) <;> omega))) | fail))) hb
      have V6_s : M.Var w6 (w2.heap.size) #[.int .i64 u, .int .i64 v] := M.Var.mono (by (repeat (first | (with_reducible assumption) | (refine M.var_alloc' _ _ _ ?_; first | rfl | (simp [go_sem]; done)) | (with_reducible refine M.Var.alloc ?_ _) | (with_reducible refine M.Var.drewN ?_ _) | (with_reducible refine M.Var.drew ?_) | (with_reducible refine M.Var.far ?_ _ _ ?h; case h => (first | omega | ((try simp [go_sem]) <;> omega))) | fail))) hb
      have V6_o : M.Var w6 (w3.heap.size) #[.int .i64 0, .int .i64 0] := M.Var.mono (by (repeat (first | (with_reducible assumption) | (refine M.var_alloc' _ _ _ ?_; first | rfl | (simp [go_sem]; done)) | (with_reducible refine M.Var.alloc ?_ _) | (with_reducible refine M.Var.drewN ?_ _) | (with_reducible refine M.Var.drew ?_) | (with_reducible refine M.Var.far ?_ _ _ ?h; case h => (first | omega | ((try simp [go_sem]) <;> omega))) | fail))) hb
      have V6_m : M.Var w6 (w3.heap.size + 1) #[.int .i64 l] := M.Var.mono (by (repeat (first | (with_reducible assumption) | (refine M.var_alloc' _ _ _ ?_; first | rfl | (simp [go_sem]; done)) | (with_reducible refine M.Var.alloc ?_ _) | (with_reducible refine M.Var.drewN ?_ _) | (with_reducible refine M.Var.drew ?_) | (with_reducible refine M.Var.far ?_ _ _ ?h; case h => (first | omega | ((try simp [go_sem]) <;> omega))) | fail))) hb
      have q6_b_0 := V6_b.c 0 _ rfl
      have q6_b_1 := V6_b.c 1 _ rfl
      have q6_b_2 := V6_b.c 2 _ rfl
      have q6_b_3 := V6_b.c 3 _ rfl
      have q6_b_4 := V6_b.c 4 _ rfl
      have q6_b_5 := V6_b.c 5 _ rfl
      have q6_b_6 := V6_b.c 6 _ rfl
      have q6_b_7 := V6_b.c 7 _ rfl
      have f6_b := V6_b.2.2; have L6_b := V6_b.lt; have N6_b := Nat.ne_of_gt L6_b; have M6_b := Nat.ne_of_lt L6_b
      have HV6_b := Lib.hid V6_b
      have q6_c_0 := V6_c.c 0 _ rfl
      have f6_c := V6_c.2.2; have L6_c := V6_c.lt; have N6_c := Nat.ne_of_gt L6_c; have M6_c := Nat.ne_of_lt L6_c
      have HV6_c := Lib.hid V6_c
      have q6_d_0 := V6_d.c 0 _ rfl
      have f6_d := V6_d.2.2; have L6_d := V6_d.lt; have N6_d := Nat.ne_of_gt L6_d; have M6_d := Nat.ne_of_lt L6_d
      have HV6_d := Lib.hid V6_d
      have q6_s_0 := V6_s.c 0 _ rfl
      have q6_s_1 := V6_s.c 1 _ rfl
      have f6_s := V6_s.2.2; have L6_s := V6_s.lt; have N6_s := Nat.ne_of_gt L6_s; have M6_s := Nat.ne_of_lt L6_s
      have HV6_s := Lib.hid V6_s
      have q6_o_0 := V6_o.c 0 _ rfl
      have q6_o_1 := V6_o.c 1 _ rfl
      have f6_o := V6_o.2.2; have L6_o := V6_o.lt; have N6_o := Nat.ne_of_gt L6_o; have M6_o := Nat.ne_of_lt L6_o
      have HV6_o := Lib.hid V6_o
      have q6_m_0 := V6_m.c 0 _ rfl
      have f6_m := V6_m.2.2; have L6_m := V6_m.lt; have N6_m := Nat.ne_of_gt L6_m; have M6_m := Nat.ne_of_lt L6_m
      have HV6_m := Lib.hid V6_m
      have S6 := G6.size; clear hb
      clear z6_b_0 z6_b_1 z6_b_2 z6_b_3 z6_b_4 z6_b_5 z6_b_6 z6_b_7 z6_c_0 z6_d_0 z6_s_0 z6_s_1 z6_o_0 z6_o_1 z6_m_0 HS
      go_wp2_with fail
      go_ret
      exact ⟨rfl, by (repeat (with_reducible refine M.Below.drewN ?_ _)); go_grown⟩
    · rw [show nameS 2 = ⟨#[99, 114, 97, 116, 101]⟩ from rfl] at c3
      have C3 := Lib.hid c3
      clear c3
      go_enter Try.func8, Try.ntmps8
      go_wp2_with fail
      (with_reducible refine (c0.out _).mono ?_); rintro en w1 ⟨rfl, hb⟩
      have G1 : Below w.heap.size w w1 := Below.trans (by (repeat (with_reducible refine M.Below.drewN ?_ _)); go_grown) (hb.mono (by go_size))
      have V1_b : M.Var w1 (w.heap.size) #[.int .i64 b.shape, .int .i64 b.sx, .int .i64 b.sy, .int .i64 b.mass, .int .i64 b.px, .int .i64 b.py, .int .i64 b.mx, .int .i64 b.my] := M.Var.mono (by (repeat (first | (with_reducible assumption) | (refine M.var_alloc' _ _ _ ?_; first | rfl | (simp [go_sem]; done)) | (with_reducible refine M.Var.alloc ?_ _) | (with_reducible refine M.Var.drewN ?_ _) | (with_reducible refine M.Var.drew ?_) | (with_reducible refine M.Var.far ?_ _ _ ?h; case h => (first | omega | ((try simp [go_sem]) <;> omega))) | fail))) hb
      have q1_b_0 := V1_b.c 0 _ rfl
      have q1_b_1 := V1_b.c 1 _ rfl
      have q1_b_2 := V1_b.c 2 _ rfl
      have q1_b_3 := V1_b.c 3 _ rfl
      have q1_b_4 := V1_b.c 4 _ rfl
      have q1_b_5 := V1_b.c 5 _ rfl
      have q1_b_6 := V1_b.c 6 _ rfl
      have q1_b_7 := V1_b.c 7 _ rfl
      have f1_b := V1_b.2.2; have L1_b := V1_b.lt; have N1_b := Nat.ne_of_gt L1_b; have M1_b := Nat.ne_of_lt L1_b
      have HV1_b := Lib.hid V1_b
      have S1 := G1.size; clear hb
      go_wp2_with fail
      (with_reducible refine (K1.out _ _ (M.pcell_var (by (repeat (first | (with_reducible assumption) | (refine M.var_alloc' _ _ _ ?_; first | rfl | (simp [go_sem]; done)) | (with_reducible refine M.Var.alloc ?_ _) | (with_reducible refine M.Var.drewN ?_ _) | (with_reducible refine M.Var.drew ?_) | (with_reducible refine M.Var.far ?_ _ _ ?h; case h => (first | omega | ((try simp [go_sem]) <;> omega))) | fail)) : M.Var _ (w1.heap.size) #[.int .i64 0]))).mono ?_); rintro en w2 ⟨⟨u, v, rfl⟩, hb⟩
      have G2 : Below w.heap.size w w2 := Below.trans (M.below_sets_own ([(⟨w1.heap.size, 0, none⟩, .int .i64 i)]) (by (repeat (with_reducible refine M.Below.drewN ?_ _)); go_grown) (by intro u hu; rw [M.cell_block1 hu]; dsimp only; omega)) (hb.mono (by go_size))
      have V2_b : M.Var w2 (w.heap.size) #[.int .i64 b.shape, .int .i64 b.sx, .int .i64 b.sy, .int .i64 b.mass, .int .i64 b.px, .int .i64 b.py, .int .i64 b.mx, .int .i64 b.my] := M.Var.mono' (u := M.sets _ ([(⟨w1.heap.size, 0, none⟩, .int .i64 i)])) (by (try simp only [M.sets_append]); exact (M.var_sets_far ([(⟨w1.heap.size, 0, none⟩, .int .i64 i)]) (by (repeat (first | (with_reducible assumption) | (refine M.var_alloc' _ _ _ ?_; first | rfl | (simp [go_sem]; done)) | (with_reducible refine M.Var.alloc ?_ _) | (with_reducible refine M.Var.drewN ?_ _) | (with_reducible refine M.Var.drew ?_) | (with_reducible refine M.Var.far ?_ _ _ ?h; case h => (first | omega | ((try simp [go_sem]) <;> omega))) | fail)) : M.Var _ (w.heap.size) #[.int .i64 b.shape, .int .i64 b.sx, .int .i64 b.sy, .int .i64 b.mass, .int .i64 b.px, .int .i64 b.py, .int .i64 b.mx, .int .i64 b.my]) (by intro u hu; all_goals (first | rw [M.usBx_block hu] | rw [M.usV_block hu] | rw [M.usI_block hu] | rw [M.usHt_block hu] | rw [M.usBd_block hu] | rw [M.cell_block1 hu] | (exfalso; simp at hu; done)); all_goals ((try simp [go_sem]) <;> omega)))) (M.sets_size _ _) hb
      have V2_c : M.Var w2 (w1.heap.size) #[.int .i64 i] := M.Var.mono' (u := M.sets _ ([(⟨w1.heap.size, 0, none⟩, .int .i64 i)])) (by (try simp only [M.sets_append]); exact (M.var_setI (by (repeat (first | (with_reducible assumption) | (refine M.var_alloc' _ _ _ ?_; first | rfl | (simp [go_sem]; done)) | (with_reducible refine M.Var.alloc ?_ _) | (with_reducible refine M.Var.drewN ?_ _) | (with_reducible refine M.Var.drew ?_) | (with_reducible refine M.Var.far ?_ _ _ ?h; case h => (first | omega | ((try simp [go_sem]) <;> omega))) | fail)) : M.Var _ (w1.heap.size) #[.int .i64 0]) _)) (M.sets_size _ _) hb
      have V2_d : M.Var w2 (w1.heap.size + 1) #[.int .i64 0] := M.Var.mono' (u := M.sets _ ([(⟨w1.heap.size, 0, none⟩, .int .i64 i)])) (by (try simp only [M.sets_append]); exact (M.var_sets_far ([(⟨w1.heap.size, 0, none⟩, .int .i64 i)]) (by (repeat (first | (with_reducible assumption) | (refine M.var_alloc' _ _ _ ?_; first | rfl | (simp [go_sem]; done)) | (with_reducible refine M.Var.alloc ?_ _) | (with_reducible refine M.Var.drewN ?_ _) | (with_reducible refine M.Var.drew ?_) | (with_reducible refine M.Var.far ?_ _ _ ?h; case h => (first | omega | ((try simp [go_sem]) <;> omega))) | fail)) : M.Var _ (w1.heap.size + 1) #[.int .i64 0]) (by intro u hu; all_goals (first | rw [M.usBx_block hu] | rw [M.usV_block hu] | rw [M.usI_block hu] | rw [M.usHt_block hu] | rw [M.usBd_block hu] | rw [M.cell_block1 hu] | (exfalso; simp at hu; done)); all_goals ((try simp [go_sem]) <;> omega)))) (M.sets_size _ _) hb
      have q2_b_0 := V2_b.c 0 _ rfl
      have q2_b_1 := V2_b.c 1 _ rfl
      have q2_b_2 := V2_b.c 2 _ rfl
      have q2_b_3 := V2_b.c 3 _ rfl
      have q2_b_4 := V2_b.c 4 _ rfl
      have q2_b_5 := V2_b.c 5 _ rfl
      have q2_b_6 := V2_b.c 6 _ rfl
      have q2_b_7 := V2_b.c 7 _ rfl
      have f2_b := V2_b.2.2; have L2_b := V2_b.lt; have N2_b := Nat.ne_of_gt L2_b; have M2_b := Nat.ne_of_lt L2_b
      have HV2_b := Lib.hid V2_b
      have q2_c_0 := V2_c.c 0 _ rfl
      have f2_c := V2_c.2.2; have L2_c := V2_c.lt; have N2_c := Nat.ne_of_gt L2_c; have M2_c := Nat.ne_of_lt L2_c
      have HV2_c := Lib.hid V2_c
      have q2_d_0 := V2_d.c 0 _ rfl
      have f2_d := V2_d.2.2; have L2_d := V2_d.lt; have N2_d := Nat.ne_of_gt L2_d; have M2_d := Nat.ne_of_lt L2_d
      have HV2_d := Lib.hid V2_d
      have S2 := G2.size; clear hb
      go_wp2_with fail
      (with_reducible refine (K2.out _ _ (M.pcell_var (by (repeat (first | (with_reducible assumption) | (refine M.var_alloc' _ _ _ ?_; first | rfl | (simp [go_sem]; done)) | (with_reducible refine M.Var.alloc ?_ _) | (with_reducible refine M.Var.drewN ?_ _) | (with_reducible refine M.Var.drew ?_) | (with_reducible refine M.Var.far ?_ _ _ ?h; case h => (first | omega | ((try simp [go_sem]) <;> omega))) | fail)) : M.Var _ (w1.heap.size + 1) #[.int .i64 0]))).mono ?_); rintro en w3 ⟨rfl, hb⟩
      have G3 : Below w.heap.size w w3 := Below.trans (M.below_sets_own ([(⟨w1.heap.size + 1, 0, none⟩, .int .i64 0)]) (by (repeat (with_reducible refine M.Below.drewN ?_ _)); go_grown) (by intro u hu; rw [M.cell_block1 hu]; dsimp only; omega)) (hb.mono (by go_size))
      have V3_b : M.Var w3 (w.heap.size) #[.int .i64 b.shape, .int .i64 b.sx, .int .i64 b.sy, .int .i64 b.mass, .int .i64 b.px, .int .i64 b.py, .int .i64 b.mx, .int .i64 b.my] := M.Var.mono' (u := M.sets _ ([(⟨w1.heap.size + 1, 0, none⟩, .int .i64 0)])) (by (try simp only [M.sets_append]); exact (M.var_sets_far ([(⟨w1.heap.size + 1, 0, none⟩, .int .i64 0)]) (by (repeat (first | (with_reducible assumption) | (refine M.var_alloc' _ _ _ ?_; first | rfl | (simp [go_sem]; done)) | (with_reducible refine M.Var.alloc ?_ _) | (with_reducible refine M.Var.drewN ?_ _) | (with_reducible refine M.Var.drew ?_) | (with_reducible refine M.Var.far ?_ _ _ ?h; case h => (first | omega | ((try simp [go_sem]) <;> omega))) | fail)) : M.Var _ (w.heap.size) #[.int .i64 b.shape, .int .i64 b.sx, .int .i64 b.sy, .int .i64 b.mass, .int .i64 b.px, .int .i64 b.py, .int .i64 b.mx, .int .i64 b.my]) (by intro u hu; all_goals (first | rw [M.usBx_block hu] | rw [M.usV_block hu] | rw [M.usI_block hu] | rw [M.usHt_block hu] | rw [M.usBd_block hu] | rw [M.cell_block1 hu] | (exfalso; simp at hu; done)); all_goals ((try simp [go_sem]) <;> omega)))) (M.sets_size _ _) hb
      have V3_c : M.Var w3 (w1.heap.size) #[.int .i64 i] := M.Var.mono' (u := M.sets _ ([(⟨w1.heap.size + 1, 0, none⟩, .int .i64 0)])) (by (try simp only [M.sets_append]); exact (M.var_sets_far ([(⟨w1.heap.size + 1, 0, none⟩, .int .i64 0)]) (by (repeat (first | (with_reducible assumption) | (refine M.var_alloc' _ _ _ ?_; first | rfl | (simp [go_sem]; done)) | (with_reducible refine M.Var.alloc ?_ _) | (with_reducible refine M.Var.drewN ?_ _) | (with_reducible refine M.Var.drew ?_) | (with_reducible refine M.Var.far ?_ _ _ ?h; case h => (first | omega | ((try simp [go_sem]) <;> omega))) | fail)) : M.Var _ (w1.heap.size) #[.int .i64 i]) (by intro u hu; all_goals (first | rw [M.usBx_block hu] | rw [M.usV_block hu] | rw [M.usI_block hu] | rw [M.usHt_block hu] | rw [M.usBd_block hu] | rw [M.cell_block1 hu] | (exfalso; simp at hu; done)); all_goals ((try simp [go_sem]) <;> omega)))) (M.sets_size _ _) hb
      have V3_d : M.Var w3 (w1.heap.size + 1) #[.int .i64 0] := M.Var.mono' (u := M.sets _ ([(⟨w1.heap.size + 1, 0, none⟩, .int .i64 0)])) (by (try simp only [M.sets_append]); exact (M.var_setI (by (repeat (first | (with_reducible assumption) | (refine M.var_alloc' _ _ _ ?_; first | rfl | (simp [go_sem]; done)) | (with_reducible refine M.Var.alloc ?_ _) | (with_reducible refine M.Var.drewN ?_ _) | (with_reducible refine M.Var.drew ?_) | (with_reducible refine M.Var.far ?_ _ _ ?h; case h => (first | omega | ((try simp [go_sem]) <;> omega))) | fail)) : M.Var _ (w1.heap.size + 1) #[.int .i64 0]) _)) (M.sets_size _ _) hb
      have V3_s : M.Var w3 (w2.heap.size) #[.int .i64 u, .int .i64 v] := M.Var.mono' (u := M.sets _ ([(⟨w1.heap.size + 1, 0, none⟩, .int .i64 0)])) (by (try simp only [M.sets_append]); exact (M.var_sets_far ([(⟨w1.heap.size + 1, 0, none⟩, .int .i64 0)]) (by (repeat (first | (with_reducible assumption) | (refine M.var_alloc' _ _ _ ?_; first | rfl | (simp [go_sem]; done)) | (with_reducible refine M.Var.alloc ?_ _) | (with_reducible refine M.Var.drewN ?_ _) | (with_reducible refine M.Var.drew ?_) | (with_reducible refine M.Var.far ?_ _ _ ?h; case h => (first | omega | ((try simp [go_sem]) <;> omega))) | fail)) : M.Var _ (w2.heap.size) #[.int .i64 u, .int .i64 v]) (by intro u hu; all_goals (first | rw [M.usBx_block hu] | rw [M.usV_block hu] | rw [M.usI_block hu] | rw [M.usHt_block hu] | rw [M.usBd_block hu] | rw [M.cell_block1 hu] | (exfalso; simp at hu; done)); all_goals ((try simp [go_sem]) <;> omega)))) (M.sets_size _ _) hb
      have q3_b_0 := V3_b.c 0 _ rfl
      have q3_b_1 := V3_b.c 1 _ rfl
      have q3_b_2 := V3_b.c 2 _ rfl
      have q3_b_3 := V3_b.c 3 _ rfl
      have q3_b_4 := V3_b.c 4 _ rfl
      have q3_b_5 := V3_b.c 5 _ rfl
      have q3_b_6 := V3_b.c 6 _ rfl
      have q3_b_7 := V3_b.c 7 _ rfl
      have f3_b := V3_b.2.2; have L3_b := V3_b.lt; have N3_b := Nat.ne_of_gt L3_b; have M3_b := Nat.ne_of_lt L3_b
      have HV3_b := Lib.hid V3_b
      have q3_c_0 := V3_c.c 0 _ rfl
      have f3_c := V3_c.2.2; have L3_c := V3_c.lt; have N3_c := Nat.ne_of_gt L3_c; have M3_c := Nat.ne_of_lt L3_c
      have HV3_c := Lib.hid V3_c
      have q3_d_0 := V3_d.c 0 _ rfl
      have f3_d := V3_d.2.2; have L3_d := V3_d.lt; have N3_d := Nat.ne_of_gt L3_d; have M3_d := Nat.ne_of_lt L3_d
      have HV3_d := Lib.hid V3_d
      have q3_s_0 := V3_s.c 0 _ rfl
      have q3_s_1 := V3_s.c 1 _ rfl
      have f3_s := V3_s.2.2; have L3_s := V3_s.lt; have N3_s := Nat.ne_of_gt L3_s; have M3_s := Nat.ne_of_lt L3_s
      have HV3_s := Lib.hid V3_s
      have S3 := G3.size; clear hb
      go_wp2_with fail
      refine (try_c 58 #[.pointer (some ⟨w.heap.size, 0, none⟩), .pointer (some ⟨w3.heap.size, 0, none⟩)] _ (i) ([]) (fun _ => rfl) ?_ ?_).mono ?_
      · intro u hu; (try simp only [List.mem_append] at hu); (repeat' (obtain hu | hu := (hu : _ ∨ _))); all_goals (first | rw [M.usBx_block hu] | rw [M.usV_block hu] | rw [M.usI_block hu] | rw [M.usHt_block hu] | rw [M.usBd_block hu] | rw [M.cell_block1 hu] | (exfalso; simp at hu; done)); all_goals ((try simp [go_sem]) <;> omega)
      · intro w1' hb; exact (cloSpeed _ _ b hB _ _ (.error i) hP.out w1' (M.Var.mono (b := w.heap.size) (cs := #[.int .i64 b.shape, .int .i64 b.sx, .int .i64 b.sy, .int .i64 b.mass, .int .i64 b.px, .int .i64 b.py, .int .i64 b.mx, .int .i64 b.my]) (by (repeat (first | (with_reducible assumption) | (refine M.var_alloc' _ _ _ ?_; first | rfl | (simp [go_sem]; done)) | (with_reducible refine M.Var.alloc ?_ _) | (with_reducible refine M.Var.drewN ?_ _) | (with_reducible refine M.Var.drew ?_) | (with_reducible refine M.Var.far ?_ _ _ ?h; case h => (first | omega | ((try simp [go_sem]) <;> omega))) | fail))) hb) (M.Var.mono (b := w3.heap.size) (cs := #[.int .i64 0, .int .i64 0]) (by (repeat (first | (with_reducible assumption) | (refine M.var_alloc' _ _ _ ?_; first | rfl | (simp [go_sem]; done)) | (with_reducible refine M.Var.alloc ?_ _) | (with_reducible refine M.Var.drewN ?_ _) | (with_reducible refine M.Var.drew ?_) | (with_reducible refine M.Var.far ?_ _ _ ?h; case h => (first | omega | ((try simp [go_sem]) <;> omega))) | fail))) hb)).mono fun e w' h => h
      rintro en w4 ⟨rfl, hb⟩
      have G4 : Below w.heap.size w w4 := Below.trans (M.below_sets_own ([]) (by (repeat (with_reducible refine M.Below.drewN ?_ _)); go_grown) (by intro u hu; (try simp only [List.mem_append] at hu); (repeat' (obtain hu | hu := (hu : _ ∨ _))); all_goals (first | rw [M.usBx_block hu] | rw [M.usV_block hu] | rw [M.usI_block hu] | rw [M.usHt_block hu] | rw [M.usBd_block hu] | rw [M.cell_block1 hu] | (exfalso; simp at hu; done)); all_goals ((try simp [go_sem]) <;> omega))) (hb.mono (by go_size))
      have V4_b : M.Var w4 (w.heap.size) #[.int .i64 b.shape, .int .i64 b.sx, .int .i64 b.sy, .int .i64 b.mass, .int .i64 b.px, .int .i64 b.py, .int .i64 b.mx, .int .i64 b.my] := M.Var.mono' (u := M.sets _ ([])) (by (try simp only [M.sets_append]); exact (M.var_sets_far ([]) (by (repeat (first | (with_reducible assumption) | (refine M.var_alloc' _ _ _ ?_; first | rfl | (simp [go_sem]; done)) | (with_reducible refine M.Var.alloc ?_ _) | (with_reducible refine M.Var.drewN ?_ _) | (with_reducible refine M.Var.drew ?_) | (with_reducible refine M.Var.far ?_ _ _ ?h; case h => (first | omega | ((try simp [go_sem]) <;> omega))) | fail)) : M.Var _ (w.heap.size) #[.int .i64 b.shape, .int .i64 b.sx, .int .i64 b.sy, .int .i64 b.mass, .int .i64 b.px, .int .i64 b.py, .int .i64 b.mx, .int .i64 b.my]) (by intro u hu; all_goals (first | rw [M.usBx_block hu] | rw [M.usV_block hu] | rw [M.usI_block hu] | rw [M.usHt_block hu] | rw [M.usBd_block hu] | rw [M.cell_block1 hu] | (exfalso; simp at hu; done)); all_goals ((try simp [go_sem]) <;> omega)))) (M.sets_size _ _) hb
      have V4_c : M.Var w4 (w1.heap.size) #[.int .i64 i] := M.Var.mono' (u := M.sets _ ([])) (by (try simp only [M.sets_append]); exact (M.var_sets_far ([]) (by (repeat (first | (with_reducible assumption) | (refine M.var_alloc' _ _ _ ?_; first | rfl | (simp [go_sem]; done)) | (with_reducible refine M.Var.alloc ?_ _) | (with_reducible refine M.Var.drewN ?_ _) | (with_reducible refine M.Var.drew ?_) | (with_reducible refine M.Var.far ?_ _ _ ?h; case h => (first | omega | ((try simp [go_sem]) <;> omega))) | fail)) : M.Var _ (w1.heap.size) #[.int .i64 i]) (by intro u hu; all_goals (first | rw [M.usBx_block hu] | rw [M.usV_block hu] | rw [M.usI_block hu] | rw [M.usHt_block hu] | rw [M.usBd_block hu] | rw [M.cell_block1 hu] | (exfalso; simp at hu; done)); all_goals ((try simp [go_sem]) <;> omega)))) (M.sets_size _ _) hb
      have V4_d : M.Var w4 (w1.heap.size + 1) #[.int .i64 0] := M.Var.mono' (u := M.sets _ ([])) (by (try simp only [M.sets_append]); exact (M.var_sets_far ([]) (by (repeat (first | (with_reducible assumption) | (refine M.var_alloc' _ _ _ ?_; first | rfl | (simp [go_sem]; done)) | (with_reducible refine M.Var.alloc ?_ _) | (with_reducible refine M.Var.drewN ?_ _) | (with_reducible refine M.Var.drew ?_) | (with_reducible refine M.Var.far ?_ _ _ ?h; case h => (first | omega | ((try simp [go_sem]) <;> omega))) | fail)) : M.Var _ (w1.heap.size + 1) #[.int .i64 0]) (by intro u hu; all_goals (first | rw [M.usBx_block hu] | rw [M.usV_block hu] | rw [M.usI_block hu] | rw [M.usHt_block hu] | rw [M.usBd_block hu] | rw [M.cell_block1 hu] | (exfalso; simp at hu; done)); all_goals ((try simp [go_sem]) <;> omega)))) (M.sets_size _ _) hb
      have V4_s : M.Var w4 (w2.heap.size) #[.int .i64 u, .int .i64 v] := M.Var.mono' (u := M.sets _ ([])) (by (try simp only [M.sets_append]); exact (M.var_sets_far ([]) (by (repeat (first | (with_reducible assumption) | (refine M.var_alloc' _ _ _ ?_; first | rfl | (simp [go_sem]; done)) | (with_reducible refine M.Var.alloc ?_ _) | (with_reducible refine M.Var.drewN ?_ _) | (with_reducible refine M.Var.drew ?_) | (with_reducible refine M.Var.far ?_ _ _ ?h; case h => (first | omega | ((try simp [go_sem]) <;> omega))) | fail)) : M.Var _ (w2.heap.size) #[.int .i64 u, .int .i64 v]) (by intro u hu; all_goals (first | rw [M.usBx_block hu] | rw [M.usV_block hu] | rw [M.usI_block hu] | rw [M.usHt_block hu] | rw [M.usBd_block hu] | rw [M.cell_block1 hu] | (exfalso; simp at hu; done)); all_goals ((try simp [go_sem]) <;> omega)))) (M.sets_size _ _) hb
      have V4_o : M.Var w4 (w3.heap.size) #[.int .i64 0, .int .i64 0] := M.Var.mono' (u := M.sets _ ([])) (by (try simp only [M.sets_append]); exact (M.var_sets_far ([]) (by (repeat (first | (with_reducible assumption) | (refine M.var_alloc' _ _ _ ?_; first | rfl | (simp [go_sem]; done)) | (with_reducible refine M.Var.alloc ?_ _) | (with_reducible refine M.Var.drewN ?_ _) | (with_reducible refine M.Var.drew ?_) | (with_reducible refine M.Var.far ?_ _ _ ?h; case h => (first | omega | ((try simp [go_sem]) <;> omega))) | fail)) : M.Var _ (w3.heap.size) #[.int .i64 0, .int .i64 0]) (by intro u hu; all_goals (first | rw [M.usBx_block hu] | rw [M.usV_block hu] | rw [M.usI_block hu] | rw [M.usHt_block hu] | rw [M.usBd_block hu] | rw [M.cell_block1 hu] | (exfalso; simp at hu; done)); all_goals ((try simp [go_sem]) <;> omega)))) (M.sets_size _ _) hb
      have V4_m : M.Var w4 (w3.heap.size + 1) #[.int .i64 0] := M.Var.mono' (u := M.sets _ ([])) (by (try simp only [M.sets_append]); exact (M.var_sets_far ([]) (by (repeat (first | (with_reducible assumption) | (refine M.var_alloc' _ _ _ ?_; first | rfl | (simp [go_sem]; done)) | (with_reducible refine M.Var.alloc ?_ _) | (with_reducible refine M.Var.drewN ?_ _) | (with_reducible refine M.Var.drew ?_) | (with_reducible refine M.Var.far ?_ _ _ ?h; case h => (first | omega | ((try simp [go_sem]) <;> omega))) | fail)) : M.Var _ (w3.heap.size + 1) #[.int .i64 0]) (by intro u hu; all_goals (first | rw [M.usBx_block hu] | rw [M.usV_block hu] | rw [M.usI_block hu] | rw [M.usHt_block hu] | rw [M.usBd_block hu] | rw [M.cell_block1 hu] | (exfalso; simp at hu; done)); all_goals ((try simp [go_sem]) <;> omega)))) (M.sets_size _ _) hb
      have q4_b_0 := V4_b.c 0 _ rfl
      have q4_b_1 := V4_b.c 1 _ rfl
      have q4_b_2 := V4_b.c 2 _ rfl
      have q4_b_3 := V4_b.c 3 _ rfl
      have q4_b_4 := V4_b.c 4 _ rfl
      have q4_b_5 := V4_b.c 5 _ rfl
      have q4_b_6 := V4_b.c 6 _ rfl
      have q4_b_7 := V4_b.c 7 _ rfl
      have f4_b := V4_b.2.2; have L4_b := V4_b.lt; have N4_b := Nat.ne_of_gt L4_b; have M4_b := Nat.ne_of_lt L4_b
      have HV4_b := Lib.hid V4_b
      have q4_c_0 := V4_c.c 0 _ rfl
      have f4_c := V4_c.2.2; have L4_c := V4_c.lt; have N4_c := Nat.ne_of_gt L4_c; have M4_c := Nat.ne_of_lt L4_c
      have HV4_c := Lib.hid V4_c
      have q4_d_0 := V4_d.c 0 _ rfl
      have f4_d := V4_d.2.2; have L4_d := V4_d.lt; have N4_d := Nat.ne_of_gt L4_d; have M4_d := Nat.ne_of_lt L4_d
      have HV4_d := Lib.hid V4_d
      have q4_s_0 := V4_s.c 0 _ rfl
      have q4_s_1 := V4_s.c 1 _ rfl
      have f4_s := V4_s.2.2; have L4_s := V4_s.lt; have N4_s := Nat.ne_of_gt L4_s; have M4_s := Nat.ne_of_lt L4_s
      have HV4_s := Lib.hid V4_s
      have q4_o_0 := V4_o.c 0 _ rfl
      have q4_o_1 := V4_o.c 1 _ rfl
      have f4_o := V4_o.2.2; have L4_o := V4_o.lt; have N4_o := Nat.ne_of_gt L4_o; have M4_o := Nat.ne_of_lt L4_o
      have HV4_o := Lib.hid V4_o
      have q4_m_0 := V4_m.c 0 _ rfl
      have f4_m := V4_m.2.2; have L4_m := V4_m.lt; have N4_m := Nat.ne_of_gt L4_m; have M4_m := Nat.ne_of_lt L4_m
      have HV4_m := Lib.hid V4_m
      have S4 := G4.size; clear hb
      go_wp2_with fail
      refine (try_c 60 #[.pointer (some ⟨w.heap.size, 0, none⟩), .pointer (some ⟨w3.heap.size + 1, 0, none⟩)] _ (0) (usI (w3.heap.size + 1) (.ok l)) (fun _ => rfl) ?_ ?_).mono ?_
      · intro u hu; (try simp only [List.mem_append] at hu); (repeat' (obtain hu | hu := (hu : _ ∨ _))); all_goals (first | rw [M.usBx_block hu] | rw [M.usV_block hu] | rw [M.usI_block hu] | rw [M.usHt_block hu] | rw [M.usBd_block hu] | rw [M.cell_block1 hu] | (exfalso; simp at hu; done)); all_goals ((try simp [go_sem]) <;> omega)
      · intro w1' hb; exact (cloLight _ _ b hB _ (.ok l) hR.out w1' (M.Var.mono (b := w.heap.size) (cs := #[.int .i64 b.shape, .int .i64 b.sx, .int .i64 b.sy, .int .i64 b.mass, .int .i64 b.px, .int .i64 b.py, .int .i64 b.mx, .int .i64 b.my]) (by (repeat (first | (with_reducible assumption) | (refine M.var_alloc' _ _ _ ?_; first | rfl | (simp [go_sem]; done)) | (with_reducible refine M.Var.alloc ?_ _) | (with_reducible refine M.Var.drewN ?_ _) | (with_reducible refine M.Var.drew ?_) | (with_reducible refine M.Var.far ?_ _ _ ?h; case h => (first | omega | ((try simp [go_sem]) <;> omega))) | fail))) hb) (M.Var.mono (b := w3.heap.size + 1) (cs := #[.int .i64 0]) (by (repeat (first | (with_reducible assumption) | (refine M.var_alloc' _ _ _ ?_; first | rfl | (simp [go_sem]; done)) | (with_reducible refine M.Var.alloc ?_ _) | (with_reducible refine M.Var.drewN ?_ _) | (with_reducible refine M.Var.drew ?_) | (with_reducible refine M.Var.far ?_ _ _ ?h; case h => (first | omega | ((try simp [go_sem]) <;> omega))) | fail))) hb)).mono fun e w' h => h
      rintro en w5 ⟨rfl, hb⟩
      have G5 : Below w.heap.size w w5 := Below.trans (M.below_sets_own (usI (w3.heap.size + 1) (.ok l)) (by (repeat (with_reducible refine M.Below.drewN ?_ _)); go_grown) (by intro u hu; (try simp only [List.mem_append] at hu); (repeat' (obtain hu | hu := (hu : _ ∨ _))); all_goals (first | rw [M.usBx_block hu] | rw [M.usV_block hu] | rw [M.usI_block hu] | rw [M.usHt_block hu] | rw [M.usBd_block hu] | rw [M.cell_block1 hu] | (exfalso; simp at hu; done)); all_goals ((try simp [go_sem]) <;> omega))) (hb.mono (by go_size))
      have V5_b : M.Var w5 (w.heap.size) #[.int .i64 b.shape, .int .i64 b.sx, .int .i64 b.sy, .int .i64 b.mass, .int .i64 b.px, .int .i64 b.py, .int .i64 b.mx, .int .i64 b.my] := M.Var.mono' (u := M.sets _ (usI (w3.heap.size + 1) (.ok l))) (by (try simp only [M.sets_append]); exact (M.var_sets_far (usI (w3.heap.size + 1) (.ok l)) (by (repeat (first | (with_reducible assumption) | (refine M.var_alloc' _ _ _ ?_; first | rfl | (simp [go_sem]; done)) | (with_reducible refine M.Var.alloc ?_ _) | (with_reducible refine M.Var.drewN ?_ _) | (with_reducible refine M.Var.drew ?_) | (with_reducible refine M.Var.far ?_ _ _ ?h; case h => (first | omega | ((try simp [go_sem]) <;> omega))) | fail)) : M.Var _ (w.heap.size) #[.int .i64 b.shape, .int .i64 b.sx, .int .i64 b.sy, .int .i64 b.mass, .int .i64 b.px, .int .i64 b.py, .int .i64 b.mx, .int .i64 b.my]) (by intro u hu; all_goals (first | rw [M.usBx_block hu] | rw [M.usV_block hu] | rw [M.usI_block hu] | rw [M.usHt_block hu] | rw [M.usBd_block hu] | rw [M.cell_block1 hu] | (exfalso; simp at hu; done)); all_goals ((try simp [go_sem]) <;> omega)))) (M.sets_size _ _) hb
      have V5_c : M.Var w5 (w1.heap.size) #[.int .i64 i] := M.Var.mono' (u := M.sets _ (usI (w3.heap.size + 1) (.ok l))) (by (try simp only [M.sets_append]); exact (M.var_sets_far (usI (w3.heap.size + 1) (.ok l)) (by (repeat (first | (with_reducible assumption) | (refine M.var_alloc' _ _ _ ?_; first | rfl | (simp [go_sem]; done)) | (with_reducible refine M.Var.alloc ?_ _) | (with_reducible refine M.Var.drewN ?_ _) | (with_reducible refine M.Var.drew ?_) | (with_reducible refine M.Var.far ?_ _ _ ?h; case h => (first | omega | ((try simp [go_sem]) <;> omega))) | fail)) : M.Var _ (w1.heap.size) #[.int .i64 i]) (by intro u hu; all_goals (first | rw [M.usBx_block hu] | rw [M.usV_block hu] | rw [M.usI_block hu] | rw [M.usHt_block hu] | rw [M.usBd_block hu] | rw [M.cell_block1 hu] | (exfalso; simp at hu; done)); all_goals ((try simp [go_sem]) <;> omega)))) (M.sets_size _ _) hb
      have V5_d : M.Var w5 (w1.heap.size + 1) #[.int .i64 0] := M.Var.mono' (u := M.sets _ (usI (w3.heap.size + 1) (.ok l))) (by (try simp only [M.sets_append]); exact (M.var_sets_far (usI (w3.heap.size + 1) (.ok l)) (by (repeat (first | (with_reducible assumption) | (refine M.var_alloc' _ _ _ ?_; first | rfl | (simp [go_sem]; done)) | (with_reducible refine M.Var.alloc ?_ _) | (with_reducible refine M.Var.drewN ?_ _) | (with_reducible refine M.Var.drew ?_) | (with_reducible refine M.Var.far ?_ _ _ ?h; case h => (first | omega | ((try simp [go_sem]) <;> omega))) | fail)) : M.Var _ (w1.heap.size + 1) #[.int .i64 0]) (by intro u hu; all_goals (first | rw [M.usBx_block hu] | rw [M.usV_block hu] | rw [M.usI_block hu] | rw [M.usHt_block hu] | rw [M.usBd_block hu] | rw [M.cell_block1 hu] | (exfalso; simp at hu; done)); all_goals ((try simp [go_sem]) <;> omega)))) (M.sets_size _ _) hb
      have V5_s : M.Var w5 (w2.heap.size) #[.int .i64 u, .int .i64 v] := M.Var.mono' (u := M.sets _ (usI (w3.heap.size + 1) (.ok l))) (by (try simp only [M.sets_append]); exact (M.var_sets_far (usI (w3.heap.size + 1) (.ok l)) (by (repeat (first | (with_reducible assumption) | (refine M.var_alloc' _ _ _ ?_; first | rfl | (simp [go_sem]; done)) | (with_reducible refine M.Var.alloc ?_ _) | (with_reducible refine M.Var.drewN ?_ _) | (with_reducible refine M.Var.drew ?_) | (with_reducible refine M.Var.far ?_ _ _ ?h; case h => (first | omega | ((try simp [go_sem]) <;> omega))) | fail)) : M.Var _ (w2.heap.size) #[.int .i64 u, .int .i64 v]) (by intro u hu; all_goals (first | rw [M.usBx_block hu] | rw [M.usV_block hu] | rw [M.usI_block hu] | rw [M.usHt_block hu] | rw [M.usBd_block hu] | rw [M.cell_block1 hu] | (exfalso; simp at hu; done)); all_goals ((try simp [go_sem]) <;> omega)))) (M.sets_size _ _) hb
      have V5_o : M.Var w5 (w3.heap.size) #[.int .i64 0, .int .i64 0] := M.Var.mono' (u := M.sets _ (usI (w3.heap.size + 1) (.ok l))) (by (try simp only [M.sets_append]); exact (M.var_sets_far (usI (w3.heap.size + 1) (.ok l)) (by (repeat (first | (with_reducible assumption) | (refine M.var_alloc' _ _ _ ?_; first | rfl | (simp [go_sem]; done)) | (with_reducible refine M.Var.alloc ?_ _) | (with_reducible refine M.Var.drewN ?_ _) | (with_reducible refine M.Var.drew ?_) | (with_reducible refine M.Var.far ?_ _ _ ?h; case h => (first | omega | ((try simp [go_sem]) <;> omega))) | fail)) : M.Var _ (w3.heap.size) #[.int .i64 0, .int .i64 0]) (by intro u hu; all_goals (first | rw [M.usBx_block hu] | rw [M.usV_block hu] | rw [M.usI_block hu] | rw [M.usHt_block hu] | rw [M.usBd_block hu] | rw [M.cell_block1 hu] | (exfalso; simp at hu; done)); all_goals ((try simp [go_sem]) <;> omega)))) (M.sets_size _ _) hb
      have V5_m : M.Var w5 (w3.heap.size + 1) #[.int .i64 l] := M.Var.mono' (u := M.sets _ (usI (w3.heap.size + 1) (.ok l))) (by (try simp only [M.sets_append]); exact (M.var_setI (by (repeat (first | (with_reducible assumption) | (refine M.var_alloc' _ _ _ ?_; first | rfl | (simp [go_sem]; done)) | (with_reducible refine M.Var.alloc ?_ _) | (with_reducible refine M.Var.drewN ?_ _) | (with_reducible refine M.Var.drew ?_) | (with_reducible refine M.Var.far ?_ _ _ ?h; case h => (first | omega | ((try simp [go_sem]) <;> omega))) | fail)) : M.Var _ (w3.heap.size + 1) #[.int .i64 0]) _)) (M.sets_size _ _) hb
      have q5_b_0 := V5_b.c 0 _ rfl
      have q5_b_1 := V5_b.c 1 _ rfl
      have q5_b_2 := V5_b.c 2 _ rfl
      have q5_b_3 := V5_b.c 3 _ rfl
      have q5_b_4 := V5_b.c 4 _ rfl
      have q5_b_5 := V5_b.c 5 _ rfl
      have q5_b_6 := V5_b.c 6 _ rfl
      have q5_b_7 := V5_b.c 7 _ rfl
      have f5_b := V5_b.2.2; have L5_b := V5_b.lt; have N5_b := Nat.ne_of_gt L5_b; have M5_b := Nat.ne_of_lt L5_b
      have HV5_b := Lib.hid V5_b
      have q5_c_0 := V5_c.c 0 _ rfl
      have f5_c := V5_c.2.2; have L5_c := V5_c.lt; have N5_c := Nat.ne_of_gt L5_c; have M5_c := Nat.ne_of_lt L5_c
      have HV5_c := Lib.hid V5_c
      have q5_d_0 := V5_d.c 0 _ rfl
      have f5_d := V5_d.2.2; have L5_d := V5_d.lt; have N5_d := Nat.ne_of_gt L5_d; have M5_d := Nat.ne_of_lt L5_d
      have HV5_d := Lib.hid V5_d
      have q5_s_0 := V5_s.c 0 _ rfl
      have q5_s_1 := V5_s.c 1 _ rfl
      have f5_s := V5_s.2.2; have L5_s := V5_s.lt; have N5_s := Nat.ne_of_gt L5_s; have M5_s := Nat.ne_of_lt L5_s
      have HV5_s := Lib.hid V5_s
      have q5_o_0 := V5_o.c 0 _ rfl
      have q5_o_1 := V5_o.c 1 _ rfl
      have f5_o := V5_o.2.2; have L5_o := V5_o.lt; have N5_o := Nat.ne_of_gt L5_o; have M5_o := Nat.ne_of_lt L5_o
      have HV5_o := Lib.hid V5_o
      have q5_m_0 := V5_m.c 0 _ rfl
      have f5_m := V5_m.2.2; have L5_m := V5_m.lt; have N5_m := Nat.ne_of_gt L5_m; have M5_m := Nat.ne_of_lt L5_m
      have HV5_m := Lib.hid V5_m
      have S5 := G5.size; clear hb
      go_wp2_with fail
      refine M.wp_region_later (fun w' => M.Var w' (w.heap.size) #[.int .i64 b.shape, .int .i64 b.sx, .int .i64 b.sy, .int .i64 b.mass, .int .i64 b.px, .int .i64 b.py, .int .i64 b.mx, .int .i64 b.my] ∧ M.Var w' (w1.heap.size) #[.int .i64 i] ∧ M.Var w' (w1.heap.size + 1) #[.int .i64 0] ∧ M.Var w' (w2.heap.size) #[.int .i64 u, .int .i64 v] ∧ M.Var w' (w3.heap.size) #[.int .i64 0, .int .i64 0] ∧ M.Var w' (w3.heap.size + 1) #[.int .i64 l] ∧ True) (by kernel_rfl) (by kernel_rfl) (fun w' hb => ⟨M.Var.mono (by (repeat (first | (with_reducible assumption) | (refine M.var_alloc' _ _ _ ?_; first | rfl | (simp [go_sem]; done)) | (with_reducible refine M.Var.alloc ?_ _) | (with_reducible refine M.Var.drewN ?_ _) | (with_reducible refine M.Var.drew ?_) | (with_reducible refine M.Var.far ?_ _ _ ?h; case h => (first | omega | ((try simp [go_sem]) <;> omega))) | fail)) : M.Var _ (w.heap.size) #[.int .i64 b.shape, .int .i64 b.sx, .int .i64 b.sy, .int .i64 b.mass, .int .i64 b.px, .int .i64 b.py, .int .i64 b.mx, .int .i64 b.my]) hb, M.Var.mono (by (repeat (first | (with_reducible assumption) | (refine M.var_alloc' _ _ _ ?_; first | rfl | (simp [go_sem]; done)) | (with_reducible refine M.Var.alloc ?_ _) | (with_reducible refine M.Var.drewN ?_ _) | (with_reducible refine M.Var.drew ?_) | (with_reducible refine M.Var.far ?_ _ _ ?h; case h => (first | omega | ((try simp [go_sem]) <;> omega))) | fail)) : M.Var _ (w1.heap.size) #[.int .i64 i]) hb, M.Var.mono (by (repeat (first | (with_reducible assumption) | (refine M.var_alloc' _ _ _ ?_; first | rfl | (simp [go_sem]; done)) | (with_reducible refine M.Var.alloc ?_ _) | (with_reducible refine M.Var.drewN ?_ _) | (with_reducible refine M.Var.drew ?_) | (with_reducible refine M.Var.far ?_ _ _ ?h; case h => (first | omega | ((try simp [go_sem]) <;> omega))) | fail)) : M.Var _ (w1.heap.size + 1) #[.int .i64 0]) hb, M.Var.mono (by (repeat (first | (with_reducible assumption) | (refine M.var_alloc' _ _ _ ?_; first | rfl | (simp [go_sem]; done)) | (with_reducible refine M.Var.alloc ?_ _) | (with_reducible refine M.Var.drewN ?_ _) | (with_reducible refine M.Var.drew ?_) | (with_reducible refine M.Var.far ?_ _ _ ?h; case h => (first | omega | ((try simp [go_sem]) <;> omega))) | fail)) : M.Var _ (w2.heap.size) #[.int .i64 u, .int .i64 v]) hb, M.Var.mono (by (repeat (first | (with_reducible assumption) | (refine M.var_alloc' _ _ _ ?_; first | rfl | (simp [go_sem]; done)) | (with_reducible refine M.Var.alloc ?_ _) | (with_reducible refine M.Var.drewN ?_ _) | (with_reducible refine M.Var.drew ?_) | (with_reducible refine M.Var.far ?_ _ _ ?h; case h => (first | omega | ((try simp [go_sem]) <;> omega))) | fail)) : M.Var _ (w3.heap.size) #[.int .i64 0, .int .i64 0]) hb, M.Var.mono (by (repeat (first | (with_reducible assumption) | (refine M.var_alloc' _ _ _ ?_; first | rfl | (simp [go_sem]; done)) | (with_reducible refine M.Var.alloc ?_ _) | (with_reducible refine M.Var.drewN ?_ _) | (with_reducible refine M.Var.drew ?_) | (with_reducible refine M.Var.far ?_ _ _ ?h; case h => (first | omega | ((try simp [go_sem]) <;> omega))) | fail)) : M.Var _ (w3.heap.size + 1) #[.int .i64 l]) hb, trivial⟩) ?_
      intro hS
      have z6_b_0 := fun p => (hS p).1.c 0 _ rfl
      have z6_b_1 := fun p => (hS p).1.c 1 _ rfl
      have z6_b_2 := fun p => (hS p).1.c 2 _ rfl
      have z6_b_3 := fun p => (hS p).1.c 3 _ rfl
      have z6_b_4 := fun p => (hS p).1.c 4 _ rfl
      have z6_b_5 := fun p => (hS p).1.c 5 _ rfl
      have z6_b_6 := fun p => (hS p).1.c 6 _ rfl
      have z6_b_7 := fun p => (hS p).1.c 7 _ rfl
      have z6_c_0 := fun p => (hS p).2.1.c 0 _ rfl
      have z6_d_0 := fun p => (hS p).2.2.1.c 0 _ rfl
      have z6_s_0 := fun p => (hS p).2.2.2.1.c 0 _ rfl
      have z6_s_1 := fun p => (hS p).2.2.2.1.c 1 _ rfl
      have z6_o_0 := fun p => (hS p).2.2.2.2.1.c 0 _ rfl
      have z6_o_1 := fun p => (hS p).2.2.2.2.1.c 1 _ rfl
      have z6_m_0 := fun p => (hS p).2.2.2.2.2.1.c 0 _ rfl
      have HS := Lib.hid hS; clear hS
      repeat (go_big_quiet_step ((first
            | (go_at_call 62; with_reducible exact M.later_of (C1.out _))
            | (go_at_call 45; with_reducible exact M.later_of (C2.out _))
            | (go_at_call 63; with_reducible exact M.later_of_dr (C3.out _))
        )))
      refine wpQuiet_nil ?_
      intro w6 hw'
      obtain ⟨pL, hL⟩ := hw'
      have hb := pL.h; rw [← hL] at hb; clear hL pL
      have G6 : Below w.heap.size w w6 := Below.trans (by (repeat (with_reducible refine M.Below.drewN ?_ _)); go_grown) (hb.mono (by go_size))
      have V6_b : M.Var w6 (w.heap.size) #[.int .i64 b.shape, .int .i64 b.sx, .int .i64 b.sy, .int .i64 b.mass, .int .i64 b.px, .int .i64 b.py, .int .i64 b.mx, .int .i64 b.my] := M.Var.mono (by (repeat (first | (with_reducible assumption) | (refine M.var_alloc' _ _ _ ?_; first | rfl | (simp [go_sem]; done)) | (with_reducible refine M.Var.alloc ?_ _) | (with_reducible refine M.Var.drewN ?_ _) | (with_reducible refine M.Var.drew ?_) | (with_reducible refine M.Var.far ?_ _ _ ?h; case h => (first | omega | ((try simp [go_sem]) <;> omega))) | fail))) hb
      have V6_c : M.Var w6 (w1.heap.size) #[.int .i64 i] := M.Var.mono (by (repeat (first | (with_reducible assumption) | (refine M.var_alloc' _ _ _ ?_; first | rfl | (simp [go_sem]; done)) | (with_reducible refine M.Var.alloc ?_ _) | (with_reducible refine M.Var.drewN ?_ _) | (with_reducible refine M.Var.drew ?_) | (with_reducible refine M.Var.far ?_ _ _ ?h; case h => (first | omega | ((try simp [go_sem]) <;> omega))) | fail))) hb
      have V6_d : M.Var w6 (w1.heap.size + 1) #[.int .i64 0] := M.Var.mono (by (repeat (first | (with_reducible assumption) | (refine M.var_alloc' _ _ _ ?_; first | rfl | (simp [go_sem]; done)) | (with_reducible refine M.Var.alloc ?_ _) | (with_reducible refine M.Var.drewN ?_ _) | (with_reducible refine M.Var.drew ?_) | (with_reducible refine M.Var.far ?_ _ _ ?h; case h => (first | omega | ((try simp [go_sem]) <;> omega))) | fail))) hb
      have V6_s : M.Var w6 (w2.heap.size) #[.int .i64 u, .int .i64 v] := M.Var.mono (by (repeat (first | (with_reducible assumption) | (refine M.var_alloc' _ _ _ ?_; first | rfl | (simp [go_sem]; done)) | (with_reducible refine M.Var.alloc ?_ _) | (with_reducible refine M.Var.drewN ?_ _) | (with_reducible refine M.Var.drew ?_) | (with_reducible refine M.Var.far ?_ _ _ ?h; case h => (first | omega | ((try simp [go_sem]) <;> omega))) | fail))) hb
      have V6_o : M.Var w6 (w3.heap.size) #[.int .i64 0, .int .i64 0] := M.Var.mono (by (repeat (first | (with_reducible assumption) | (refine M.var_alloc' _ _ _ ?_; first | rfl | (simp [go_sem]; done)) | (with_reducible refine M.Var.alloc ?_ _) | (with_reducible refine M.Var.drewN ?_ _) | (with_reducible refine M.Var.drew ?_) | (with_reducible refine M.Var.far ?_ _ _ ?h; case h => (first | omega | ((try simp [go_sem]) <;> omega))) | fail))) hb
      have V6_m : M.Var w6 (w3.heap.size + 1) #[.int .i64 l] := M.Var.mono (by (repeat (first | (with_reducible assumption) | (refine M.var_alloc' _ _ _ ?_; first | rfl | (simp [go_sem]; done)) | (with_reducible refine M.Var.alloc ?_ _) | (with_reducible refine M.Var.drewN ?_ _) | (with_reducible refine M.Var.drew ?_) | (with_reducible refine M.Var.far ?_ _ _ ?h; case h => (first | omega | ((try simp [go_sem]) <;> omega))) | fail))) hb
      have q6_b_0 := V6_b.c 0 _ rfl
      have q6_b_1 := V6_b.c 1 _ rfl
      have q6_b_2 := V6_b.c 2 _ rfl
      have q6_b_3 := V6_b.c 3 _ rfl
      have q6_b_4 := V6_b.c 4 _ rfl
      have q6_b_5 := V6_b.c 5 _ rfl
      have q6_b_6 := V6_b.c 6 _ rfl
      have q6_b_7 := V6_b.c 7 _ rfl
      have f6_b := V6_b.2.2; have L6_b := V6_b.lt; have N6_b := Nat.ne_of_gt L6_b; have M6_b := Nat.ne_of_lt L6_b
      have HV6_b := Lib.hid V6_b
      have q6_c_0 := V6_c.c 0 _ rfl
      have f6_c := V6_c.2.2; have L6_c := V6_c.lt; have N6_c := Nat.ne_of_gt L6_c; have M6_c := Nat.ne_of_lt L6_c
      have HV6_c := Lib.hid V6_c
      have q6_d_0 := V6_d.c 0 _ rfl
      have f6_d := V6_d.2.2; have L6_d := V6_d.lt; have N6_d := Nat.ne_of_gt L6_d; have M6_d := Nat.ne_of_lt L6_d
      have HV6_d := Lib.hid V6_d
      have q6_s_0 := V6_s.c 0 _ rfl
      have q6_s_1 := V6_s.c 1 _ rfl
      have f6_s := V6_s.2.2; have L6_s := V6_s.lt; have N6_s := Nat.ne_of_gt L6_s; have M6_s := Nat.ne_of_lt L6_s
      have HV6_s := Lib.hid V6_s
      have q6_o_0 := V6_o.c 0 _ rfl
      have q6_o_1 := V6_o.c 1 _ rfl
      have f6_o := V6_o.2.2; have L6_o := V6_o.lt; have N6_o := Nat.ne_of_gt L6_o; have M6_o := Nat.ne_of_lt L6_o
      have HV6_o := Lib.hid V6_o
      have q6_m_0 := V6_m.c 0 _ rfl
      have f6_m := V6_m.2.2; have L6_m := V6_m.lt; have N6_m := Nat.ne_of_gt L6_m; have M6_m := Nat.ne_of_lt L6_m
      have HV6_m := Lib.hid V6_m
      have S6 := G6.size; clear hb
      clear z6_b_0 z6_b_1 z6_b_2 z6_b_3 z6_b_4 z6_b_5 z6_b_6 z6_b_7 z6_c_0 z6_d_0 z6_s_0 z6_s_1 z6_o_0 z6_o_1 z6_m_0 HS
      go_wp2_with fail
      go_ret
      exact ⟨rfl, by (repeat (with_reducible refine M.Below.drewN ?_ _)); go_grown⟩
    · rw [h3] at c3
      have C3 := Lib.hid c3
      clear c3 h3
      go_enter Try.func8, Try.ntmps8
      go_wp2_with fail
      (with_reducible refine (c0.out _).mono ?_); rintro en w1 ⟨rfl, hb⟩
      have G1 : Below w.heap.size w w1 := Below.trans (by (repeat (with_reducible refine M.Below.drewN ?_ _)); go_grown) (hb.mono (by go_size))
      have V1_b : M.Var w1 (w.heap.size) #[.int .i64 b.shape, .int .i64 b.sx, .int .i64 b.sy, .int .i64 b.mass, .int .i64 b.px, .int .i64 b.py, .int .i64 b.mx, .int .i64 b.my] := M.Var.mono (by (repeat (first | (with_reducible assumption) | (refine M.var_alloc' _ _ _ ?_; first | rfl | (simp [go_sem]; done)) | (with_reducible refine M.Var.alloc ?_ _) | (with_reducible refine M.Var.drewN ?_ _) | (with_reducible refine M.Var.drew ?_) | (with_reducible refine M.Var.far ?_ _ _ ?h; case h => (first | omega | ((try simp [go_sem]) <;> omega))) | fail))) hb
      have q1_b_0 := V1_b.c 0 _ rfl
      have q1_b_1 := V1_b.c 1 _ rfl
      have q1_b_2 := V1_b.c 2 _ rfl
      have q1_b_3 := V1_b.c 3 _ rfl
      have q1_b_4 := V1_b.c 4 _ rfl
      have q1_b_5 := V1_b.c 5 _ rfl
      have q1_b_6 := V1_b.c 6 _ rfl
      have q1_b_7 := V1_b.c 7 _ rfl
      have f1_b := V1_b.2.2; have L1_b := V1_b.lt; have N1_b := Nat.ne_of_gt L1_b; have M1_b := Nat.ne_of_lt L1_b
      have HV1_b := Lib.hid V1_b
      have S1 := G1.size; clear hb
      go_wp2_with fail
      (with_reducible refine (K1.out _ _ (M.pcell_var (by (repeat (first | (with_reducible assumption) | (refine M.var_alloc' _ _ _ ?_; first | rfl | (simp [go_sem]; done)) | (with_reducible refine M.Var.alloc ?_ _) | (with_reducible refine M.Var.drewN ?_ _) | (with_reducible refine M.Var.drew ?_) | (with_reducible refine M.Var.far ?_ _ _ ?h; case h => (first | omega | ((try simp [go_sem]) <;> omega))) | fail)) : M.Var _ (w1.heap.size) #[.int .i64 0]))).mono ?_); rintro en w2 ⟨⟨u, v, rfl⟩, hb⟩
      have G2 : Below w.heap.size w w2 := Below.trans (M.below_sets_own ([(⟨w1.heap.size, 0, none⟩, .int .i64 i)]) (by (repeat (with_reducible refine M.Below.drewN ?_ _)); go_grown) (by intro u hu; rw [M.cell_block1 hu]; dsimp only; omega)) (hb.mono (by go_size))
      have V2_b : M.Var w2 (w.heap.size) #[.int .i64 b.shape, .int .i64 b.sx, .int .i64 b.sy, .int .i64 b.mass, .int .i64 b.px, .int .i64 b.py, .int .i64 b.mx, .int .i64 b.my] := M.Var.mono' (u := M.sets _ ([(⟨w1.heap.size, 0, none⟩, .int .i64 i)])) (by (try simp only [M.sets_append]); exact (M.var_sets_far ([(⟨w1.heap.size, 0, none⟩, .int .i64 i)]) (by (repeat (first | (with_reducible assumption) | (refine M.var_alloc' _ _ _ ?_; first | rfl | (simp [go_sem]; done)) | (with_reducible refine M.Var.alloc ?_ _) | (with_reducible refine M.Var.drewN ?_ _) | (with_reducible refine M.Var.drew ?_) | (with_reducible refine M.Var.far ?_ _ _ ?h; case h => (first | omega | ((try simp [go_sem]) <;> omega))) | fail)) : M.Var _ (w.heap.size) #[.int .i64 b.shape, .int .i64 b.sx, .int .i64 b.sy, .int .i64 b.mass, .int .i64 b.px, .int .i64 b.py, .int .i64 b.mx, .int .i64 b.my]) (by intro u hu; all_goals (first | rw [M.usBx_block hu] | rw [M.usV_block hu] | rw [M.usI_block hu] | rw [M.usHt_block hu] | rw [M.usBd_block hu] | rw [M.cell_block1 hu] | (exfalso; simp at hu; done)); all_goals ((try simp [go_sem]) <;> omega)))) (M.sets_size _ _) hb
      have V2_c : M.Var w2 (w1.heap.size) #[.int .i64 i] := M.Var.mono' (u := M.sets _ ([(⟨w1.heap.size, 0, none⟩, .int .i64 i)])) (by (try simp only [M.sets_append]); exact (M.var_setI (by (repeat (first | (with_reducible assumption) | (refine M.var_alloc' _ _ _ ?_; first | rfl | (simp [go_sem]; done)) | (with_reducible refine M.Var.alloc ?_ _) | (with_reducible refine M.Var.drewN ?_ _) | (with_reducible refine M.Var.drew ?_) | (with_reducible refine M.Var.far ?_ _ _ ?h; case h => (first | omega | ((try simp [go_sem]) <;> omega))) | fail)) : M.Var _ (w1.heap.size) #[.int .i64 0]) _)) (M.sets_size _ _) hb
      have V2_d : M.Var w2 (w1.heap.size + 1) #[.int .i64 0] := M.Var.mono' (u := M.sets _ ([(⟨w1.heap.size, 0, none⟩, .int .i64 i)])) (by (try simp only [M.sets_append]); exact (M.var_sets_far ([(⟨w1.heap.size, 0, none⟩, .int .i64 i)]) (by (repeat (first | (with_reducible assumption) | (refine M.var_alloc' _ _ _ ?_; first | rfl | (simp [go_sem]; done)) | (with_reducible refine M.Var.alloc ?_ _) | (with_reducible refine M.Var.drewN ?_ _) | (with_reducible refine M.Var.drew ?_) | (with_reducible refine M.Var.far ?_ _ _ ?h; case h => (first | omega | ((try simp [go_sem]) <;> omega))) | fail)) : M.Var _ (w1.heap.size + 1) #[.int .i64 0]) (by intro u hu; all_goals (first | rw [M.usBx_block hu] | rw [M.usV_block hu] | rw [M.usI_block hu] | rw [M.usHt_block hu] | rw [M.usBd_block hu] | rw [M.cell_block1 hu] | (exfalso; simp at hu; done)); all_goals ((try simp [go_sem]) <;> omega)))) (M.sets_size _ _) hb
      have q2_b_0 := V2_b.c 0 _ rfl
      have q2_b_1 := V2_b.c 1 _ rfl
      have q2_b_2 := V2_b.c 2 _ rfl
      have q2_b_3 := V2_b.c 3 _ rfl
      have q2_b_4 := V2_b.c 4 _ rfl
      have q2_b_5 := V2_b.c 5 _ rfl
      have q2_b_6 := V2_b.c 6 _ rfl
      have q2_b_7 := V2_b.c 7 _ rfl
      have f2_b := V2_b.2.2; have L2_b := V2_b.lt; have N2_b := Nat.ne_of_gt L2_b; have M2_b := Nat.ne_of_lt L2_b
      have HV2_b := Lib.hid V2_b
      have q2_c_0 := V2_c.c 0 _ rfl
      have f2_c := V2_c.2.2; have L2_c := V2_c.lt; have N2_c := Nat.ne_of_gt L2_c; have M2_c := Nat.ne_of_lt L2_c
      have HV2_c := Lib.hid V2_c
      have q2_d_0 := V2_d.c 0 _ rfl
      have f2_d := V2_d.2.2; have L2_d := V2_d.lt; have N2_d := Nat.ne_of_gt L2_d; have M2_d := Nat.ne_of_lt L2_d
      have HV2_d := Lib.hid V2_d
      have S2 := G2.size; clear hb
      go_wp2_with fail
      (with_reducible refine (K2.out _ _ (M.pcell_var (by (repeat (first | (with_reducible assumption) | (refine M.var_alloc' _ _ _ ?_; first | rfl | (simp [go_sem]; done)) | (with_reducible refine M.Var.alloc ?_ _) | (with_reducible refine M.Var.drewN ?_ _) | (with_reducible refine M.Var.drew ?_) | (with_reducible refine M.Var.far ?_ _ _ ?h; case h => (first | omega | ((try simp [go_sem]) <;> omega))) | fail)) : M.Var _ (w1.heap.size + 1) #[.int .i64 0]))).mono ?_); rintro en w3 ⟨rfl, hb⟩
      have G3 : Below w.heap.size w w3 := Below.trans (M.below_sets_own ([(⟨w1.heap.size + 1, 0, none⟩, .int .i64 0)]) (by (repeat (with_reducible refine M.Below.drewN ?_ _)); go_grown) (by intro u hu; rw [M.cell_block1 hu]; dsimp only; omega)) (hb.mono (by go_size))
      have V3_b : M.Var w3 (w.heap.size) #[.int .i64 b.shape, .int .i64 b.sx, .int .i64 b.sy, .int .i64 b.mass, .int .i64 b.px, .int .i64 b.py, .int .i64 b.mx, .int .i64 b.my] := M.Var.mono' (u := M.sets _ ([(⟨w1.heap.size + 1, 0, none⟩, .int .i64 0)])) (by (try simp only [M.sets_append]); exact (M.var_sets_far ([(⟨w1.heap.size + 1, 0, none⟩, .int .i64 0)]) (by (repeat (first | (with_reducible assumption) | (refine M.var_alloc' _ _ _ ?_; first | rfl | (simp [go_sem]; done)) | (with_reducible refine M.Var.alloc ?_ _) | (with_reducible refine M.Var.drewN ?_ _) | (with_reducible refine M.Var.drew ?_) | (with_reducible refine M.Var.far ?_ _ _ ?h; case h => (first | omega | ((try simp [go_sem]) <;> omega))) | fail)) : M.Var _ (w.heap.size) #[.int .i64 b.shape, .int .i64 b.sx, .int .i64 b.sy, .int .i64 b.mass, .int .i64 b.px, .int .i64 b.py, .int .i64 b.mx, .int .i64 b.my]) (by intro u hu; all_goals (first | rw [M.usBx_block hu] | rw [M.usV_block hu] | rw [M.usI_block hu] | rw [M.usHt_block hu] | rw [M.usBd_block hu] | rw [M.cell_block1 hu] | (exfalso; simp at hu; done)); all_goals ((try simp [go_sem]) <;> omega)))) (M.sets_size _ _) hb
      have V3_c : M.Var w3 (w1.heap.size) #[.int .i64 i] := M.Var.mono' (u := M.sets _ ([(⟨w1.heap.size + 1, 0, none⟩, .int .i64 0)])) (by (try simp only [M.sets_append]); exact (M.var_sets_far ([(⟨w1.heap.size + 1, 0, none⟩, .int .i64 0)]) (by (repeat (first | (with_reducible assumption) | (refine M.var_alloc' _ _ _ ?_; first | rfl | (simp [go_sem]; done)) | (with_reducible refine M.Var.alloc ?_ _) | (with_reducible refine M.Var.drewN ?_ _) | (with_reducible refine M.Var.drew ?_) | (with_reducible refine M.Var.far ?_ _ _ ?h; case h => (first | omega | ((try simp [go_sem]) <;> omega))) | fail)) : M.Var _ (w1.heap.size) #[.int .i64 i]) (by intro u hu; all_goals (first | rw [M.usBx_block hu] | rw [M.usV_block hu] | rw [M.usI_block hu] | rw [M.usHt_block hu] | rw [M.usBd_block hu] | rw [M.cell_block1 hu] | (exfalso; simp at hu; done)); all_goals ((try simp [go_sem]) <;> omega)))) (M.sets_size _ _) hb
      have V3_d : M.Var w3 (w1.heap.size + 1) #[.int .i64 0] := M.Var.mono' (u := M.sets _ ([(⟨w1.heap.size + 1, 0, none⟩, .int .i64 0)])) (by (try simp only [M.sets_append]); exact (M.var_setI (by (repeat (first | (with_reducible assumption) | (refine M.var_alloc' _ _ _ ?_; first | rfl | (simp [go_sem]; done)) | (with_reducible refine M.Var.alloc ?_ _) | (with_reducible refine M.Var.drewN ?_ _) | (with_reducible refine M.Var.drew ?_) | (with_reducible refine M.Var.far ?_ _ _ ?h; case h => (first | omega | ((try simp [go_sem]) <;> omega))) | fail)) : M.Var _ (w1.heap.size + 1) #[.int .i64 0]) _)) (M.sets_size _ _) hb
      have V3_s : M.Var w3 (w2.heap.size) #[.int .i64 u, .int .i64 v] := M.Var.mono' (u := M.sets _ ([(⟨w1.heap.size + 1, 0, none⟩, .int .i64 0)])) (by (try simp only [M.sets_append]); exact (M.var_sets_far ([(⟨w1.heap.size + 1, 0, none⟩, .int .i64 0)]) (by (repeat (first | (with_reducible assumption) | (refine M.var_alloc' _ _ _ ?_; first | rfl | (simp [go_sem]; done)) | (with_reducible refine M.Var.alloc ?_ _) | (with_reducible refine M.Var.drewN ?_ _) | (with_reducible refine M.Var.drew ?_) | (with_reducible refine M.Var.far ?_ _ _ ?h; case h => (first | omega | ((try simp [go_sem]) <;> omega))) | fail)) : M.Var _ (w2.heap.size) #[.int .i64 u, .int .i64 v]) (by intro u hu; all_goals (first | rw [M.usBx_block hu] | rw [M.usV_block hu] | rw [M.usI_block hu] | rw [M.usHt_block hu] | rw [M.usBd_block hu] | rw [M.cell_block1 hu] | (exfalso; simp at hu; done)); all_goals ((try simp [go_sem]) <;> omega)))) (M.sets_size _ _) hb
      have q3_b_0 := V3_b.c 0 _ rfl
      have q3_b_1 := V3_b.c 1 _ rfl
      have q3_b_2 := V3_b.c 2 _ rfl
      have q3_b_3 := V3_b.c 3 _ rfl
      have q3_b_4 := V3_b.c 4 _ rfl
      have q3_b_5 := V3_b.c 5 _ rfl
      have q3_b_6 := V3_b.c 6 _ rfl
      have q3_b_7 := V3_b.c 7 _ rfl
      have f3_b := V3_b.2.2; have L3_b := V3_b.lt; have N3_b := Nat.ne_of_gt L3_b; have M3_b := Nat.ne_of_lt L3_b
      have HV3_b := Lib.hid V3_b
      have q3_c_0 := V3_c.c 0 _ rfl
      have f3_c := V3_c.2.2; have L3_c := V3_c.lt; have N3_c := Nat.ne_of_gt L3_c; have M3_c := Nat.ne_of_lt L3_c
      have HV3_c := Lib.hid V3_c
      have q3_d_0 := V3_d.c 0 _ rfl
      have f3_d := V3_d.2.2; have L3_d := V3_d.lt; have N3_d := Nat.ne_of_gt L3_d; have M3_d := Nat.ne_of_lt L3_d
      have HV3_d := Lib.hid V3_d
      have q3_s_0 := V3_s.c 0 _ rfl
      have q3_s_1 := V3_s.c 1 _ rfl
      have f3_s := V3_s.2.2; have L3_s := V3_s.lt; have N3_s := Nat.ne_of_gt L3_s; have M3_s := Nat.ne_of_lt L3_s
      have HV3_s := Lib.hid V3_s
      have S3 := G3.size; clear hb
      go_wp2_with fail
      refine (try_c 58 #[.pointer (some ⟨w.heap.size, 0, none⟩), .pointer (some ⟨w3.heap.size, 0, none⟩)] _ (i) ([]) (fun _ => rfl) ?_ ?_).mono ?_
      · intro u hu; (try simp only [List.mem_append] at hu); (repeat' (obtain hu | hu := (hu : _ ∨ _))); all_goals (first | rw [M.usBx_block hu] | rw [M.usV_block hu] | rw [M.usI_block hu] | rw [M.usHt_block hu] | rw [M.usBd_block hu] | rw [M.cell_block1 hu] | (exfalso; simp at hu; done)); all_goals ((try simp [go_sem]) <;> omega)
      · intro w1' hb; exact (cloSpeed _ _ b hB _ _ (.error i) hP.out w1' (M.Var.mono (b := w.heap.size) (cs := #[.int .i64 b.shape, .int .i64 b.sx, .int .i64 b.sy, .int .i64 b.mass, .int .i64 b.px, .int .i64 b.py, .int .i64 b.mx, .int .i64 b.my]) (by (repeat (first | (with_reducible assumption) | (refine M.var_alloc' _ _ _ ?_; first | rfl | (simp [go_sem]; done)) | (with_reducible refine M.Var.alloc ?_ _) | (with_reducible refine M.Var.drewN ?_ _) | (with_reducible refine M.Var.drew ?_) | (with_reducible refine M.Var.far ?_ _ _ ?h; case h => (first | omega | ((try simp [go_sem]) <;> omega))) | fail))) hb) (M.Var.mono (b := w3.heap.size) (cs := #[.int .i64 0, .int .i64 0]) (by (repeat (first | (with_reducible assumption) | (refine M.var_alloc' _ _ _ ?_; first | rfl | (simp [go_sem]; done)) | (with_reducible refine M.Var.alloc ?_ _) | (with_reducible refine M.Var.drewN ?_ _) | (with_reducible refine M.Var.drew ?_) | (with_reducible refine M.Var.far ?_ _ _ ?h; case h => (first | omega | ((try simp [go_sem]) <;> omega))) | fail))) hb)).mono fun e w' h => h
      rintro en w4 ⟨rfl, hb⟩
      have G4 : Below w.heap.size w w4 := Below.trans (M.below_sets_own ([]) (by (repeat (with_reducible refine M.Below.drewN ?_ _)); go_grown) (by intro u hu; (try simp only [List.mem_append] at hu); (repeat' (obtain hu | hu := (hu : _ ∨ _))); all_goals (first | rw [M.usBx_block hu] | rw [M.usV_block hu] | rw [M.usI_block hu] | rw [M.usHt_block hu] | rw [M.usBd_block hu] | rw [M.cell_block1 hu] | (exfalso; simp at hu; done)); all_goals ((try simp [go_sem]) <;> omega))) (hb.mono (by go_size))
      have V4_b : M.Var w4 (w.heap.size) #[.int .i64 b.shape, .int .i64 b.sx, .int .i64 b.sy, .int .i64 b.mass, .int .i64 b.px, .int .i64 b.py, .int .i64 b.mx, .int .i64 b.my] := M.Var.mono' (u := M.sets _ ([])) (by (try simp only [M.sets_append]); exact (M.var_sets_far ([]) (by (repeat (first | (with_reducible assumption) | (refine M.var_alloc' _ _ _ ?_; first | rfl | (simp [go_sem]; done)) | (with_reducible refine M.Var.alloc ?_ _) | (with_reducible refine M.Var.drewN ?_ _) | (with_reducible refine M.Var.drew ?_) | (with_reducible refine M.Var.far ?_ _ _ ?h; case h => (first | omega | ((try simp [go_sem]) <;> omega))) | fail)) : M.Var _ (w.heap.size) #[.int .i64 b.shape, .int .i64 b.sx, .int .i64 b.sy, .int .i64 b.mass, .int .i64 b.px, .int .i64 b.py, .int .i64 b.mx, .int .i64 b.my]) (by intro u hu; all_goals (first | rw [M.usBx_block hu] | rw [M.usV_block hu] | rw [M.usI_block hu] | rw [M.usHt_block hu] | rw [M.usBd_block hu] | rw [M.cell_block1 hu] | (exfalso; simp at hu; done)); all_goals ((try simp [go_sem]) <;> omega)))) (M.sets_size _ _) hb
      have V4_c : M.Var w4 (w1.heap.size) #[.int .i64 i] := M.Var.mono' (u := M.sets _ ([])) (by (try simp only [M.sets_append]); exact (M.var_sets_far ([]) (by (repeat (first | (with_reducible assumption) | (refine M.var_alloc' _ _ _ ?_; first | rfl | (simp [go_sem]; done)) | (with_reducible refine M.Var.alloc ?_ _) | (with_reducible refine M.Var.drewN ?_ _) | (with_reducible refine M.Var.drew ?_) | (with_reducible refine M.Var.far ?_ _ _ ?h; case h => (first | omega | ((try simp [go_sem]) <;> omega))) | fail)) : M.Var _ (w1.heap.size) #[.int .i64 i]) (by intro u hu; all_goals (first | rw [M.usBx_block hu] | rw [M.usV_block hu] | rw [M.usI_block hu] | rw [M.usHt_block hu] | rw [M.usBd_block hu] | rw [M.cell_block1 hu] | (exfalso; simp at hu; done)); all_goals ((try simp [go_sem]) <;> omega)))) (M.sets_size _ _) hb
      have V4_d : M.Var w4 (w1.heap.size + 1) #[.int .i64 0] := M.Var.mono' (u := M.sets _ ([])) (by (try simp only [M.sets_append]); exact (M.var_sets_far ([]) (by (repeat (first | (with_reducible assumption) | (refine M.var_alloc' _ _ _ ?_; first | rfl | (simp [go_sem]; done)) | (with_reducible refine M.Var.alloc ?_ _) | (with_reducible refine M.Var.drewN ?_ _) | (with_reducible refine M.Var.drew ?_) | (with_reducible refine M.Var.far ?_ _ _ ?h; case h => (first | omega | ((try simp [go_sem]) <;> omega))) | fail)) : M.Var _ (w1.heap.size + 1) #[.int .i64 0]) (by intro u hu; all_goals (first | rw [M.usBx_block hu] | rw [M.usV_block hu] | rw [M.usI_block hu] | rw [M.usHt_block hu] | rw [M.usBd_block hu] | rw [M.cell_block1 hu] | (exfalso; simp at hu; done)); all_goals ((try simp [go_sem]) <;> omega)))) (M.sets_size _ _) hb
      have V4_s : M.Var w4 (w2.heap.size) #[.int .i64 u, .int .i64 v] := M.Var.mono' (u := M.sets _ ([])) (by (try simp only [M.sets_append]); exact (M.var_sets_far ([]) (by (repeat (first | (with_reducible assumption) | (refine M.var_alloc' _ _ _ ?_; first | rfl | (simp [go_sem]; done)) | (with_reducible refine M.Var.alloc ?_ _) | (with_reducible refine M.Var.drewN ?_ _) | (with_reducible refine M.Var.drew ?_) | (with_reducible refine M.Var.far ?_ _ _ ?h; case h => (first | omega | ((try simp [go_sem]) <;> omega))) | fail)) : M.Var _ (w2.heap.size) #[.int .i64 u, .int .i64 v]) (by intro u hu; all_goals (first | rw [M.usBx_block hu] | rw [M.usV_block hu] | rw [M.usI_block hu] | rw [M.usHt_block hu] | rw [M.usBd_block hu] | rw [M.cell_block1 hu] | (exfalso; simp at hu; done)); all_goals ((try simp [go_sem]) <;> omega)))) (M.sets_size _ _) hb
      have V4_o : M.Var w4 (w3.heap.size) #[.int .i64 0, .int .i64 0] := M.Var.mono' (u := M.sets _ ([])) (by (try simp only [M.sets_append]); exact (M.var_sets_far ([]) (by (repeat (first | (with_reducible assumption) | (refine M.var_alloc' _ _ _ ?_; first | rfl | (simp [go_sem]; done)) | (with_reducible refine M.Var.alloc ?_ _) | (with_reducible refine M.Var.drewN ?_ _) | (with_reducible refine M.Var.drew ?_) | (with_reducible refine M.Var.far ?_ _ _ ?h; case h => (first | omega | ((try simp [go_sem]) <;> omega))) | fail)) : M.Var _ (w3.heap.size) #[.int .i64 0, .int .i64 0]) (by intro u hu; all_goals (first | rw [M.usBx_block hu] | rw [M.usV_block hu] | rw [M.usI_block hu] | rw [M.usHt_block hu] | rw [M.usBd_block hu] | rw [M.cell_block1 hu] | (exfalso; simp at hu; done)); all_goals ((try simp [go_sem]) <;> omega)))) (M.sets_size _ _) hb
      have V4_m : M.Var w4 (w3.heap.size + 1) #[.int .i64 0] := M.Var.mono' (u := M.sets _ ([])) (by (try simp only [M.sets_append]); exact (M.var_sets_far ([]) (by (repeat (first | (with_reducible assumption) | (refine M.var_alloc' _ _ _ ?_; first | rfl | (simp [go_sem]; done)) | (with_reducible refine M.Var.alloc ?_ _) | (with_reducible refine M.Var.drewN ?_ _) | (with_reducible refine M.Var.drew ?_) | (with_reducible refine M.Var.far ?_ _ _ ?h; case h => (first | omega | ((try simp [go_sem]) <;> omega))) | fail)) : M.Var _ (w3.heap.size + 1) #[.int .i64 0]) (by intro u hu; all_goals (first | rw [M.usBx_block hu] | rw [M.usV_block hu] | rw [M.usI_block hu] | rw [M.usHt_block hu] | rw [M.usBd_block hu] | rw [M.cell_block1 hu] | (exfalso; simp at hu; done)); all_goals ((try simp [go_sem]) <;> omega)))) (M.sets_size _ _) hb
      have q4_b_0 := V4_b.c 0 _ rfl
      have q4_b_1 := V4_b.c 1 _ rfl
      have q4_b_2 := V4_b.c 2 _ rfl
      have q4_b_3 := V4_b.c 3 _ rfl
      have q4_b_4 := V4_b.c 4 _ rfl
      have q4_b_5 := V4_b.c 5 _ rfl
      have q4_b_6 := V4_b.c 6 _ rfl
      have q4_b_7 := V4_b.c 7 _ rfl
      have f4_b := V4_b.2.2; have L4_b := V4_b.lt; have N4_b := Nat.ne_of_gt L4_b; have M4_b := Nat.ne_of_lt L4_b
      have HV4_b := Lib.hid V4_b
      have q4_c_0 := V4_c.c 0 _ rfl
      have f4_c := V4_c.2.2; have L4_c := V4_c.lt; have N4_c := Nat.ne_of_gt L4_c; have M4_c := Nat.ne_of_lt L4_c
      have HV4_c := Lib.hid V4_c
      have q4_d_0 := V4_d.c 0 _ rfl
      have f4_d := V4_d.2.2; have L4_d := V4_d.lt; have N4_d := Nat.ne_of_gt L4_d; have M4_d := Nat.ne_of_lt L4_d
      have HV4_d := Lib.hid V4_d
      have q4_s_0 := V4_s.c 0 _ rfl
      have q4_s_1 := V4_s.c 1 _ rfl
      have f4_s := V4_s.2.2; have L4_s := V4_s.lt; have N4_s := Nat.ne_of_gt L4_s; have M4_s := Nat.ne_of_lt L4_s
      have HV4_s := Lib.hid V4_s
      have q4_o_0 := V4_o.c 0 _ rfl
      have q4_o_1 := V4_o.c 1 _ rfl
      have f4_o := V4_o.2.2; have L4_o := V4_o.lt; have N4_o := Nat.ne_of_gt L4_o; have M4_o := Nat.ne_of_lt L4_o
      have HV4_o := Lib.hid V4_o
      have q4_m_0 := V4_m.c 0 _ rfl
      have f4_m := V4_m.2.2; have L4_m := V4_m.lt; have N4_m := Nat.ne_of_gt L4_m; have M4_m := Nat.ne_of_lt L4_m
      have HV4_m := Lib.hid V4_m
      have S4 := G4.size; clear hb
      go_wp2_with fail
      refine (try_c 60 #[.pointer (some ⟨w.heap.size, 0, none⟩), .pointer (some ⟨w3.heap.size + 1, 0, none⟩)] _ (0) (usI (w3.heap.size + 1) (.ok l)) (fun _ => rfl) ?_ ?_).mono ?_
      · intro u hu; (try simp only [List.mem_append] at hu); (repeat' (obtain hu | hu := (hu : _ ∨ _))); all_goals (first | rw [M.usBx_block hu] | rw [M.usV_block hu] | rw [M.usI_block hu] | rw [M.usHt_block hu] | rw [M.usBd_block hu] | rw [M.cell_block1 hu] | (exfalso; simp at hu; done)); all_goals ((try simp [go_sem]) <;> omega)
      · intro w1' hb; exact (cloLight _ _ b hB _ (.ok l) hR.out w1' (M.Var.mono (b := w.heap.size) (cs := #[.int .i64 b.shape, .int .i64 b.sx, .int .i64 b.sy, .int .i64 b.mass, .int .i64 b.px, .int .i64 b.py, .int .i64 b.mx, .int .i64 b.my]) (by (repeat (first | (with_reducible assumption) | (refine M.var_alloc' _ _ _ ?_; first | rfl | (simp [go_sem]; done)) | (with_reducible refine M.Var.alloc ?_ _) | (with_reducible refine M.Var.drewN ?_ _) | (with_reducible refine M.Var.drew ?_) | (with_reducible refine M.Var.far ?_ _ _ ?h; case h => (first | omega | ((try simp [go_sem]) <;> omega))) | fail))) hb) (M.Var.mono (b := w3.heap.size + 1) (cs := #[.int .i64 0]) (by (repeat (first | (with_reducible assumption) | (refine M.var_alloc' _ _ _ ?_; first | rfl | (simp [go_sem]; done)) | (with_reducible refine M.Var.alloc ?_ _) | (with_reducible refine M.Var.drewN ?_ _) | (with_reducible refine M.Var.drew ?_) | (with_reducible refine M.Var.far ?_ _ _ ?h; case h => (first | omega | ((try simp [go_sem]) <;> omega))) | fail))) hb)).mono fun e w' h => h
      rintro en w5 ⟨rfl, hb⟩
      have G5 : Below w.heap.size w w5 := Below.trans (M.below_sets_own (usI (w3.heap.size + 1) (.ok l)) (by (repeat (with_reducible refine M.Below.drewN ?_ _)); go_grown) (by intro u hu; (try simp only [List.mem_append] at hu); (repeat' (obtain hu | hu := (hu : _ ∨ _))); all_goals (first | rw [M.usBx_block hu] | rw [M.usV_block hu] | rw [M.usI_block hu] | rw [M.usHt_block hu] | rw [M.usBd_block hu] | rw [M.cell_block1 hu] | (exfalso; simp at hu; done)); all_goals ((try simp [go_sem]) <;> omega))) (hb.mono (by go_size))
      have V5_b : M.Var w5 (w.heap.size) #[.int .i64 b.shape, .int .i64 b.sx, .int .i64 b.sy, .int .i64 b.mass, .int .i64 b.px, .int .i64 b.py, .int .i64 b.mx, .int .i64 b.my] := M.Var.mono' (u := M.sets _ (usI (w3.heap.size + 1) (.ok l))) (by (try simp only [M.sets_append]); exact (M.var_sets_far (usI (w3.heap.size + 1) (.ok l)) (by (repeat (first | (with_reducible assumption) | (refine M.var_alloc' _ _ _ ?_; first | rfl | (simp [go_sem]; done)) | (with_reducible refine M.Var.alloc ?_ _) | (with_reducible refine M.Var.drewN ?_ _) | (with_reducible refine M.Var.drew ?_) | (with_reducible refine M.Var.far ?_ _ _ ?h; case h => (first | omega | ((try simp [go_sem]) <;> omega))) | fail)) : M.Var _ (w.heap.size) #[.int .i64 b.shape, .int .i64 b.sx, .int .i64 b.sy, .int .i64 b.mass, .int .i64 b.px, .int .i64 b.py, .int .i64 b.mx, .int .i64 b.my]) (by intro u hu; all_goals (first | rw [M.usBx_block hu] | rw [M.usV_block hu] | rw [M.usI_block hu] | rw [M.usHt_block hu] | rw [M.usBd_block hu] | rw [M.cell_block1 hu] | (exfalso; simp at hu; done)); all_goals ((try simp [go_sem]) <;> omega)))) (M.sets_size _ _) hb
      have V5_c : M.Var w5 (w1.heap.size) #[.int .i64 i] := M.Var.mono' (u := M.sets _ (usI (w3.heap.size + 1) (.ok l))) (by (try simp only [M.sets_append]); exact (M.var_sets_far (usI (w3.heap.size + 1) (.ok l)) (by (repeat (first | (with_reducible assumption) | (refine M.var_alloc' _ _ _ ?_; first | rfl | (simp [go_sem]; done)) | (with_reducible refine M.Var.alloc ?_ _) | (with_reducible refine M.Var.drewN ?_ _) | (with_reducible refine M.Var.drew ?_) | (with_reducible refine M.Var.far ?_ _ _ ?h; case h => (first | omega | ((try simp [go_sem]) <;> omega))) | fail)) : M.Var _ (w1.heap.size) #[.int .i64 i]) (by intro u hu; all_goals (first | rw [M.usBx_block hu] | rw [M.usV_block hu] | rw [M.usI_block hu] | rw [M.usHt_block hu] | rw [M.usBd_block hu] | rw [M.cell_block1 hu] | (exfalso; simp at hu; done)); all_goals ((try simp [go_sem]) <;> omega)))) (M.sets_size _ _) hb
      have V5_d : M.Var w5 (w1.heap.size + 1) #[.int .i64 0] := M.Var.mono' (u := M.sets _ (usI (w3.heap.size + 1) (.ok l))) (by (try simp only [M.sets_append]); exact (M.var_sets_far (usI (w3.heap.size + 1) (.ok l)) (by (repeat (first | (with_reducible assumption) | (refine M.var_alloc' _ _ _ ?_; first | rfl | (simp [go_sem]; done)) | (with_reducible refine M.Var.alloc ?_ _) | (with_reducible refine M.Var.drewN ?_ _) | (with_reducible refine M.Var.drew ?_) | (with_reducible refine M.Var.far ?_ _ _ ?h; case h => (first | omega | ((try simp [go_sem]) <;> omega))) | fail)) : M.Var _ (w1.heap.size + 1) #[.int .i64 0]) (by intro u hu; all_goals (first | rw [M.usBx_block hu] | rw [M.usV_block hu] | rw [M.usI_block hu] | rw [M.usHt_block hu] | rw [M.usBd_block hu] | rw [M.cell_block1 hu] | (exfalso; simp at hu; done)); all_goals ((try simp [go_sem]) <;> omega)))) (M.sets_size _ _) hb
      have V5_s : M.Var w5 (w2.heap.size) #[.int .i64 u, .int .i64 v] := M.Var.mono' (u := M.sets _ (usI (w3.heap.size + 1) (.ok l))) (by (try simp only [M.sets_append]); exact (M.var_sets_far (usI (w3.heap.size + 1) (.ok l)) (by (repeat (first | (with_reducible assumption) | (refine M.var_alloc' _ _ _ ?_; first | rfl | (simp [go_sem]; done)) | (with_reducible refine M.Var.alloc ?_ _) | (with_reducible refine M.Var.drewN ?_ _) | (with_reducible refine M.Var.drew ?_) | (with_reducible refine M.Var.far ?_ _ _ ?h; case h => (first | omega | ((try simp [go_sem]) <;> omega))) | fail)) : M.Var _ (w2.heap.size) #[.int .i64 u, .int .i64 v]) (by intro u hu; all_goals (first | rw [M.usBx_block hu] | rw [M.usV_block hu] | rw [M.usI_block hu] | rw [M.usHt_block hu] | rw [M.usBd_block hu] | rw [M.cell_block1 hu] | (exfalso; simp at hu; done)); all_goals ((try simp [go_sem]) <;> omega)))) (M.sets_size _ _) hb
      have V5_o : M.Var w5 (w3.heap.size) #[.int .i64 0, .int .i64 0] := M.Var.mono' (u := M.sets _ (usI (w3.heap.size + 1) (.ok l))) (by (try simp only [M.sets_append]); exact (M.var_sets_far (usI (w3.heap.size + 1) (.ok l)) (by (repeat (first | (with_reducible assumption) | (refine M.var_alloc' _ _ _ ?_; first | rfl | (simp [go_sem]; done)) | (with_reducible refine M.Var.alloc ?_ _) | (with_reducible refine M.Var.drewN ?_ _) | (with_reducible refine M.Var.drew ?_) | (with_reducible refine M.Var.far ?_ _ _ ?h; case h => (first | omega | ((try simp [go_sem]) <;> omega))) | fail)) : M.Var _ (w3.heap.size) #[.int .i64 0, .int .i64 0]) (by intro u hu; all_goals (first | rw [M.usBx_block hu] | rw [M.usV_block hu] | rw [M.usI_block hu] | rw [M.usHt_block hu] | rw [M.usBd_block hu] | rw [M.cell_block1 hu] | (exfalso; simp at hu; done)); all_goals ((try simp [go_sem]) <;> omega)))) (M.sets_size _ _) hb
      have V5_m : M.Var w5 (w3.heap.size + 1) #[.int .i64 l] := M.Var.mono' (u := M.sets _ (usI (w3.heap.size + 1) (.ok l))) (by (try simp only [M.sets_append]); exact (M.var_setI (by (repeat (first | (with_reducible assumption) | (refine M.var_alloc' _ _ _ ?_; first | rfl | (simp [go_sem]; done)) | (with_reducible refine M.Var.alloc ?_ _) | (with_reducible refine M.Var.drewN ?_ _) | (with_reducible refine M.Var.drew ?_) | (with_reducible refine M.Var.far ?_ _ _ ?h; case h => (first | omega | ((try simp [go_sem]) <;> omega))) | fail)) : M.Var _ (w3.heap.size + 1) #[.int .i64 0]) _)) (M.sets_size _ _) hb
      have q5_b_0 := V5_b.c 0 _ rfl
      have q5_b_1 := V5_b.c 1 _ rfl
      have q5_b_2 := V5_b.c 2 _ rfl
      have q5_b_3 := V5_b.c 3 _ rfl
      have q5_b_4 := V5_b.c 4 _ rfl
      have q5_b_5 := V5_b.c 5 _ rfl
      have q5_b_6 := V5_b.c 6 _ rfl
      have q5_b_7 := V5_b.c 7 _ rfl
      have f5_b := V5_b.2.2; have L5_b := V5_b.lt; have N5_b := Nat.ne_of_gt L5_b; have M5_b := Nat.ne_of_lt L5_b
      have HV5_b := Lib.hid V5_b
      have q5_c_0 := V5_c.c 0 _ rfl
      have f5_c := V5_c.2.2; have L5_c := V5_c.lt; have N5_c := Nat.ne_of_gt L5_c; have M5_c := Nat.ne_of_lt L5_c
      have HV5_c := Lib.hid V5_c
      have q5_d_0 := V5_d.c 0 _ rfl
      have f5_d := V5_d.2.2; have L5_d := V5_d.lt; have N5_d := Nat.ne_of_gt L5_d; have M5_d := Nat.ne_of_lt L5_d
      have HV5_d := Lib.hid V5_d
      have q5_s_0 := V5_s.c 0 _ rfl
      have q5_s_1 := V5_s.c 1 _ rfl
      have f5_s := V5_s.2.2; have L5_s := V5_s.lt; have N5_s := Nat.ne_of_gt L5_s; have M5_s := Nat.ne_of_lt L5_s
      have HV5_s := Lib.hid V5_s
      have q5_o_0 := V5_o.c 0 _ rfl
      have q5_o_1 := V5_o.c 1 _ rfl
      have f5_o := V5_o.2.2; have L5_o := V5_o.lt; have N5_o := Nat.ne_of_gt L5_o; have M5_o := Nat.ne_of_lt L5_o
      have HV5_o := Lib.hid V5_o
      have q5_m_0 := V5_m.c 0 _ rfl
      have f5_m := V5_m.2.2; have L5_m := V5_m.lt; have N5_m := Nat.ne_of_gt L5_m; have M5_m := Nat.ne_of_lt L5_m
      have HV5_m := Lib.hid V5_m
      have S5 := G5.size; clear hb
      go_wp2_with fail
      refine M.wp_region_later (fun w' => M.Var w' (w.heap.size) #[.int .i64 b.shape, .int .i64 b.sx, .int .i64 b.sy, .int .i64 b.mass, .int .i64 b.px, .int .i64 b.py, .int .i64 b.mx, .int .i64 b.my] ∧ M.Var w' (w1.heap.size) #[.int .i64 i] ∧ M.Var w' (w1.heap.size + 1) #[.int .i64 0] ∧ M.Var w' (w2.heap.size) #[.int .i64 u, .int .i64 v] ∧ M.Var w' (w3.heap.size) #[.int .i64 0, .int .i64 0] ∧ M.Var w' (w3.heap.size + 1) #[.int .i64 l] ∧ True) (by kernel_rfl) (by kernel_rfl) (fun w' hb => ⟨M.Var.mono (by (repeat (first | (with_reducible assumption) | (refine M.var_alloc' _ _ _ ?_; first | rfl | (simp [go_sem]; done)) | (with_reducible refine M.Var.alloc ?_ _) | (with_reducible refine M.Var.drewN ?_ _) | (with_reducible refine M.Var.drew ?_) | (with_reducible refine M.Var.far ?_ _ _ ?h; case h => (first | omega | ((try simp [go_sem]) <;> omega))) | fail)) : M.Var _ (w.heap.size) #[.int .i64 b.shape, .int .i64 b.sx, .int .i64 b.sy, .int .i64 b.mass, .int .i64 b.px, .int .i64 b.py, .int .i64 b.mx, .int .i64 b.my]) hb, M.Var.mono (by (repeat (first | (with_reducible assumption) | (refine M.var_alloc' _ _ _ ?_; first | rfl | (simp [go_sem]; done)) | (with_reducible refine M.Var.alloc ?_ _) | (with_reducible refine M.Var.drewN ?_ _) | (with_reducible refine M.Var.drew ?_) | (with_reducible refine M.Var.far ?_ _ _ ?h; case h => (first | omega | ((try simp [go_sem]) <;> omega))) | fail)) : M.Var _ (w1.heap.size) #[.int .i64 i]) hb, M.Var.mono (by (repeat (first | (with_reducible assumption) | (refine M.var_alloc' _ _ _ ?_; first | rfl | (simp [go_sem]; done)) | (with_reducible refine M.Var.alloc ?_ _) | (with_reducible refine M.Var.drewN ?_ _) | (with_reducible refine M.Var.drew ?_) | (with_reducible refine M.Var.far ?_ _ _ ?h; case h => (first | omega | ((try simp [go_sem]) <;> omega))) | fail)) : M.Var _ (w1.heap.size + 1) #[.int .i64 0]) hb, M.Var.mono (by (repeat (first | (with_reducible assumption) | (refine M.var_alloc' _ _ _ ?_; first | rfl | (simp [go_sem]; done)) | (with_reducible refine M.Var.alloc ?_ _) | (with_reducible refine M.Var.drewN ?_ _) | (with_reducible refine M.Var.drew ?_) | (with_reducible refine M.Var.far ?_ _ _ ?h; case h => (first | omega | ((try simp [go_sem]) <;> omega))) | fail)) : M.Var _ (w2.heap.size) #[.int .i64 u, .int .i64 v]) hb, M.Var.mono (by (repeat (first | (with_reducible assumption) | (refine M.var_alloc' _ _ _ ?_; first | rfl | (simp [go_sem]; done)) | (with_reducible refine M.Var.alloc ?_ _) | (with_reducible refine M.Var.drewN ?_ _) | (with_reducible refine M.Var.drew ?_) | (with_reducible refine M.Var.far ?_ _ _ ?h; case h => (first | omega | ((try simp [go_sem]) <;> omega))) | fail)) : M.Var _ (w3.heap.size) #[.int .i64 0, .int .i64 0]) hb, M.Var.mono (by (repeat (first | (with_reducible assumption) | (refine M.var_alloc' _ _ _ ?_; first | rfl | (simp [go_sem]; done)) | (with_reducible refine M.Var.alloc ?_ _) | (with_reducible refine M.Var.drewN ?_ _) | (with_reducible refine M.Var.drew ?_) | (with_reducible refine M.Var.far ?_ _ _ ?h; case h => (first | omega | ((try simp [go_sem]) <;> omega))) | fail)) : M.Var _ (w3.heap.size + 1) #[.int .i64 l]) hb, trivial⟩) ?_
      intro hS
      have z6_b_0 := fun p => (hS p).1.c 0 _ rfl
      have z6_b_1 := fun p => (hS p).1.c 1 _ rfl
      have z6_b_2 := fun p => (hS p).1.c 2 _ rfl
      have z6_b_3 := fun p => (hS p).1.c 3 _ rfl
      have z6_b_4 := fun p => (hS p).1.c 4 _ rfl
      have z6_b_5 := fun p => (hS p).1.c 5 _ rfl
      have z6_b_6 := fun p => (hS p).1.c 6 _ rfl
      have z6_b_7 := fun p => (hS p).1.c 7 _ rfl
      have z6_c_0 := fun p => (hS p).2.1.c 0 _ rfl
      have z6_d_0 := fun p => (hS p).2.2.1.c 0 _ rfl
      have z6_s_0 := fun p => (hS p).2.2.2.1.c 0 _ rfl
      have z6_s_1 := fun p => (hS p).2.2.2.1.c 1 _ rfl
      have z6_o_0 := fun p => (hS p).2.2.2.2.1.c 0 _ rfl
      have z6_o_1 := fun p => (hS p).2.2.2.2.1.c 1 _ rfl
      have z6_m_0 := fun p => (hS p).2.2.2.2.2.1.c 0 _ rfl
      have HS := Lib.hid hS; clear hS
      repeat (go_big_quiet_step ((first
            | (go_at_call 62; with_reducible exact M.later_of (C1.out _))
            | (go_at_call 45; with_reducible exact M.later_of (C2.out _))
            | (go_at_call 63; with_reducible exact M.later_of_dr (C3.out _))
        )))
      refine wpQuiet_nil ?_
      intro w6 hw'
      obtain ⟨pL, hL⟩ := hw'
      have hb := pL.h; rw [← hL] at hb; clear hL pL
      have G6 : Below w.heap.size w w6 := Below.trans (by (repeat (with_reducible refine M.Below.drewN ?_ _)); go_grown) (hb.mono (by go_size))
      have V6_b : M.Var w6 (w.heap.size) #[.int .i64 b.shape, .int .i64 b.sx, .int .i64 b.sy, .int .i64 b.mass, .int .i64 b.px, .int .i64 b.py, .int .i64 b.mx, .int .i64 b.my] := M.Var.mono (by (repeat (first | (with_reducible assumption) | (refine M.var_alloc' _ _ _ ?_; first | rfl | (simp [go_sem]; done)) | (with_reducible refine M.Var.alloc ?_ _) | (with_reducible refine M.Var.drewN ?_ _) | (with_reducible refine M.Var.drew ?_) | (with_reducible refine M.Var.far ?_ _ _ ?h; case h => (first | omega | ((try simp [go_sem]) <;> omega))) | fail))) hb
      have V6_c : M.Var w6 (w1.heap.size) #[.int .i64 i] := M.Var.mono (by (repeat (first | (with_reducible assumption) | (refine M.var_alloc' _ _ _ ?_; first | rfl | (simp [go_sem]; done)) | (with_reducible refine M.Var.alloc ?_ _) | (with_reducible refine M.Var.drewN ?_ _) | (with_reducible refine M.Var.drew ?_) | (with_reducible refine M.Var.far ?_ _ _ ?h; case h => (first | omega | ((try simp [go_sem]) <;> omega))) | fail))) hb
      have V6_d : M.Var w6 (w1.heap.size + 1) #[.int .i64 0] := M.Var.mono (by (repeat (first | (with_reducible assumption) | (refine M.var_alloc' _ _ _ ?_; first | rfl | (simp [go_sem]; done)) | (with_reducible refine M.Var.alloc ?_ _) | (with_reducible refine M.Var.drewN ?_ _) | (with_reducible refine M.Var.drew ?_) | (with_reducible refine M.Var.far ?_ _ _ ?h; case h => (first | omega | ((try simp [go_sem]) <;> omega))) | fail))) hb
      have V6_s : M.Var w6 (w2.heap.size) #[.int .i64 u, .int .i64 v] := M.Var.mono (by (repeat (first | (with_reducible assumption) | (refine M.var_alloc' _ _ _ ?_; first | rfl | (simp [go_sem]; done)) | (with_reducible refine M.Var.alloc ?_ _) | (with_reducible refine M.Var.drewN ?_ _) | (with_reducible refine M.Var.drew ?_) | (with_reducible refine M.Var.far ?_ _ _ ?h; case h => (first | omega | ((try simp [go_sem]) <;> omega))) | fail))) hb
      have V6_o : M.Var w6 (w3.heap.size) #[.int .i64 0, .int .i64 0] := M.Var.mono (by (repeat (first | (with_reducible assumption) | (refine M.var_alloc' _ _ _ ?_; first | rfl | (simp [go_sem]; done)) | (with_reducible refine M.Var.alloc ?_ _) | (with_reducible refine M.Var.drewN ?_ _) | (with_reducible refine M.Var.drew ?_) | (with_reducible refine M.Var.far ?_ _ _ ?h; case h => (first | omega | ((try simp [go_sem]) <;> omega))) | fail))) hb
      have V6_m : M.Var w6 (w3.heap.size + 1) #[.int .i64 l] := M.Var.mono (by (repeat (first | (with_reducible assumption) | (refine M.var_alloc' _ _ _ ?_; first | rfl | (simp [go_sem]; done)) | (with_reducible refine M.Var.alloc ?_ _) | (with_reducible refine M.Var.drewN ?_ _) | (with_reducible refine M.Var.drew ?_) | (with_reducible refine M.Var.far ?_ _ _ ?h; case h => (first | omega | ((try simp [go_sem]) <;> omega))) | fail))) hb
      have q6_b_0 := V6_b.c 0 _ rfl
      have q6_b_1 := V6_b.c 1 _ rfl
      have q6_b_2 := V6_b.c 2 _ rfl
      have q6_b_3 := V6_b.c 3 _ rfl
      have q6_b_4 := V6_b.c 4 _ rfl
      have q6_b_5 := V6_b.c 5 _ rfl
      have q6_b_6 := V6_b.c 6 _ rfl
      have q6_b_7 := V6_b.c 7 _ rfl
      have f6_b := V6_b.2.2; have L6_b := V6_b.lt; have N6_b := Nat.ne_of_gt L6_b; have M6_b := Nat.ne_of_lt L6_b
      have HV6_b := Lib.hid V6_b
      have q6_c_0 := V6_c.c 0 _ rfl
      have f6_c := V6_c.2.2; have L6_c := V6_c.lt; have N6_c := Nat.ne_of_gt L6_c; have M6_c := Nat.ne_of_lt L6_c
      have HV6_c := Lib.hid V6_c
      have q6_d_0 := V6_d.c 0 _ rfl
      have f6_d := V6_d.2.2; have L6_d := V6_d.lt; have N6_d := Nat.ne_of_gt L6_d; have M6_d := Nat.ne_of_lt L6_d
      have HV6_d := Lib.hid V6_d
      have q6_s_0 := V6_s.c 0 _ rfl
      have q6_s_1 := V6_s.c 1 _ rfl
      have f6_s := V6_s.2.2; have L6_s := V6_s.lt; have N6_s := Nat.ne_of_gt L6_s; have M6_s := Nat.ne_of_lt L6_s
      have HV6_s := Lib.hid V6_s
      have q6_o_0 := V6_o.c 0 _ rfl
      have q6_o_1 := V6_o.c 1 _ rfl
      have f6_o := V6_o.2.2; have L6_o := V6_o.lt; have N6_o := Nat.ne_of_gt L6_o; have M6_o := Nat.ne_of_lt L6_o
      have HV6_o := Lib.hid V6_o
      have q6_m_0 := V6_m.c 0 _ rfl
      have f6_m := V6_m.2.2; have L6_m := V6_m.lt; have N6_m := Nat.ne_of_gt L6_m; have M6_m := Nat.ne_of_lt L6_m
      have HV6_m := Lib.hid V6_m
      have S6 := G6.size; clear hb
      clear z6_b_0 z6_b_1 z6_b_2 z6_b_3 z6_b_4 z6_b_5 z6_b_6 z6_b_7 z6_c_0 z6_d_0 z6_s_0 z6_s_1 z6_o_0 z6_o_1 z6_m_0 HS
      go_wp2_with fail
      go_ret
      exact ⟨rfl, by (repeat (with_reducible refine M.Below.drewN ?_ _)); go_grown⟩

end Go.Proofs.Ytaagpkacningdaa.shapeTells
