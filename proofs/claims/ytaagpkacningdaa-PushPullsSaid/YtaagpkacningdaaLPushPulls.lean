/- For every two numbers PushPulls returns true: a joint that is too long pulls, one that is too short pushes, both bodies alike, along it. -/
import Derived.Test.YtaagpkacningdaaRows
import Derived.WalkKit
import Derived.ProofKit
import Derived.OpenShut
import Derived.Test.YtaagpkacningdaaFacts
import Derived.Test.YtaagpkacningdaaArgs
import Derived.Test.YtaagpkacningdaaPushAlive
import Derived.Test.YtaagpkacningdaaSlowMath
import Derived.Deep.RegionHeld2
import Derived.Deep.DrawnRows
namespace Go.Proofs.Ytaagpkacningdaa.pushPulls
open Go.ChangeShapes Go.WideShapes Go.ChangeAt Go.RowKit M
set_option maxRecDepth 100000
set_option maxHeartbeats 8000000
set_option linter.unusedVariables false
set_option linter.unusedSimpArgs false
attribute [local go_sem ↓] Go.wp_at_zero Go.wp_at_succ
theorem own : ownKnob Try.prog.godebug = none := by kernel_rfl

/-- The walk: the Go text returns true; of what was there nothing turns. -/
theorem walk (n : Int) (hn : I64 n) (l : Int) (hl : I64 l) (w : World) :
    Calls Try.prog 30 #[.int .i64 n, .int .i64 l] w fun e w' => e = .returned (.bool true) ∧ Bw w w' := by
  have c0 := Lib.hid alive11_c
  by_cases hg : 1 ≤ n ∧ n ≤ 500 ∧ 0 ≤ l ∧ l ≤ 500
  rotate_left
  · have h0 : n < 1 ∨ (¬ n < 1 ∧ 500 < n) ∨ (¬ n < 1 ∧ ¬ 500 < n ∧ l < 0) ∨ (¬ n < 1 ∧ ¬ 500 < n ∧ ¬ l < 0 ∧ 500 < l) := by omega
    clear hg
    rcases h0 with h1 | ⟨h1, h2⟩ | ⟨h1, h2, h3⟩ | ⟨h1, h2, h3, h4⟩
    · skip
      go_enter Try.func30, Try.ntmps30
      go_wp2_with fail
      (with_reducible refine (c0.out _).mono ?_); rintro en w1 ⟨rfl, hb⟩
      have G1 : Below w.heap.size w w1 := Below.trans (by (repeat (with_reducible refine M.Below.drewN ?_ _)); go_grown) (hb.mono (by go_size))
      have V1_l : M.Var w1 (w.heap.size) #[.int .i64 l] := M.Var.mono (by (repeat (first | (with_reducible assumption) | (with_reducible apply M.var_set45) | (with_reducible refine M.var_alloc' _ _ _ ?_; first | rfl | (simp [go_sem]; done)) | (with_reducible refine M.Var.alloc ?_ _) | (with_reducible refine M.Var.drewN ?_ _) | (with_reducible refine M.Var.drew ?_) | (with_reducible refine M.Var.far ?_ _ _ ?hFar; case hFar => (first | omega | ((try simp [go_sem]) <;> omega))) | fail))) hb
      have q1_l_0 : w1.cell? ⟨w.heap.size, 0, none⟩ = some (.int .i64 l) := V1_l.c 0 _ rfl
      have f1_l := V1_l.2.2; have L1_l := V1_l.lt; have N1_l := Nat.ne_of_gt L1_l; have M1_l := Nat.ne_of_lt L1_l
      have HV1_l := Lib.hid V1_l
      have S1 := G1.size; clear hb
      go_wp2_with fail
      go_ret
      exact ⟨rfl, by (repeat (with_reducible refine M.Below.drewN ?_ _)); go_grown⟩
    · skip
      go_enter Try.func30, Try.ntmps30
      go_wp2_with fail
      (with_reducible refine (c0.out _).mono ?_); rintro en w1 ⟨rfl, hb⟩
      have G1 : Below w.heap.size w w1 := Below.trans (by (repeat (with_reducible refine M.Below.drewN ?_ _)); go_grown) (hb.mono (by go_size))
      have V1_l : M.Var w1 (w.heap.size) #[.int .i64 l] := M.Var.mono (by (repeat (first | (with_reducible assumption) | (with_reducible apply M.var_set45) | (with_reducible refine M.var_alloc' _ _ _ ?_; first | rfl | (simp [go_sem]; done)) | (with_reducible refine M.Var.alloc ?_ _) | (with_reducible refine M.Var.drewN ?_ _) | (with_reducible refine M.Var.drew ?_) | (with_reducible refine M.Var.far ?_ _ _ ?hFar; case hFar => (first | omega | ((try simp [go_sem]) <;> omega))) | fail))) hb
      have q1_l_0 : w1.cell? ⟨w.heap.size, 0, none⟩ = some (.int .i64 l) := V1_l.c 0 _ rfl
      have f1_l := V1_l.2.2; have L1_l := V1_l.lt; have N1_l := Nat.ne_of_gt L1_l; have M1_l := Nat.ne_of_lt L1_l
      have HV1_l := Lib.hid V1_l
      have S1 := G1.size; clear hb
      go_wp2_with fail
      go_ret
      exact ⟨rfl, by (repeat (with_reducible refine M.Below.drewN ?_ _)); go_grown⟩
    · skip
      go_enter Try.func30, Try.ntmps30
      go_wp2_with fail
      (with_reducible refine (c0.out _).mono ?_); rintro en w1 ⟨rfl, hb⟩
      have G1 : Below w.heap.size w w1 := Below.trans (by (repeat (with_reducible refine M.Below.drewN ?_ _)); go_grown) (hb.mono (by go_size))
      have V1_l : M.Var w1 (w.heap.size) #[.int .i64 l] := M.Var.mono (by (repeat (first | (with_reducible assumption) | (with_reducible apply M.var_set45) | (with_reducible refine M.var_alloc' _ _ _ ?_; first | rfl | (simp [go_sem]; done)) | (with_reducible refine M.Var.alloc ?_ _) | (with_reducible refine M.Var.drewN ?_ _) | (with_reducible refine M.Var.drew ?_) | (with_reducible refine M.Var.far ?_ _ _ ?hFar; case hFar => (first | omega | ((try simp [go_sem]) <;> omega))) | fail))) hb
      have q1_l_0 : w1.cell? ⟨w.heap.size, 0, none⟩ = some (.int .i64 l) := V1_l.c 0 _ rfl
      have f1_l := V1_l.2.2; have L1_l := V1_l.lt; have N1_l := Nat.ne_of_gt L1_l; have M1_l := Nat.ne_of_lt L1_l
      have HV1_l := Lib.hid V1_l
      have S1 := G1.size; clear hb
      go_wp2_with fail
      go_ret
      exact ⟨rfl, by (repeat (with_reducible refine M.Below.drewN ?_ _)); go_grown⟩
    · skip
      go_enter Try.func30, Try.ntmps30
      go_wp2_with fail
      (with_reducible refine (c0.out _).mono ?_); rintro en w1 ⟨rfl, hb⟩
      have G1 : Below w.heap.size w w1 := Below.trans (by (repeat (with_reducible refine M.Below.drewN ?_ _)); go_grown) (hb.mono (by go_size))
      have V1_l : M.Var w1 (w.heap.size) #[.int .i64 l] := M.Var.mono (by (repeat (first | (with_reducible assumption) | (with_reducible apply M.var_set45) | (with_reducible refine M.var_alloc' _ _ _ ?_; first | rfl | (simp [go_sem]; done)) | (with_reducible refine M.Var.alloc ?_ _) | (with_reducible refine M.Var.drewN ?_ _) | (with_reducible refine M.Var.drew ?_) | (with_reducible refine M.Var.far ?_ _ _ ?hFar; case hFar => (first | omega | ((try simp [go_sem]) <;> omega))) | fail))) hb
      have q1_l_0 : w1.cell? ⟨w.heap.size, 0, none⟩ = some (.int .i64 l) := V1_l.c 0 _ rfl
      have f1_l := V1_l.2.2; have L1_l := V1_l.lt; have N1_l := Nat.ne_of_gt L1_l; have M1_l := Nat.ne_of_lt L1_l
      have HV1_l := Lib.hid V1_l
      have S1 := G1.size; clear hb
      go_wp2_with fail
      go_ret
      exact ⟨rfl, by (repeat (with_reducible refine M.Below.drewN ?_ _)); go_grown⟩
  obtain ⟨g1, g2, g3, g4⟩ := hg
  have e := rod n l ⟨g1, g2⟩ ⟨g3, g4⟩ (n * 4294967296, 0) (by unfold Near; dsimp only; omega) (nrm_x (by omega) (by omega)) (.inl (uV_x (by omega) (by omega))) 1 4294967296 0
  rw [uV_x (by omega) (by omega)] at e
  simp only [show (4294967296 : Int) / 4294967296 = 1 from rfl, show (0 : Int) / 4294967296 = 0 from rfl, Int.one_mul, Int.zero_mul, Int.neg_zero] at e
  have wm : (n - l) * 4 * 4294967296 = (n - l) * 17179869184 := by omega
  have oc : (⟨1, 4294967296, 0, 4294967296, 0, 0, 0, 0⟩ : Bd).ok := a11_ok
  have od : (⟨1, 4294967296, 0, 4294967296, n * 4294967296, 0, 0, 0⟩ : Bd).ok := ⟨oc.shape, oc.sx, oc.sy, oc.mass, by unfold I64; (try dsimp only); omega, oc.py, oc.mx, oc.my⟩
  have E := Lib.hid e; have OC := Lib.hid oc; have OD := Lib.hid od
  clear e oc od
  go_enter Try.func30, Try.ntmps30
  go_wp2_with fail
  (with_reducible refine (c0.out _).mono ?_); rintro en w1 ⟨rfl, hb⟩
  have G1 : Below w.heap.size w w1 := Below.trans (by (repeat (with_reducible refine M.Below.drewN ?_ _)); go_grown) (hb.mono (by go_size))
  have V1_l : M.Var w1 (w.heap.size) #[.int .i64 l] := M.Var.mono (by (repeat (first | (with_reducible assumption) | (with_reducible apply M.var_set45) | (with_reducible refine M.var_alloc' _ _ _ ?_; first | rfl | (simp [go_sem]; done)) | (with_reducible refine M.Var.alloc ?_ _) | (with_reducible refine M.Var.drewN ?_ _) | (with_reducible refine M.Var.drew ?_) | (with_reducible refine M.Var.far ?_ _ _ ?hFar; case hFar => (first | omega | ((try simp [go_sem]) <;> omega))) | fail))) hb
  have q1_l_0 : w1.cell? ⟨w.heap.size, 0, none⟩ = some (.int .i64 l) := V1_l.c 0 _ rfl
  have f1_l := V1_l.2.2; have L1_l := V1_l.lt; have N1_l := Nat.ne_of_gt L1_l; have M1_l := Nat.ne_of_lt L1_l
  have HV1_l := Lib.hid V1_l
  have S1 := G1.size; clear hb
  go_wp2_with fail
  refine (try_c 124 #[.pointer (some ⟨w1.heap.size, 0, none⟩), .pointer (some ⟨w1.heap.size + 1, 0, none⟩), .pointer (some ⟨w.heap.size, 0, none⟩), .pointer (some ⟨w1.heap.size + 1 + 1, 0, none⟩), .pointer (some ⟨w1.heap.size + 1 + 1 + 1, 0, none⟩)] _ (0) (usBd (w1.heap.size + 1 + 1) (.ok ⟨1, 4294967296, 0, 4294967296, 0, 0, (n - l) * 17179869184, 0⟩) ++ usBd (w1.heap.size + 1 + 1 + 1) (.ok ⟨1, 4294967296, 0, 4294967296, n * 4294967296, 0, -((n - l) * 17179869184), 0⟩)) (fun _ => rfl) ?_ ?_).mono ?_
  · intro u hu; (try simp only [List.mem_append] at hu); (repeat' (obtain hu | hu := (hu : _ ∨ _))); all_goals (first | rw [M.usBx_block hu] | rw [M.usV_block hu] | rw [M.usI_block hu] | rw [M.usHt_block hu] | rw [M.usBd_block hu] | rw [M.usB_block hu] | rw [M.cell_block1 hu] | (exfalso; simp at hu; done)); all_goals ((try simp [go_sem]) <;> omega)
  · intro w1' hb; exact (cloPu _ _ _ _ _ ⟨1, 4294967296, 0, 4294967296, 0, 0, 0, 0⟩ OC.out ⟨1, 4294967296, 0, 4294967296, n * 4294967296, 0, 0, 0⟩ OD.out l hl _ _ _ _ _ _ _ _ _ _ _ _ _ _ _ _ (.ok (⟨1, 4294967296, 0, 4294967296, 0, 0, (n - l) * 17179869184, 0⟩, ⟨1, 4294967296, 0, 4294967296, n * 4294967296, 0, -((n - l) * 17179869184), 0⟩)) E.out g3 g4 w1' (M.Var.mono (b := w1.heap.size) (cs := #[.int .i64 1, .int .i64 4294967296, .int .i64 0, .int .i64 4294967296, .int .i64 0, .int .i64 0, .int .i64 0, .int .i64 0]) (by (repeat (first | (with_reducible assumption) | (with_reducible apply M.var_set45) | (with_reducible refine M.var_alloc' _ _ _ ?_; first | rfl | (simp [go_sem]; done)) | (with_reducible refine M.Var.alloc ?_ _) | (with_reducible refine M.Var.drewN ?_ _) | (with_reducible refine M.Var.drew ?_) | (with_reducible refine M.Var.far ?_ _ _ ?hFar; case hFar => (first | omega | ((try simp [go_sem]) <;> omega))) | fail))) hb) (M.Var.mono (b := w1.heap.size + 1) (cs := #[.int .i64 1, .int .i64 4294967296, .int .i64 0, .int .i64 4294967296, .int .i64 (n * 4294967296), .int .i64 0, .int .i64 0, .int .i64 0]) (by (repeat (first | (with_reducible assumption) | (with_reducible apply M.var_set45) | (with_reducible refine M.var_alloc' _ _ _ ?_; first | rfl | (simp [go_sem]; done)) | (with_reducible refine M.Var.alloc ?_ _) | (with_reducible refine M.Var.drewN ?_ _) | (with_reducible refine M.Var.drew ?_) | (with_reducible refine M.Var.far ?_ _ _ ?hFar; case hFar => (first | omega | ((try simp [go_sem]) <;> omega))) | fail))) hb) (M.Var.mono (b := w.heap.size) (cs := #[.int .i64 l]) (by (repeat (first | (with_reducible assumption) | (with_reducible apply M.var_set45) | (with_reducible refine M.var_alloc' _ _ _ ?_; first | rfl | (simp [go_sem]; done)) | (with_reducible refine M.Var.alloc ?_ _) | (with_reducible refine M.Var.drewN ?_ _) | (with_reducible refine M.Var.drew ?_) | (with_reducible refine M.Var.far ?_ _ _ ?hFar; case hFar => (first | omega | ((try simp [go_sem]) <;> omega))) | fail))) hb) (M.Var.mono (b := w1.heap.size + 1 + 1) (cs := #[.int .i64 0, .int .i64 0, .int .i64 0, .int .i64 0, .int .i64 0, .int .i64 0, .int .i64 0, .int .i64 0]) (by (repeat (first | (with_reducible assumption) | (with_reducible apply M.var_set45) | (with_reducible refine M.var_alloc' _ _ _ ?_; first | rfl | (simp [go_sem]; done)) | (with_reducible refine M.Var.alloc ?_ _) | (with_reducible refine M.Var.drewN ?_ _) | (with_reducible refine M.Var.drew ?_) | (with_reducible refine M.Var.far ?_ _ _ ?hFar; case hFar => (first | omega | ((try simp [go_sem]) <;> omega))) | fail))) hb) (M.Var.mono (b := w1.heap.size + 1 + 1 + 1) (cs := #[.int .i64 0, .int .i64 0, .int .i64 0, .int .i64 0, .int .i64 0, .int .i64 0, .int .i64 0, .int .i64 0]) (by (repeat (first | (with_reducible assumption) | (with_reducible apply M.var_set45) | (with_reducible refine M.var_alloc' _ _ _ ?_; first | rfl | (simp [go_sem]; done)) | (with_reducible refine M.Var.alloc ?_ _) | (with_reducible refine M.Var.drewN ?_ _) | (with_reducible refine M.Var.drew ?_) | (with_reducible refine M.Var.far ?_ _ _ ?hFar; case hFar => (first | omega | ((try simp [go_sem]) <;> omega))) | fail))) hb) (by omega)).mono fun e w' h => h
  rintro en w2 ⟨rfl, hb⟩
  have G2 : Below w.heap.size w w2 := Below.trans (M.below_sets_own (usBd (w1.heap.size + 1 + 1) (.ok ⟨1, 4294967296, 0, 4294967296, 0, 0, (n - l) * 17179869184, 0⟩) ++ usBd (w1.heap.size + 1 + 1 + 1) (.ok ⟨1, 4294967296, 0, 4294967296, n * 4294967296, 0, -((n - l) * 17179869184), 0⟩)) (by (repeat (with_reducible refine M.Below.drewN ?_ _)); go_grown) (by intro u hu; (try simp only [List.mem_append] at hu); (repeat' (obtain hu | hu := (hu : _ ∨ _))); all_goals (first | rw [M.usBx_block hu] | rw [M.usV_block hu] | rw [M.usI_block hu] | rw [M.usHt_block hu] | rw [M.usBd_block hu] | rw [M.usB_block hu] | rw [M.cell_block1 hu] | (exfalso; simp at hu; done)); all_goals ((try simp [go_sem]) <;> omega))) (hb.mono (by go_size))
  have V2_l : M.Var w2 (w.heap.size) #[.int .i64 l] := M.Var.mono' (u := M.sets _ (usBd (w1.heap.size + 1 + 1) (.ok ⟨1, 4294967296, 0, 4294967296, 0, 0, (n - l) * 17179869184, 0⟩) ++ usBd (w1.heap.size + 1 + 1 + 1) (.ok ⟨1, 4294967296, 0, 4294967296, n * 4294967296, 0, -((n - l) * 17179869184), 0⟩))) (by (try simp only [M.sets_append]); exact (M.var_sets_far (usBd (w1.heap.size + 1 + 1 + 1) (.ok ⟨1, 4294967296, 0, 4294967296, n * 4294967296, 0, -((n - l) * 17179869184), 0⟩)) (M.var_sets_far (usBd (w1.heap.size + 1 + 1) (.ok ⟨1, 4294967296, 0, 4294967296, 0, 0, (n - l) * 17179869184, 0⟩)) (by (repeat (first | (with_reducible assumption) | (with_reducible apply M.var_set45) | (with_reducible refine M.var_alloc' _ _ _ ?_; first | rfl | (simp [go_sem]; done)) | (with_reducible refine M.Var.alloc ?_ _) | (with_reducible refine M.Var.drewN ?_ _) | (with_reducible refine M.Var.drew ?_) | (with_reducible refine M.Var.far ?_ _ _ ?hFar; case hFar => (first | omega | ((try simp [go_sem]) <;> omega))) | fail)) : M.Var _ (w.heap.size) #[.int .i64 l]) (by intro u hu; all_goals (first | rw [M.usBx_block hu] | rw [M.usV_block hu] | rw [M.usI_block hu] | rw [M.usHt_block hu] | rw [M.usBd_block hu] | rw [M.usB_block hu] | rw [M.cell_block1 hu] | (exfalso; simp at hu; done)); all_goals ((try simp [go_sem]) <;> omega))) (by intro u hu; all_goals (first | rw [M.usBx_block hu] | rw [M.usV_block hu] | rw [M.usI_block hu] | rw [M.usHt_block hu] | rw [M.usBd_block hu] | rw [M.usB_block hu] | rw [M.cell_block1 hu] | (exfalso; simp at hu; done)); all_goals ((try simp [go_sem]) <;> omega)))) (M.sets_size _ _) hb
  have V2_c : M.Var w2 (w1.heap.size) #[.int .i64 1, .int .i64 4294967296, .int .i64 0, .int .i64 4294967296, .int .i64 0, .int .i64 0, .int .i64 0, .int .i64 0] := M.Var.mono' (u := M.sets _ (usBd (w1.heap.size + 1 + 1) (.ok ⟨1, 4294967296, 0, 4294967296, 0, 0, (n - l) * 17179869184, 0⟩) ++ usBd (w1.heap.size + 1 + 1 + 1) (.ok ⟨1, 4294967296, 0, 4294967296, n * 4294967296, 0, -((n - l) * 17179869184), 0⟩))) (by (try simp only [M.sets_append]); exact (M.var_sets_far (usBd (w1.heap.size + 1 + 1 + 1) (.ok ⟨1, 4294967296, 0, 4294967296, n * 4294967296, 0, -((n - l) * 17179869184), 0⟩)) (M.var_sets_far (usBd (w1.heap.size + 1 + 1) (.ok ⟨1, 4294967296, 0, 4294967296, 0, 0, (n - l) * 17179869184, 0⟩)) (by (repeat (first | (with_reducible assumption) | (with_reducible apply M.var_set45) | (with_reducible refine M.var_alloc' _ _ _ ?_; first | rfl | (simp [go_sem]; done)) | (with_reducible refine M.Var.alloc ?_ _) | (with_reducible refine M.Var.drewN ?_ _) | (with_reducible refine M.Var.drew ?_) | (with_reducible refine M.Var.far ?_ _ _ ?hFar; case hFar => (first | omega | ((try simp [go_sem]) <;> omega))) | fail)) : M.Var _ (w1.heap.size) #[.int .i64 1, .int .i64 4294967296, .int .i64 0, .int .i64 4294967296, .int .i64 0, .int .i64 0, .int .i64 0, .int .i64 0]) (by intro u hu; all_goals (first | rw [M.usBx_block hu] | rw [M.usV_block hu] | rw [M.usI_block hu] | rw [M.usHt_block hu] | rw [M.usBd_block hu] | rw [M.usB_block hu] | rw [M.cell_block1 hu] | (exfalso; simp at hu; done)); all_goals ((try simp [go_sem]) <;> omega))) (by intro u hu; all_goals (first | rw [M.usBx_block hu] | rw [M.usV_block hu] | rw [M.usI_block hu] | rw [M.usHt_block hu] | rw [M.usBd_block hu] | rw [M.usB_block hu] | rw [M.cell_block1 hu] | (exfalso; simp at hu; done)); all_goals ((try simp [go_sem]) <;> omega)))) (M.sets_size _ _) hb
  have V2_d : M.Var w2 (w1.heap.size + 1) #[.int .i64 1, .int .i64 4294967296, .int .i64 0, .int .i64 4294967296, .int .i64 (n * 4294967296), .int .i64 0, .int .i64 0, .int .i64 0] := M.Var.mono' (u := M.sets _ (usBd (w1.heap.size + 1 + 1) (.ok ⟨1, 4294967296, 0, 4294967296, 0, 0, (n - l) * 17179869184, 0⟩) ++ usBd (w1.heap.size + 1 + 1 + 1) (.ok ⟨1, 4294967296, 0, 4294967296, n * 4294967296, 0, -((n - l) * 17179869184), 0⟩))) (by (try simp only [M.sets_append]); exact (M.var_sets_far (usBd (w1.heap.size + 1 + 1 + 1) (.ok ⟨1, 4294967296, 0, 4294967296, n * 4294967296, 0, -((n - l) * 17179869184), 0⟩)) (M.var_sets_far (usBd (w1.heap.size + 1 + 1) (.ok ⟨1, 4294967296, 0, 4294967296, 0, 0, (n - l) * 17179869184, 0⟩)) (by (repeat (first | (with_reducible assumption) | (with_reducible apply M.var_set45) | (with_reducible refine M.var_alloc' _ _ _ ?_; first | rfl | (simp [go_sem]; done)) | (with_reducible refine M.Var.alloc ?_ _) | (with_reducible refine M.Var.drewN ?_ _) | (with_reducible refine M.Var.drew ?_) | (with_reducible refine M.Var.far ?_ _ _ ?hFar; case hFar => (first | omega | ((try simp [go_sem]) <;> omega))) | fail)) : M.Var _ (w1.heap.size + 1) #[.int .i64 1, .int .i64 4294967296, .int .i64 0, .int .i64 4294967296, .int .i64 (n * 4294967296), .int .i64 0, .int .i64 0, .int .i64 0]) (by intro u hu; all_goals (first | rw [M.usBx_block hu] | rw [M.usV_block hu] | rw [M.usI_block hu] | rw [M.usHt_block hu] | rw [M.usBd_block hu] | rw [M.usB_block hu] | rw [M.cell_block1 hu] | (exfalso; simp at hu; done)); all_goals ((try simp [go_sem]) <;> omega))) (by intro u hu; all_goals (first | rw [M.usBx_block hu] | rw [M.usV_block hu] | rw [M.usI_block hu] | rw [M.usHt_block hu] | rw [M.usBd_block hu] | rw [M.usB_block hu] | rw [M.cell_block1 hu] | (exfalso; simp at hu; done)); all_goals ((try simp [go_sem]) <;> omega)))) (M.sets_size _ _) hb
  have V2_u : M.Var w2 (w1.heap.size + 1 + 1) #[.int .i64 1, .int .i64 4294967296, .int .i64 0, .int .i64 4294967296, .int .i64 0, .int .i64 0, .int .i64 ((n - l) * 17179869184), .int .i64 0] := M.Var.mono' (u := M.sets _ (usBd (w1.heap.size + 1 + 1) (.ok ⟨1, 4294967296, 0, 4294967296, 0, 0, (n - l) * 17179869184, 0⟩) ++ usBd (w1.heap.size + 1 + 1 + 1) (.ok ⟨1, 4294967296, 0, 4294967296, n * 4294967296, 0, -((n - l) * 17179869184), 0⟩))) (by (try simp only [M.sets_append]); exact (M.var_sets_far (usBd (w1.heap.size + 1 + 1 + 1) (.ok ⟨1, 4294967296, 0, 4294967296, n * 4294967296, 0, -((n - l) * 17179869184), 0⟩)) (M.var_setBd (by (repeat (first | (with_reducible assumption) | (with_reducible apply M.var_set45) | (with_reducible refine M.var_alloc' _ _ _ ?_; first | rfl | (simp [go_sem]; done)) | (with_reducible refine M.Var.alloc ?_ _) | (with_reducible refine M.Var.drewN ?_ _) | (with_reducible refine M.Var.drew ?_) | (with_reducible refine M.Var.far ?_ _ _ ?hFar; case hFar => (first | omega | ((try simp [go_sem]) <;> omega))) | fail)) : M.Var _ (w1.heap.size + 1 + 1) #[.int .i64 0, .int .i64 0, .int .i64 0, .int .i64 0, .int .i64 0, .int .i64 0, .int .i64 0, .int .i64 0]) _ _ _ _ _ _ _ _) (by intro u hu; all_goals (first | rw [M.usBx_block hu] | rw [M.usV_block hu] | rw [M.usI_block hu] | rw [M.usHt_block hu] | rw [M.usBd_block hu] | rw [M.usB_block hu] | rw [M.cell_block1 hu] | (exfalso; simp at hu; done)); all_goals ((try simp [go_sem]) <;> omega)))) (M.sets_size _ _) hb
  have V2_v : M.Var w2 (w1.heap.size + 1 + 1 + 1) #[.int .i64 1, .int .i64 4294967296, .int .i64 0, .int .i64 4294967296, .int .i64 (n * 4294967296), .int .i64 0, .int .i64 (-((n - l) * 17179869184)), .int .i64 0] := M.Var.mono' (u := M.sets _ (usBd (w1.heap.size + 1 + 1) (.ok ⟨1, 4294967296, 0, 4294967296, 0, 0, (n - l) * 17179869184, 0⟩) ++ usBd (w1.heap.size + 1 + 1 + 1) (.ok ⟨1, 4294967296, 0, 4294967296, n * 4294967296, 0, -((n - l) * 17179869184), 0⟩))) (by (try simp only [M.sets_append]); exact (M.var_setBd (M.var_sets_far (usBd (w1.heap.size + 1 + 1) (.ok ⟨1, 4294967296, 0, 4294967296, 0, 0, (n - l) * 17179869184, 0⟩)) (by (repeat (first | (with_reducible assumption) | (with_reducible apply M.var_set45) | (with_reducible refine M.var_alloc' _ _ _ ?_; first | rfl | (simp [go_sem]; done)) | (with_reducible refine M.Var.alloc ?_ _) | (with_reducible refine M.Var.drewN ?_ _) | (with_reducible refine M.Var.drew ?_) | (with_reducible refine M.Var.far ?_ _ _ ?hFar; case hFar => (first | omega | ((try simp [go_sem]) <;> omega))) | fail)) : M.Var _ (w1.heap.size + 1 + 1 + 1) #[.int .i64 0, .int .i64 0, .int .i64 0, .int .i64 0, .int .i64 0, .int .i64 0, .int .i64 0, .int .i64 0]) (by intro u hu; all_goals (first | rw [M.usBx_block hu] | rw [M.usV_block hu] | rw [M.usI_block hu] | rw [M.usHt_block hu] | rw [M.usBd_block hu] | rw [M.usB_block hu] | rw [M.cell_block1 hu] | (exfalso; simp at hu; done)); all_goals ((try simp [go_sem]) <;> omega))) _ _ _ _ _ _ _ _)) (M.sets_size _ _) hb
  have q2_l_0 : w2.cell? ⟨w.heap.size, 0, none⟩ = some (.int .i64 l) := V2_l.c 0 _ rfl
  have f2_l := V2_l.2.2; have L2_l := V2_l.lt; have N2_l := Nat.ne_of_gt L2_l; have M2_l := Nat.ne_of_lt L2_l
  have HV2_l := Lib.hid V2_l
  have q2_c_0 : w2.cell? ⟨w1.heap.size, 0, none⟩ = some (.int .i64 1) := V2_c.c 0 _ rfl
  have q2_c_1 : w2.cell? ⟨w1.heap.size, 1, none⟩ = some (.int .i64 4294967296) := V2_c.c 1 _ rfl
  have q2_c_2 : w2.cell? ⟨w1.heap.size, 2, none⟩ = some (.int .i64 0) := V2_c.c 2 _ rfl
  have q2_c_3 : w2.cell? ⟨w1.heap.size, 3, none⟩ = some (.int .i64 4294967296) := V2_c.c 3 _ rfl
  have q2_c_4 : w2.cell? ⟨w1.heap.size, 4, none⟩ = some (.int .i64 0) := V2_c.c 4 _ rfl
  have q2_c_5 : w2.cell? ⟨w1.heap.size, 5, none⟩ = some (.int .i64 0) := V2_c.c 5 _ rfl
  have q2_c_6 : w2.cell? ⟨w1.heap.size, 6, none⟩ = some (.int .i64 0) := V2_c.c 6 _ rfl
  have q2_c_7 : w2.cell? ⟨w1.heap.size, 7, none⟩ = some (.int .i64 0) := V2_c.c 7 _ rfl
  have f2_c := V2_c.2.2; have L2_c := V2_c.lt; have N2_c := Nat.ne_of_gt L2_c; have M2_c := Nat.ne_of_lt L2_c
  have HV2_c := Lib.hid V2_c
  have q2_d_0 : w2.cell? ⟨w1.heap.size + 1, 0, none⟩ = some (.int .i64 1) := V2_d.c 0 _ rfl
  have q2_d_1 : w2.cell? ⟨w1.heap.size + 1, 1, none⟩ = some (.int .i64 4294967296) := V2_d.c 1 _ rfl
  have q2_d_2 : w2.cell? ⟨w1.heap.size + 1, 2, none⟩ = some (.int .i64 0) := V2_d.c 2 _ rfl
  have q2_d_3 : w2.cell? ⟨w1.heap.size + 1, 3, none⟩ = some (.int .i64 4294967296) := V2_d.c 3 _ rfl
  have q2_d_4 : w2.cell? ⟨w1.heap.size + 1, 4, none⟩ = some (.int .i64 (n * 4294967296)) := V2_d.c 4 _ rfl
  have q2_d_5 : w2.cell? ⟨w1.heap.size + 1, 5, none⟩ = some (.int .i64 0) := V2_d.c 5 _ rfl
  have q2_d_6 : w2.cell? ⟨w1.heap.size + 1, 6, none⟩ = some (.int .i64 0) := V2_d.c 6 _ rfl
  have q2_d_7 : w2.cell? ⟨w1.heap.size + 1, 7, none⟩ = some (.int .i64 0) := V2_d.c 7 _ rfl
  have f2_d := V2_d.2.2; have L2_d := V2_d.lt; have N2_d := Nat.ne_of_gt L2_d; have M2_d := Nat.ne_of_lt L2_d
  have HV2_d := Lib.hid V2_d
  have q2_u_0 : w2.cell? ⟨w1.heap.size + 1 + 1, 0, none⟩ = some (.int .i64 1) := V2_u.c 0 _ rfl
  have q2_u_1 : w2.cell? ⟨w1.heap.size + 1 + 1, 1, none⟩ = some (.int .i64 4294967296) := V2_u.c 1 _ rfl
  have q2_u_2 : w2.cell? ⟨w1.heap.size + 1 + 1, 2, none⟩ = some (.int .i64 0) := V2_u.c 2 _ rfl
  have q2_u_3 : w2.cell? ⟨w1.heap.size + 1 + 1, 3, none⟩ = some (.int .i64 4294967296) := V2_u.c 3 _ rfl
  have q2_u_4 : w2.cell? ⟨w1.heap.size + 1 + 1, 4, none⟩ = some (.int .i64 0) := V2_u.c 4 _ rfl
  have q2_u_5 : w2.cell? ⟨w1.heap.size + 1 + 1, 5, none⟩ = some (.int .i64 0) := V2_u.c 5 _ rfl
  have q2_u_6 : w2.cell? ⟨w1.heap.size + 1 + 1, 6, none⟩ = some (.int .i64 ((n - l) * 17179869184)) := V2_u.c 6 _ rfl
  have q2_u_7 : w2.cell? ⟨w1.heap.size + 1 + 1, 7, none⟩ = some (.int .i64 0) := V2_u.c 7 _ rfl
  have f2_u := V2_u.2.2; have L2_u := V2_u.lt; have N2_u := Nat.ne_of_gt L2_u; have M2_u := Nat.ne_of_lt L2_u
  have HV2_u := Lib.hid V2_u
  have q2_v_0 : w2.cell? ⟨w1.heap.size + 1 + 1 + 1, 0, none⟩ = some (.int .i64 1) := V2_v.c 0 _ rfl
  have q2_v_1 : w2.cell? ⟨w1.heap.size + 1 + 1 + 1, 1, none⟩ = some (.int .i64 4294967296) := V2_v.c 1 _ rfl
  have q2_v_2 : w2.cell? ⟨w1.heap.size + 1 + 1 + 1, 2, none⟩ = some (.int .i64 0) := V2_v.c 2 _ rfl
  have q2_v_3 : w2.cell? ⟨w1.heap.size + 1 + 1 + 1, 3, none⟩ = some (.int .i64 4294967296) := V2_v.c 3 _ rfl
  have q2_v_4 : w2.cell? ⟨w1.heap.size + 1 + 1 + 1, 4, none⟩ = some (.int .i64 (n * 4294967296)) := V2_v.c 4 _ rfl
  have q2_v_5 : w2.cell? ⟨w1.heap.size + 1 + 1 + 1, 5, none⟩ = some (.int .i64 0) := V2_v.c 5 _ rfl
  have q2_v_6 : w2.cell? ⟨w1.heap.size + 1 + 1 + 1, 6, none⟩ = some (.int .i64 (-((n - l) * 17179869184))) := V2_v.c 6 _ rfl
  have q2_v_7 : w2.cell? ⟨w1.heap.size + 1 + 1 + 1, 7, none⟩ = some (.int .i64 0) := V2_v.c 7 _ rfl
  have f2_v := V2_v.2.2; have L2_v := V2_v.lt; have N2_v := Nat.ne_of_gt L2_v; have M2_v := Nat.ne_of_lt L2_v
  have HV2_v := Lib.hid V2_v
  have S2 := G2.size; clear hb
  go_wp2_with fail
  go_ret
  exact ⟨rfl, by (repeat (with_reducible refine M.Below.drewN ?_ _)); go_grown⟩

theorem lifted (os : Os) (started : os.Started) (H : Type) (enc : TypeId × Value → H) :
    ReturnsInHanded {} Try.checked os 30 .any (Rows.pushPullsSpec.pre6 enc Try.prog Try.f30 Rows.pushPullsRow.domain false) (Rows.pushPullsSpec.post enc Try.prog Try.f30 false true false false) := by
  refine returnsInHanded_of_change (C := Try.checked) own started (by kernel_rfl) Try.func30
    (ChangeSpec.witness6 (enc := enc) (C := Try.checked) false ⟨#[], #[.int .i64 0, .int .i64 0], []⟩ 8 (by kernel_rfl) (by kernel_rfl) (by kernel_rfl) (by kernel_rfl)) ?_
  intro W base args ds gs before hval0 hW hcnd _
  have hval : ∀ (j : Nat) t v, Try.f30.params[j]? = some t → args[j]? = some v → Value.okWide Try.prog W .any base t v := hval0
  have hW' := hW
  obtain ⟨p, q, hA0, hV, rfl, hfz, hnd⟩ := hW
  have hA : DataW.TrodAll enc Try.prog W 0 (fun _ => true) true Try.f30.params.toList args.toList ds p := hA0
  rw [Try.params30] at hA hval
  obtain ⟨v0, vs0, d0, ds0, p0, q0, hargs, rfl, rfl, h0, r0⟩ := trodAll_cons hA
  obtain ⟨v1, vs1, d1, ds1, p1, q1, rfl, rfl, rfl, h1, r1⟩ := trodAll_cons r0
  obtain ⟨rfl, rfl, rfl⟩ := trodAll_nil r1
  obtain rfl : args = #[v0, v1] := by cases args; simp_all
  obtain ⟨rfl, rfl⟩ := trodVars_none hV
  obtain ⟨n, rfl, rfl, rfl, wn⟩ := open_int Try.underlying3 (hval 0 3 v0 rfl rfl) h0
  obtain ⟨l, rfl, rfl, rfl, wl⟩ := open_int Try.underlying3 (hval 1 3 v1 rfl rfl) h1
  clear hA0 hval0
  simp only [List.append_nil] at hW'
  refine (walk n (i64_wf wn) l (i64_wf wl) W).mono fun e W' ⟨he, hg⟩ => ?_
  subst he
  exact ⟨_, rfl, post_below (pa := []) (pv := []) hW' (fun _ _ _ => (trodAll_cons_mk (shut_bool Try.underlying4 _) trodAll_mk0)) (fun sp _ => (trodAll_cons_mk (shut_int Try.underlying3 wn) (trodAll_cons_mk (shut_int Try.underlying3 wl) trodAll_mk0))) (fun _ _ => rfl) rfl
    hg (ok_one (by kernel_rfl) rfl (okWide_bool_mk Try.underlying4 _))⟩

theorem closed : joinedFacts Try.prog 30 Try.f30 Rows.pushPullsSpec Rows.pushPullsRow = true := by
  unfold joinedFacts
  rw [fact_laid, fact_maps, fact_keys, fact_heard, fact_stops, fact_knobs, fact_enter, fact_lifts, fact_make]
  kernel_rfl

theorem over : Rows.pushPullsRow.holds Try.pinned (OpenSpec.ofChange Rows.pushPullsSpec) :=
  OpenClaim.holds_of_wide 30 Try.f30 rfl rfl rfl rfl rfl rfl rfl ⟨rfl, rfl, rfl, rfl, rfl⟩ rfl rfl rfl rfl rfl (by kernel_rfl) Try.func30 closed
    (of_decide_eq_true (by kernel_rfl)) (by unfold Func.isWrapper; first | (rw [if_pos (by decide +kernel)]; kernel_rfl) | (rw [if_neg (by decide +kernel)]; exact ⟨rfl, rfl⟩))
    (fun os started H enc _ => lifted os started H enc)

/-- The statement. -/
theorem proved : Rows.PushPullsSaid :=
  over
#print axioms proved
end Go.Proofs.Ytaagpkacningdaa.pushPulls
