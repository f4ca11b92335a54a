/- For every three numbers TouchBalls returns true: two balls of one row touch just if they are nearer than both radii; how deep is what lacks. -/
import Derived.Test.YtaagpkacningdaaRows
import Derived.WalkKit
import Derived.ProofKit
import Derived.OpenShut
import Derived.Test.YtaagpkacningdaaFacts
import Derived.Test.YtaagpkacningdaaArgs
import Derived.Test.YtaagpkacningdaaRefRight
import Derived.Test.YtaagpkacningdaaTouchAlive
import Derived.Deep.RegionHeld2
import Derived.Deep.DrawnRows
namespace Go.Proofs.Ytaagpkacningdaa.touchBalls
open Go.ChangeShapes Go.WideShapes Go.ChangeAt Go.RowKit M
set_option maxRecDepth 100000
set_option maxHeartbeats 8000000
set_option linter.unusedVariables false
set_option linter.unusedSimpArgs false
attribute [local go_sem ↓] Go.wp_at_zero Go.wp_at_succ
theorem own : ownKnob Try.prog.godebug = none := by kernel_rfl

/-- The walk: the Go text returns true; of what was there nothing turns. -/
theorem walk (x : Int) (hx : I64 x) (y : Int) (hy : I64 y) (d : Int) (hd : I64 d) (w : World) :
    Calls Try.prog 36 #[.int .i64 x, .int .i64 y, .int .i64 d] w fun e w' => e = .returned (.bool true) ∧ Bw w w' := by
  have c0 := Lib.hid alive10_c
  by_cases hg : 1 ≤ x ∧ 1 ≤ y ∧ 0 ≤ d ∧ x ≤ 100 ∧ y ≤ 100 ∧ d ≤ 1000
  rotate_left
  · have h0 : x < 1 ∨ (¬ x < 1 ∧ y < 1) ∨ (¬ x < 1 ∧ ¬ y < 1 ∧ d < 0) ∨ (¬ x < 1 ∧ ¬ y < 1 ∧ ¬ d < 0 ∧ 100 < x) ∨ (¬ x < 1 ∧ ¬ y < 1 ∧ ¬ d < 0 ∧ ¬ 100 < x ∧ 100 < y) ∨ (¬ x < 1 ∧ ¬ y < 1 ∧ ¬ d < 0 ∧ ¬ 100 < x ∧ ¬ 100 < y ∧ 1000 < d) := by omega
    clear hg
    rcases h0 with h1 | ⟨h1, h2⟩ | ⟨h1, h2, h3⟩ | ⟨h1, h2, h3, h4⟩ | ⟨h1, h2, h3, h4, h5⟩ | ⟨h1, h2, h3, h4, h5, h6⟩
    · skip
      go_enter Try.func36, Try.ntmps36
      go_wp2_with fail
      (with_reducible refine (c0.out _).mono ?_); rintro en w1 ⟨rfl, hb⟩
      have G1 : Below w.heap.size w w1 := Below.trans (by (repeat (with_reducible refine M.Below.drewN ?_ _)); go_grown) (hb.mono (by go_size))
      have S1 := G1.size; clear hb
      go_wp2_with fail
      go_ret
      exact ⟨rfl, by (repeat (with_reducible refine M.Below.drewN ?_ _)); go_grown⟩
    · skip
      go_enter Try.func36, Try.ntmps36
      go_wp2_with fail
      (with_reducible refine (c0.out _).mono ?_); rintro en w1 ⟨rfl, hb⟩
      have G1 : Below w.heap.size w w1 := Below.trans (by (repeat (with_reducible refine M.Below.drewN ?_ _)); go_grown) (hb.mono (by go_size))
      have S1 := G1.size; clear hb
      go_wp2_with fail
      go_ret
      exact ⟨rfl, by (repeat (with_reducible refine M.Below.drewN ?_ _)); go_grown⟩
    · skip
      go_enter Try.func36, Try.ntmps36
      go_wp2_with fail
      (with_reducible refine (c0.out _).mono ?_); rintro en w1 ⟨rfl, hb⟩
      have G1 : Below w.heap.size w w1 := Below.trans (by (repeat (with_reducible refine M.Below.drewN ?_ _)); go_grown) (hb.mono (by go_size))
      have S1 := G1.size; clear hb
      go_wp2_with fail
      go_ret
      exact ⟨rfl, by (repeat (with_reducible refine M.Below.drewN ?_ _)); go_grown⟩
    · skip
      go_enter Try.func36, Try.ntmps36
      go_wp2_with fail
      (with_reducible refine (c0.out _).mono ?_); rintro en w1 ⟨rfl, hb⟩
      have G1 : Below w.heap.size w w1 := Below.trans (by (repeat (with_reducible refine M.Below.drewN ?_ _)); go_grown) (hb.mono (by go_size))
      have S1 := G1.size; clear hb
      go_wp2_with fail
      go_ret
      exact ⟨rfl, by (repeat (with_reducible refine M.Below.drewN ?_ _)); go_grown⟩
    · skip
      go_enter Try.func36, Try.ntmps36
      go_wp2_with fail
      (with_reducible refine (c0.out _).mono ?_); rintro en w1 ⟨rfl, hb⟩
      have G1 : Below w.heap.size w w1 := Below.trans (by (repeat (with_reducible refine M.Below.drewN ?_ _)); go_grown) (hb.mono (by go_size))
      have S1 := G1.size; clear hb
      go_wp2_with fail
      go_ret
      exact ⟨rfl, by (repeat (with_reducible refine M.Below.drewN ?_ _)); go_grown⟩
    · skip
      go_enter Try.func36, Try.ntmps36
      go_wp2_with fail
      (with_reducible refine (c0.out _).mono ?_); rintro en w1 ⟨rfl, hb⟩
      have G1 : Below w.heap.size w w1 := Below.trans (by (repeat (with_reducible refine M.Below.drewN ?_ _)); go_grown) (hb.mono (by go_size))
      have S1 := G1.size; clear hb
      go_wp2_with fail
      go_ret
      exact ⟨rfl, by (repeat (with_reducible refine M.Below.drewN ?_ _)); go_grown⟩
  obtain ⟨g1, g2, g3, g4, g5, g6⟩ := hg
  have la : Lo (⟨1, x * 4294967296, 0, 0, 0, 0, 0, 0⟩ : Bd) := by unfold Lo; dsimp only; omega
  have lb : Lo (⟨1, y * 4294967296, 0, 0, 0, d * 4294967296, 0, 0⟩ : Bd) := by unfold Lo; dsimp only; omega
  have oa : (⟨1, x * 4294967296, 0, 0, 0, 0, 0, 0⟩ : Bd).ok := ⟨by unfold I64; (try dsimp only); omega, by unfold I64; (try dsimp only); omega, by unfold I64; (try dsimp only); omega, by unfold I64; (try dsimp only); omega, by unfold I64; (try dsimp only); omega, by unfold I64; (try dsimp only); omega, by unfold I64; (try dsimp only); omega, by unfold I64; (try dsimp only); omega⟩
  have ob : (⟨1, y * 4294967296, 0, 0, 0, d * 4294967296, 0, 0⟩ : Bd).ok := ⟨by unfold I64; (try dsimp only); omega, by unfold I64; (try dsimp only); omega, by unfold I64; (try dsimp only); omega, by unfold I64; (try dsimp only); omega, by unfold I64; (try dsimp only); omega, by unfold I64; (try dsimp only); omega, by unfold I64; (try dsimp only); omega, by unfold I64; (try dsimp only); omega⟩
  have e := hitX_lo la lb
  have ev : hitV (⟨1, x * 4294967296, 0, 0, 0, 0, 0, 0⟩ : Bd) (⟨1, y * 4294967296, 0, 0, 0, d * 4294967296, 0, 0⟩ : Bd) = hitR (if d = 0 then (4294967296, 0) else (0, 4294967296)) ((x + y - d) * 4294967296) := by
    unfold hitV
    rw [if_pos ⟨rfl, rfl⟩]
    unfold ballsV
    have ed : dV (⟨1, x * 4294967296, 0, 0, 0, 0, 0, 0⟩ : Bd) (⟨1, y * 4294967296, 0, 0, 0, d * 4294967296, 0, 0⟩ : Bd) = (0, d * 4294967296) := by unfold dV; simp
    rw [ed, nrm_y (by omega) (by omega)]
    by_cases h : d = 0
    · subst h; rw [if_pos (by omega), if_pos rfl]
      have : uV (0, 0 * 4294967296) = (0, 0) := by unfold uV; rw [show ((0 : Int), (0 : Int) * 4294967296) = (0, 0) by simp, nrm_00, if_pos rfl]
      rw [this]; congr 1; dsimp only; omega
    · rw [if_neg (by omega), if_neg h, uV_y (by omega) (by omega)]; congr 1; dsimp only; omega
  rw [ev] at e
  have OA := Lib.hid oa; have OB := Lib.hid ob
  clear ev la lb oa ob
  have hw : (x + y ≤ d ∧ (¬ d < x + y)) ∨ (d = 0 ∧ d < x + y) ∨ (¬ d = 0 ∧ d < x + y) := by omega
  rcases hw with ⟨k1, k2⟩ | ⟨rfl, k2⟩ | ⟨k1, k2⟩
  · skip
    rw [show hitR (if d = 0 then ((4294967296, 0) : V) else (0, 4294967296)) ((x + y - d) * 4294967296) = (⟨0, 0, 0⟩, false) by unfold hitR; rw [if_pos (by omega)]] at e
    have E := Lib.hid e
    clear e
    go_enter Try.func36, Try.ntmps36
    go_wp2_with fail
    (with_reducible refine (c0.out _).mono ?_); rintro en w1 ⟨rfl, hb⟩
    have G1 : Below w.heap.size w w1 := Below.trans (by (repeat (with_reducible refine M.Below.drewN ?_ _)); go_grown) (hb.mono (by go_size))
    have S1 := G1.size; clear hb
    go_wp2_with fail
    refine (try_c 140 #[.pointer (some ⟨w1.heap.size, 0, none⟩), .pointer (some ⟨w1.heap.size + 1, 0, none⟩), .pointer (some ⟨w1.heap.size + 1 + 1, 0, none⟩), .pointer (some ⟨w1.heap.size + 1 + 1 + 1, 0, none⟩)] _ (0) (usHt (w1.heap.size + 1 + 1) (fstX (.ok (⟨0, 0, 0⟩, false))) ++ usB (w1.heap.size + 1 + 1 + 1) (sndX (.ok ((⟨0, 0, 0⟩ : Ht), false)))) (fun _ => rfl) ?_ ?_).mono ?_
    · intro u hu; (try simp only [List.mem_append] at hu); (repeat' (obtain hu | hu := (hu : _ ∨ _))); all_goals (first | rw [M.usBx_block hu] | rw [M.usV_block hu] | rw [M.usI_block hu] | rw [M.usHt_block hu] | rw [M.usBd_block hu] | rw [M.usB_block hu] | rw [M.cell_block1 hu] | (exfalso; simp at hu; done)); all_goals ((try simp [go_sem]) <;> omega)
    · intro w1' hb; exact (cloHitB _ _ _ _ (⟨1, x * 4294967296, 0, 0, 0, 0, 0, 0⟩ : Bd) OA.out (⟨1, y * 4294967296, 0, 0, 0, d * 4294967296, 0, 0⟩ : Bd) OB.out _ _ _ _ (.ok (⟨0, 0, 0⟩, false)) E.out w1' (M.Var.mono (b := w1.heap.size) (cs := #[.int .i64 1, .int .i64 (x * 4294967296), .int .i64 0, .int .i64 0, .int .i64 0, .int .i64 0, .int .i64 0, .int .i64 0]) (by (repeat (first | (with_reducible assumption) | (with_reducible refine M.var_alloc' _ _ _ ?_; first | rfl | (simp [go_sem]; done)) | (with_reducible refine M.Var.alloc ?_ _) | (with_reducible refine M.Var.drewN ?_ _) | (with_reducible refine M.Var.drew ?_) | (with_reducible refine M.Var.far ?_ _ _ ?hFar; case hFar => (first | omega | ((try simp [go_sem]) <;> omega))) | fail))) hb) (M.Var.mono (b := w1.heap.size + 1) (cs := #[.int .i64 1, .int .i64 (y * 4294967296), .int .i64 0, .int .i64 0, .int .i64 0, .int .i64 (d * 4294967296), .int .i64 0, .int .i64 0]) (by (repeat (first | (with_reducible assumption) | (with_reducible refine M.var_alloc' _ _ _ ?_; first | rfl | (simp [go_sem]; done)) | (with_reducible refine M.Var.alloc ?_ _) | (with_reducible refine M.Var.drewN ?_ _) | (with_reducible refine M.Var.drew ?_) | (with_reducible refine M.Var.far ?_ _ _ ?hFar; case hFar => (first | omega | ((try simp [go_sem]) <;> omega))) | fail))) hb) (M.Var.mono (b := w1.heap.size + 1 + 1) (cs := #[.int .i64 0, .int .i64 0, .int .i64 0]) (by (repeat (first | (with_reducible assumption) | (with_reducible refine M.var_alloc' _ _ _ ?_; first | rfl | (simp [go_sem]; done)) | (with_reducible refine M.Var.alloc ?_ _) | (with_reducible refine M.Var.drewN ?_ _) | (with_reducible refine M.Var.drew ?_) | (with_reducible refine M.Var.far ?_ _ _ ?hFar; case hFar => (first | omega | ((try simp [go_sem]) <;> omega))) | fail))) hb) (M.Var.mono (b := w1.heap.size + 1 + 1 + 1) (cs := #[.bool false]) (by (repeat (first | (with_reducible assumption) | (with_reducible refine M.var_alloc' _ _ _ ?_; first | rfl | (simp [go_sem]; done)) | (with_reducible refine M.Var.alloc ?_ _) | (with_reducible refine M.Var.drewN ?_ _) | (with_reducible refine M.Var.drew ?_) | (with_reducible refine M.Var.far ?_ _ _ ?hFar; case hFar => (first | omega | ((try simp [go_sem]) <;> omega))) | fail))) hb) (by omega)).mono fun e w' h => h
    rintro en w2 ⟨rfl, hb⟩
    have G2 : Below w.heap.size w w2 := Below.trans (M.below_sets_own (usHt (w1.heap.size + 1 + 1) (fstX (.ok (⟨0, 0, 0⟩, false))) ++ usB (w1.heap.size + 1 + 1 + 1) (sndX (.ok ((⟨0, 0, 0⟩ : Ht), false)))) (by (repeat (with_reducible refine M.Below.drewN ?_ _)); go_grown) (by intro u hu; (try simp only [List.mem_append] at hu); (repeat' (obtain hu | hu := (hu : _ ∨ _))); all_goals (first | rw [M.usBx_block hu] | rw [M.usV_block hu] | rw [M.usI_block hu] | rw [M.usHt_block hu] | rw [M.usBd_block hu] | rw [M.usB_block hu] | rw [M.cell_block1 hu] | (exfalso; simp at hu; done)); all_goals ((try simp [go_sem]) <;> omega))) (hb.mono (by go_size))
    have V2_a : M.Var w2 (w1.heap.size) #[.int .i64 1, .int .i64 (x * 4294967296), .int .i64 0, .int .i64 0, .int .i64 0, .int .i64 0, .int .i64 0, .int .i64 0] := M.Var.mono' (u := M.sets _ (usHt (w1.heap.size + 1 + 1) (fstX (.ok (⟨0, 0, 0⟩, false))) ++ usB (w1.heap.size + 1 + 1 + 1) (sndX (.ok ((⟨0, 0, 0⟩ : Ht), false))))) (by (try simp only [M.sets_append]); exact (M.var_sets_far (usB (w1.heap.size + 1 + 1 + 1) (sndX (.ok ((⟨0, 0, 0⟩ : Ht), false)))) (M.var_sets_far (usHt (w1.heap.size + 1 + 1) (fstX (.ok (⟨0, 0, 0⟩, false)))) (by (repeat (first | (with_reducible assumption) | (with_reducible refine M.var_alloc' _ _ _ ?_; first | rfl | (simp [go_sem]; done)) | (with_reducible refine M.Var.alloc ?_ _) | (with_reducible refine M.Var.drewN ?_ _) | (with_reducible refine M.Var.drew ?_) | (with_reducible refine M.Var.far ?_ _ _ ?hFar; case hFar => (first | omega | ((try simp [go_sem]) <;> omega))) | fail)) : M.Var _ (w1.heap.size) #[.int .i64 1, .int .i64 (x * 4294967296), .int .i64 0, .int .i64 0, .int .i64 0, .int .i64 0, .int .i64 0, .int .i64 0]) (by intro u hu; all_goals (first | rw [M.usBx_block hu] | rw [M.usV_block hu] | rw [M.usI_block hu] | rw [M.usHt_block hu] | rw [M.usBd_block hu] | rw [M.usB_block hu] | rw [M.cell_block1 hu] | (exfalso; simp at hu; done)); all_goals ((try simp [go_sem]) <;> omega))) (by intro u hu; all_goals (first | rw [M.usBx_block hu] | rw [M.usV_block hu] | rw [M.usI_block hu] | rw [M.usHt_block hu] | rw [M.usBd_block hu] | rw [M.usB_block hu] | rw [M.cell_block1 hu] | (exfalso; simp at hu; done)); all_goals ((try simp [go_sem]) <;> omega)))) (M.sets_size _ _) hb
    have V2_b : M.Var w2 (w1.heap.size + 1) #[.int .i64 1, .int .i64 (y * 4294967296), .int .i64 0, .int .i64 0, .int .i64 0, .int .i64 (d * 4294967296), .int .i64 0, .int .i64 0] := M.Var.mono' (u := M.sets _ (usHt (w1.heap.size + 1 + 1) (fstX (.ok (⟨0, 0, 0⟩, false))) ++ usB (w1.heap.size + 1 + 1 + 1) (sndX (.ok ((⟨0, 0, 0⟩ : Ht), false))))) (by (try simp only [M.sets_append]); exact (M.var_sets_far (usB (w1.heap.size + 1 + 1 + 1) (sndX (.ok ((⟨0, 0, 0⟩ : Ht), false)))) (M.var_sets_far (usHt (w1.heap.size + 1 + 1) (fstX (.ok (⟨0, 0, 0⟩, false)))) (by (repeat (first | (with_reducible assumption) | (with_reducible refine M.var_alloc' _ _ _ ?_; first | rfl | (simp [go_sem]; done)) | (with_reducible refine M.Var.alloc ?_ _) | (with_reducible refine M.Var.drewN ?_ _) | (with_reducible refine M.Var.drew ?_) | (with_reducible refine M.Var.far ?_ _ _ ?hFar; case hFar => (first | omega | ((try simp [go_sem]) <;> omega))) | fail)) : M.Var _ (w1.heap.size + 1) #[.int .i64 1, .int .i64 (y * 4294967296), .int .i64 0, .int .i64 0, .int .i64 0, .int .i64 (d * 4294967296), .int .i64 0, .int .i64 0]) (by intro u hu; all_goals (first | rw [M.usBx_block hu] | rw [M.usV_block hu] | rw [M.usI_block hu] | rw [M.usHt_block hu] | rw [M.usBd_block hu] | rw [M.usB_block hu] | rw [M.cell_block1 hu] | (exfalso; simp at hu; done)); all_goals ((try simp [go_sem]) <;> omega))) (by intro u hu; all_goals (first | rw [M.usBx_block hu] | rw [M.usV_block hu] | rw [M.usI_block hu] | rw [M.usHt_block hu] | rw [M.usBd_block hu] | rw [M.usB_block hu] | rw [M.cell_block1 hu] | (exfalso; simp at hu; done)); all_goals ((try simp [go_sem]) <;> omega)))) (M.sets_size _ _) hb
    have V2_h : M.Var w2 (w1.heap.size + 1 + 1) #[.int .i64 0, .int .i64 0, .int .i64 0] := M.Var.mono' (u := M.sets _ (usHt (w1.heap.size + 1 + 1) (fstX (.ok (⟨0, 0, 0⟩, false))) ++ usB (w1.heap.size + 1 + 1 + 1) (sndX (.ok ((⟨0, 0, 0⟩ : Ht), false))))) (by (try simp only [M.sets_append]); exact (M.var_sets_far (usB (w1.heap.size + 1 + 1 + 1) (sndX (.ok ((⟨0, 0, 0⟩ : Ht), false)))) (M.var_setHt (by (repeat (first | (with_reducible assumption) | (with_reducible refine M.var_alloc' _ _ _ ?_; first | rfl | (simp [go_sem]; done)) | (with_reducible refine M.Var.alloc ?_ _) | (with_reducible refine M.Var.drewN ?_ _) | (with_reducible refine M.Var.drew ?_) | (with_reducible refine M.Var.far ?_ _ _ ?hFar; case hFar => (first | omega | ((try simp [go_sem]) <;> omega))) | fail)) : M.Var _ (w1.heap.size + 1 + 1) #[.int .i64 0, .int .i64 0, .int .i64 0]) _ _ _) (by intro u hu; all_goals (first | rw [M.usBx_block hu] | rw [M.usV_block hu] | rw [M.usI_block hu] | rw [M.usHt_block hu] | rw [M.usBd_block hu] | rw [M.usB_block hu] | rw [M.cell_block1 hu] | (exfalso; simp at hu; done)); all_goals ((try simp [go_sem]) <;> omega)))) (M.sets_size _ _) hb
    have V2_k : M.Var w2 (w1.heap.size + 1 + 1 + 1) #[.bool false] := M.Var.mono' (u := M.sets _ (usHt (w1.heap.size + 1 + 1) (fstX (.ok (⟨0, 0, 0⟩, false))) ++ usB (w1.heap.size + 1 + 1 + 1) (sndX (.ok ((⟨0, 0, 0⟩ : Ht), false))))) (by (try simp only [M.sets_append]); exact (M.var_setB (M.var_sets_far (usHt (w1.heap.size + 1 + 1) (fstX (.ok (⟨0, 0, 0⟩, false)))) (by (repeat (first | (with_reducible assumption) | (with_reducible refine M.var_alloc' _ _ _ ?_; first | rfl | (simp [go_sem]; done)) | (with_reducible refine M.Var.alloc ?_ _) | (with_reducible refine M.Var.drewN ?_ _) | (with_reducible refine M.Var.drew ?_) | (with_reducible refine M.Var.far ?_ _ _ ?hFar; case hFar => (first | omega | ((try simp [go_sem]) <;> omega))) | fail)) : M.Var _ (w1.heap.size + 1 + 1 + 1) #[.bool false]) (by intro u hu; all_goals (first | rw [M.usBx_block hu] | rw [M.usV_block hu] | rw [M.usI_block hu] | rw [M.usHt_block hu] | rw [M.usBd_block hu] | rw [M.usB_block hu] | rw [M.cell_block1 hu] | (exfalso; simp at hu; done)); all_goals ((try simp [go_sem]) <;> omega))) _)) (M.sets_size _ _) hb
    have q2_a_0 : w2.cell? ⟨w1.heap.size, 0, none⟩ = some (.int .i64 1) := V2_a.c 0 _ rfl
    have q2_a_1 : w2.cell? ⟨w1.heap.size, 1, none⟩ = some (.int .i64 (x * 4294967296)) := V2_a.c 1 _ rfl
    have q2_a_2 : w2.cell? ⟨w1.heap.size, 2, none⟩ = some (.int .i64 0) := V2_a.c 2 _ rfl
    have q2_a_3 : w2.cell? ⟨w1.heap.size, 3, none⟩ = some (.int .i64 0) := V2_a.c 3 _ rfl
    have q2_a_4 : w2.cell? ⟨w1.heap.size, 4, none⟩ = some (.int .i64 0) := V2_a.c 4 _ rfl
    have q2_a_5 : w2.cell? ⟨w1.heap.size, 5, none⟩ = some (.int .i64 0) := V2_a.c 5 _ rfl
    have q2_a_6 : w2.cell? ⟨w1.heap.size, 6, none⟩ = some (.int .i64 0) := V2_a.c 6 _ rfl
    have q2_a_7 : w2.cell? ⟨w1.heap.size, 7, none⟩ = some (.int .i64 0) := V2_a.c 7 _ rfl
    have f2_a := V2_a.2.2; have L2_a := V2_a.lt; have N2_a := Nat.ne_of_gt L2_a; have M2_a := Nat.ne_of_lt L2_a
    have HV2_a := Lib.hid V2_a
    have q2_b_0 : w2.cell? ⟨w1.heap.size + 1, 0, none⟩ = some (.int .i64 1) := V2_b.c 0 _ rfl
    have q2_b_1 : w2.cell? ⟨w1.heap.size + 1, 1, none⟩ = some (.int .i64 (y * 4294967296)) := V2_b.c 1 _ rfl
    have q2_b_2 : w2.cell? ⟨w1.heap.size + 1, 2, none⟩ = some (.int .i64 0) := V2_b.c 2 _ rfl
    have q2_b_3 : w2.cell? ⟨w1.heap.size + 1, 3, none⟩ = some (.int .i64 0) := V2_b.c 3 _ rfl
    have q2_b_4 : w2.cell? ⟨w1.heap.size + 1, 4, none⟩ = some (.int .i64 0) := V2_b.c 4 _ rfl
    have q2_b_5 : w2.cell? ⟨w1.heap.size + 1, 5, none⟩ = some (.int .i64 (d * 4294967296)) := V2_b.c 5 _ rfl
    have q2_b_6 : w2.cell? ⟨w1.heap.size + 1, 6, none⟩ = some (.int .i64 0) := V2_b.c 6 _ rfl
    have q2_b_7 : w2.cell? ⟨w1.heap.size + 1, 7, none⟩ = some (.int .i64 0) := V2_b.c 7 _ rfl
    have f2_b := V2_b.2.2; have L2_b := V2_b.lt; have N2_b := Nat.ne_of_gt L2_b; have M2_b := Nat.ne_of_lt L2_b
    have HV2_b := Lib.hid V2_b
    have q2_h_0 : w2.cell? ⟨w1.heap.size + 1 + 1, 0, none⟩ = some (.int .i64 0) := V2_h.c 0 _ rfl
    have q2_h_1 : w2.cell? ⟨w1.heap.size + 1 + 1, 1, none⟩ = some (.int .i64 0) := V2_h.c 1 _ rfl
    have q2_h_2 : w2.cell? ⟨w1.heap.size + 1 + 1, 2, none⟩ = some (.int .i64 0) := V2_h.c 2 _ rfl
    have f2_h := V2_h.2.2; have L2_h := V2_h.lt; have N2_h := Nat.ne_of_gt L2_h; have M2_h := Nat.ne_of_lt L2_h
    have HV2_h := Lib.hid V2_h
    have q2_k_0 : w2.cell? ⟨w1.heap.size + 1 + 1 + 1, 0, none⟩ = some (.bool false) := V2_k.c 0 _ rfl
    have f2_k := V2_k.2.2; have L2_k := V2_k.lt; have N2_k := Nat.ne_of_gt L2_k; have M2_k := Nat.ne_of_lt L2_k
    have HV2_k := Lib.hid V2_k
    have S2 := G2.size; clear hb
    go_wp2_with fail
    go_ret
    exact ⟨rfl, by (repeat (with_reducible refine M.Below.drewN ?_ _)); go_grown⟩
  · skip
    rw [show hitR (if (0 : Int) = 0 then ((4294967296, 0) : V) else (0, 4294967296)) ((x + y - 0) * 4294967296) = (⟨4294967296, 0, (x + y) * 4294967296⟩, true) by unfold hitR; rw [if_neg (by omega), if_pos rfl]; congr 2; omega] at e
    rw [Int.zero_mul] at e
    replace OB := OB.out
    rw [Int.zero_mul] at OB
    replace OB := Lib.hid OB
    have E := Lib.hid e
    clear e
    go_enter Try.func36, Try.ntmps36
    go_wp2_with fail
    (with_reducible refine (c0.out _).mono ?_); rintro en w1 ⟨rfl, hb⟩
    have G1 : Below w.heap.size w w1 := Below.trans (by (repeat (with_reducible refine M.Below.drewN ?_ _)); go_grown) (hb.mono (by go_size))
    have S1 := G1.size; clear hb
    go_wp2_with fail
    refine (try_c 140 #[.pointer (some ⟨w1.heap.size, 0, none⟩), .pointer (some ⟨w1.heap.size + 1, 0, none⟩), .pointer (some ⟨w1.heap.size + 1 + 1, 0, none⟩), .pointer (some ⟨w1.heap.size + 1 + 1 + 1, 0, none⟩)] _ (0) (usHt (w1.heap.size + 1 + 1) (fstX (.ok (⟨4294967296, 0, (x + y) * 4294967296⟩, true))) ++ usB (w1.heap.size + 1 + 1 + 1) (sndX (.ok ((⟨4294967296, 0, (x + y) * 4294967296⟩ : Ht), true)))) (fun _ => rfl) ?_ ?_).mono ?_
    · intro u hu; (try simp only [List.mem_append] at hu); (repeat' (obtain hu | hu := (hu : _ ∨ _))); all_goals (first | rw [M.usBx_block hu] | rw [M.usV_block hu] | rw [M.usI_block hu] | rw [M.usHt_block hu] | rw [M.usBd_block hu] | rw [M.usB_block hu] | rw [M.cell_block1 hu] | (exfalso; simp at hu; done)); all_goals ((try simp [go_sem]) <;> omega)
    · intro w1' hb; exact (cloHitB _ _ _ _ (⟨1, x * 4294967296, 0, 0, 0, 0, 0, 0⟩ : Bd) OA.out (⟨1, y * 4294967296, 0, 0, 0, 0, 0, 0⟩ : Bd) OB.out _ _ _ _ (.ok (⟨4294967296, 0, (x + y) * 4294967296⟩, true)) E.out w1' (M.Var.mono (b := w1.heap.size) (cs := #[.int .i64 1, .int .i64 (x * 4294967296), .int .i64 0, .int .i64 0, .int .i64 0, .int .i64 0, .int .i64 0, .int .i64 0]) (by (repeat (first | (with_reducible assumption) | (with_reducible refine M.var_alloc' _ _ _ ?_; first | rfl | (simp [go_sem]; done)) | (with_reducible refine M.Var.alloc ?_ _) | (with_reducible refine M.Var.drewN ?_ _) | (with_reducible refine M.Var.drew ?_) | (with_reducible refine M.Var.far ?_ _ _ ?hFar; case hFar => (first | omega | ((try simp [go_sem]) <;> omega))) | fail))) hb) (M.Var.mono (b := w1.heap.size + 1) (cs := #[.int .i64 1, .int .i64 (y * 4294967296), .int .i64 0, .int .i64 0, .int .i64 0, .int .i64 0, .int .i64 0, .int .i64 0]) (by (repeat (first | (with_reducible assumption) | (with_reducible refine M.var_alloc' _ _ _ ?_; first | rfl | (simp [go_sem]; done)) | (with_reducible refine M.Var.alloc ?_ _) | (with_reducible refine M.Var.drewN ?_ _) | (with_reducible refine M.Var.drew ?_) | (with_reducible refine M.Var.far ?_ _ _ ?hFar; case hFar => (first | omega | ((try simp [go_sem]) <;> omega))) | fail))) hb) (M.Var.mono (b := w1.heap.size + 1 + 1) (cs := #[.int .i64 0, .int .i64 0, .int .i64 0]) (by (repeat (first | (with_reducible assumption) | (with_reducible refine M.var_alloc' _ _ _ ?_; first | rfl | (simp [go_sem]; done)) | (with_reducible refine M.Var.alloc ?_ _) | (with_reducible refine M.Var.drewN ?_ _) | (with_reducible refine M.Var.drew ?_) | (with_reducible refine M.Var.far ?_ _ _ ?hFar; case hFar => (first | omega | ((try simp [go_sem]) <;> omega))) | fail))) hb) (M.Var.mono (b := w1.heap.size + 1 + 1 + 1) (cs := #[.bool false]) (by (repeat (first | (with_reducible assumption) | (with_reducible refine M.var_alloc' _ _ _ ?_; first | rfl | (simp [go_sem]; done)) | (with_reducible refine M.Var.alloc ?_ _) | (with_reducible refine M.Var.drewN ?_ _) | (with_reducible refine M.Var.drew ?_) | (with_reducible refine M.Var.far ?_ _ _ ?hFar; case hFar => (first | omega | ((try simp [go_sem]) <;> omega))) | fail))) hb) (by omega)).mono fun e w' h => h
    rintro en w2 ⟨rfl, hb⟩
    have G2 : Below w.heap.size w w2 := Below.trans (M.below_sets_own (usHt (w1.heap.size + 1 + 1) (fstX (.ok (⟨4294967296, 0, (x + y) * 4294967296⟩, true))) ++ usB (w1.heap.size + 1 + 1 + 1) (sndX (.ok ((⟨4294967296, 0, (x + y) * 4294967296⟩ : Ht), true)))) (by (repeat (with_reducible refine M.Below.drewN ?_ _)); go_grown) (by intro u hu; (try simp only [List.mem_append] at hu); (repeat' (obtain hu | hu := (hu : _ ∨ _))); all_goals (first | rw [M.usBx_block hu] | rw [M.usV_block hu] | rw [M.usI_block hu] | rw [M.usHt_block hu] | rw [M.usBd_block hu] | rw [M.usB_block hu] | rw [M.cell_block1 hu] | (exfalso; simp at hu; done)); all_goals ((try simp [go_sem]) <;> omega))) (hb.mono (by go_size))
    have V2_a : M.Var w2 (w1.heap.size) #[.int .i64 1, .int .i64 (x * 4294967296), .int .i64 0, .int .i64 0, .int .i64 0, .int .i64 0, .int .i64 0, .int .i64 0] := M.Var.mono' (u := M.sets _ (usHt (w1.heap.size + 1 + 1) (fstX (.ok (⟨4294967296, 0, (x + y) * 4294967296⟩, true))) ++ usB (w1.heap.size + 1 + 1 + 1) (sndX (.ok ((⟨4294967296, 0, (x + y) * 4294967296⟩ : Ht), true))))) (by (try simp only [M.sets_append]); exact (M.var_sets_far (usB (w1.heap.size + 1 + 1 + 1) (sndX (.ok ((⟨4294967296, 0, (x + y) * 4294967296⟩ : Ht), true)))) (M.var_sets_far (usHt (w1.heap.size + 1 + 1) (fstX (.ok (⟨4294967296, 0, (x + y) * 4294967296⟩, true)))) (by (repeat (first | (with_reducible assumption) | (with_reducible refine M.var_alloc' _ _ _ ?_; first | rfl | (simp [go_sem]; done)) | (with_reducible refine M.Var.alloc ?_ _) | (with_reducible refine M.Var.drewN ?_ _) | (with_reducible refine M.Var.drew ?_) | (with_reducible refine M.Var.far ?_ _ _ ?hFar; case hFar => (first | omega | ((try simp [go_sem]) <;> omega))) | fail)) : M.Var _ (w1.heap.size) #[.int .i64 1, .int .i64 (x * 4294967296), .int .i64 0, .int .i64 0, .int .i64 0, .int .i64 0, .int .i64 0, .int .i64 0]) (by intro u hu; all_goals (first | rw [M.usBx_block hu] | rw [M.usV_block hu] | rw [M.usI_block hu] | rw [M.usHt_block hu] | rw [M.usBd_block hu] | rw [M.usB_block hu] | rw [M.cell_block1 hu] | (exfalso; simp at hu; done)); all_goals ((try simp [go_sem]) <;> omega))) (by intro u hu; all_goals (first | rw [M.usBx_block hu] | rw [M.usV_block hu] | rw [M.usI_block hu] | rw [M.usHt_block hu] | rw [M.usBd_block hu] | rw [M.usB_block hu] | rw [M.cell_block1 hu] | (exfalso; simp at hu; done)); all_goals ((try simp [go_sem]) <;> omega)))) (M.sets_size _ _) hb
    have V2_b : M.Var w2 (w1.heap.size + 1) #[.int .i64 1, .int .i64 (y * 4294967296), .int .i64 0, .int .i64 0, .int .i64 0, .int .i64 0, .int .i64 0, .int .i64 0] := M.Var.mono' (u := M.sets _ (usHt (w1.heap.size + 1 + 1) (fstX (.ok (⟨4294967296, 0, (x + y) * 4294967296⟩, true))) ++ usB (w1.heap.size + 1 + 1 + 1) (sndX (.ok ((⟨4294967296, 0, (x + y) * 4294967296⟩ : Ht), true))))) (by (try simp only [M.sets_append]); exact (M.var_sets_far (usB (w1.heap.size + 1 + 1 + 1) (sndX (.ok ((⟨4294967296, 0, (x + y) * 4294967296⟩ : Ht), true)))) (M.var_sets_far (usHt (w1.heap.size + 1 + 1) (fstX (.ok (⟨4294967296, 0, (x + y) * 4294967296⟩, true)))) (by (repeat (first | (with_reducible assumption) | (with_reducible refine M.var_alloc' _ _ _ ?_; first | rfl | (simp [go_sem]; done)) | (with_reducible refine M.Var.alloc ?_ _) | (with_reducible refine M.Var.drewN ?_ _) | (with_reducible refine M.Var.drew ?_) | (with_reducible refine M.Var.far ?_ _ _ ?hFar; case hFar => (first | omega | ((try simp [go_sem]) <;> omega))) | fail)) : M.Var _ (w1.heap.size + 1) #[.int .i64 1, .int .i64 (y * 4294967296), .int .i64 0, .int .i64 0, .int .i64 0, .int .i64 0, .int .i64 0, .int .i64 0]) (by intro u hu; all_goals (first | rw [M.usBx_block hu] | rw [M.usV_block hu] | rw [M.usI_block hu] | rw [M.usHt_block hu] | rw [M.usBd_block hu] | rw [M.usB_block hu] | rw [M.cell_block1 hu] | (exfalso; simp at hu; done)); all_goals ((try simp [go_sem]) <;> omega))) (by intro u hu; all_goals (first | rw [M.usBx_block hu] | rw [M.usV_block hu] | rw [M.usI_block hu] | rw [M.usHt_block hu] | rw [M.usBd_block hu] | rw [M.usB_block hu] | rw [M.cell_block1 hu] | (exfalso; simp at hu; done)); all_goals ((try simp [go_sem]) <;> omega)))) (M.sets_size _ _) hb
    have V2_h : M.Var w2 (w1.heap.size + 1 + 1) #[.int .i64 4294967296, .int .i64 0, .int .i64 ((x + y) * 4294967296)] := M.Var.mono' (u := M.sets _ (usHt (w1.heap.size + 1 + 1) (fstX (.ok (⟨4294967296, 0, (x + y) * 4294967296⟩, true))) ++ usB (w1.heap.size + 1 + 1 + 1) (sndX (.ok ((⟨4294967296, 0, (x + y) * 4294967296⟩ : Ht), true))))) (by (try simp only [M.sets_append]); exact (M.var_sets_far (usB (w1.heap.size + 1 + 1 + 1) (sndX (.ok ((⟨4294967296, 0, (x + y) * 4294967296⟩ : Ht), true)))) (M.var_setHt (by (repeat (first | (with_reducible assumption) | (with_reducible refine M.var_alloc' _ _ _ ?_; first | rfl | (simp [go_sem]; done)) | (with_reducible refine M.Var.alloc ?_ _) | (with_reducible refine M.Var.drewN ?_ _) | (with_reducible refine M.Var.drew ?_) | (with_reducible refine M.Var.far ?_ _ _ ?hFar; case hFar => (first | omega | ((try simp [go_sem]) <;> omega))) | fail)) : M.Var _ (w1.heap.size + 1 + 1) #[.int .i64 0, .int .i64 0, .int .i64 0]) _ _ _) (by intro u hu; all_goals (first | rw [M.usBx_block hu] | rw [M.usV_block hu] | rw [M.usI_block hu] | rw [M.usHt_block hu] | rw [M.usBd_block hu] | rw [M.usB_block hu] | rw [M.cell_block1 hu] | (exfalso; simp at hu; done)); all_goals ((try simp [go_sem]) <;> omega)))) (M.sets_size _ _) hb
    have V2_k : M.Var w2 (w1.heap.size + 1 + 1 + 1) #[.bool true] := M.Var.mono' (u := M.sets _ (usHt (w1.heap.size + 1 + 1) (fstX (.ok (⟨4294967296, 0, (x + y) * 4294967296⟩, true))) ++ usB (w1.heap.size + 1 + 1 + 1) (sndX (.ok ((⟨4294967296, 0, (x + y) * 4294967296⟩ : Ht), true))))) (by (try simp only [M.sets_append]); exact (M.var_setB (M.var_sets_far (usHt (w1.heap.size + 1 + 1) (fstX (.ok (⟨4294967296, 0, (x + y) * 4294967296⟩, true)))) (by (repeat (first | (with_reducible assumption) | (with_reducible refine M.var_alloc' _ _ _ ?_; first | rfl | (simp [go_sem]; done)) | (with_reducible refine M.Var.alloc ?_ _) | (with_reducible refine M.Var.drewN ?_ _) | (with_reducible refine M.Var.drew ?_) | (with_reducible refine M.Var.far ?_ _ _ ?hFar; case hFar => (first | omega | ((try simp [go_sem]) <;> omega))) | fail)) : M.Var _ (w1.heap.size + 1 + 1 + 1) #[.bool false]) (by intro u hu; all_goals (first | rw [M.usBx_block hu] | rw [M.usV_block hu] | rw [M.usI_block hu] | rw [M.usHt_block hu] | rw [M.usBd_block hu] | rw [M.usB_block hu] | rw [M.cell_block1 hu] | (exfalso; simp at hu; done)); all_goals ((try simp [go_sem]) <;> omega))) _)) (M.sets_size _ _) hb
    have q2_a_0 : w2.cell? ⟨w1.heap.size, 0, none⟩ = some (.int .i64 1) := V2_a.c 0 _ rfl
    have q2_a_1 : w2.cell? ⟨w1.heap.size, 1, none⟩ = some (.int .i64 (x * 4294967296)) := V2_a.c 1 _ rfl
    have q2_a_2 : w2.cell? ⟨w1.heap.size, 2, none⟩ = some (.int .i64 0) := V2_a.c 2 _ rfl
    have q2_a_3 : w2.cell? ⟨w1.heap.size, 3, none⟩ = some (.int .i64 0) := V2_a.c 3 _ rfl
    have q2_a_4 : w2.cell? ⟨w1.heap.size, 4, none⟩ = some (.int .i64 0) := V2_a.c 4 _ rfl
    have q2_a_5 : w2.cell? ⟨w1.heap.size, 5, none⟩ = some (.int .i64 0) := V2_a.c 5 _ rfl
    have q2_a_6 : w2.cell? ⟨w1.heap.size, 6, none⟩ = some (.int .i64 0) := V2_a.c 6 _ rfl
    have q2_a_7 : w2.cell? ⟨w1.heap.size, 7, none⟩ = some (.int .i64 0) := V2_a.c 7 _ rfl
    have f2_a := V2_a.2.2; have L2_a := V2_a.lt; have N2_a := Nat.ne_of_gt L2_a; have M2_a := Nat.ne_of_lt L2_a
    have HV2_a := Lib.hid V2_a
    have q2_b_0 : w2.cell? ⟨w1.heap.size + 1, 0, none⟩ = some (.int .i64 1) := V2_b.c 0 _ rfl
    have q2_b_1 : w2.cell? ⟨w1.heap.size + 1, 1, none⟩ = some (.int .i64 (y * 4294967296)) := V2_b.c 1 _ rfl
    have q2_b_2 : w2.cell? ⟨w1.heap.size + 1, 2, none⟩ = some (.int .i64 0) := V2_b.c 2 _ rfl
    have q2_b_3 : w2.cell? ⟨w1.heap.size + 1, 3, none⟩ = some (.int .i64 0) := V2_b.c 3 _ rfl
    have q2_b_4 : w2.cell? ⟨w1.heap.size + 1, 4, none⟩ = some (.int .i64 0) := V2_b.c 4 _ rfl
    have q2_b_5 : w2.cell? ⟨w1.heap.size + 1, 5, none⟩ = some (.int .i64 0) := V2_b.c 5 _ rfl
    have q2_b_6 : w2.cell? ⟨w1.heap.size + 1, 6, none⟩ = some (.int .i64 0) := V2_b.c 6 _ rfl
    have q2_b_7 : w2.cell? ⟨w1.heap.size + 1, 7, none⟩ = some (.int .i64 0) := V2_b.c 7 _ rfl
    have f2_b := V2_b.2.2; have L2_b := V2_b.lt; have N2_b := Nat.ne_of_gt L2_b; have M2_b := Nat.ne_of_lt L2_b
    have HV2_b := Lib.hid V2_b
    have q2_h_0 : w2.cell? ⟨w1.heap.size + 1 + 1, 0, none⟩ = some (.int .i64 4294967296) := V2_h.c 0 _ rfl
    have q2_h_1 : w2.cell? ⟨w1.heap.size + 1 + 1, 1, none⟩ = some (.int .i64 0) := V2_h.c 1 _ rfl
    have q2_h_2 : w2.cell? ⟨w1.heap.size + 1 + 1, 2, none⟩ = some (.int .i64 ((x + y) * 4294967296)) := V2_h.c 2 _ rfl
    have f2_h := V2_h.2.2; have L2_h := V2_h.lt; have N2_h := Nat.ne_of_gt L2_h; have M2_h := Nat.ne_of_lt L2_h
    have HV2_h := Lib.hid V2_h
    have q2_k_0 : w2.cell? ⟨w1.heap.size + 1 + 1 + 1, 0, none⟩ = some (.bool true) := V2_k.c 0 _ rfl
    have f2_k := V2_k.2.2; have L2_k := V2_k.lt; have N2_k := Nat.ne_of_gt L2_k; have M2_k := Nat.ne_of_lt L2_k
    have HV2_k := Lib.hid V2_k
    have S2 := G2.size; clear hb
    go_wp2_with fail
    go_ret
    exact ⟨rfl, by (repeat (with_reducible refine M.Below.drewN ?_ _)); go_grown⟩
  · skip
    rw [show hitR (if d = 0 then ((4294967296, 0) : V) else (0, 4294967296)) ((x + y - d) * 4294967296) = (⟨0, 4294967296, (x + y - d) * 4294967296⟩, true) by unfold hitR; rw [if_neg (by omega), if_neg k1]] at e
    have E := Lib.hid e
    clear e
    go_enter Try.func36, Try.ntmps36
    go_wp2_with fail
    (with_reducible refine (c0.out _).mono ?_); rintro en w1 ⟨rfl, hb⟩
    have G1 : Below w.heap.size w w1 := Below.trans (by (repeat (with_reducible refine M.Below.drewN ?_ _)); go_grown) (hb.mono (by go_size))
    have S1 := G1.size; clear hb
    go_wp2_with fail
    refine (try_c 140 #[.pointer (some ⟨w1.heap.size, 0, none⟩), .pointer (some ⟨w1.heap.size + 1, 0, none⟩), .pointer (some ⟨w1.heap.size + 1 + 1, 0, none⟩), .pointer (some ⟨w1.heap.size + 1 + 1 + 1, 0, none⟩)] _ (0) (usHt (w1.heap.size + 1 + 1) (fstX (.ok (⟨0, 4294967296, (x + y - d) * 4294967296⟩, true))) ++ usB (w1.heap.size + 1 + 1 + 1) (sndX (.ok ((⟨0, 4294967296, (x + y - d) * 4294967296⟩ : Ht), true)))) (fun _ => rfl) ?_ ?_).mono ?_
    · intro u hu; (try simp only [List.mem_append] at hu); (repeat' (obtain hu | hu := (hu : _ ∨ _))); all_goals (first | rw [M.usBx_block hu] | rw [M.usV_block hu] | rw [M.usI_block hu] | rw [M.usHt_block hu] | rw [M.usBd_block hu] | rw [M.usB_block hu] | rw [M.cell_block1 hu] | (exfalso; simp at hu; done)); all_goals ((try simp [go_sem]) <;> omega)
    · intro w1' hb; exact (cloHitB _ _ _ _ (⟨1, x * 4294967296, 0, 0, 0, 0, 0, 0⟩ : Bd) OA.out (⟨1, y * 4294967296, 0, 0, 0, d * 4294967296, 0, 0⟩ : Bd) OB.out _ _ _ _ (.ok (⟨0, 4294967296, (x + y - d) * 4294967296⟩, true)) E.out w1' (M.Var.mono (b := w1.heap.size) (cs := #[.int .i64 1, .int .i64 (x * 4294967296), .int .i64 0, .int .i64 0, .int .i64 0, .int .i64 0, .int .i64 0, .int .i64 0]) (by (repeat (first | (with_reducible assumption) | (with_reducible refine M.var_alloc' _ _ _ ?_; first | rfl | (simp [go_sem]; done)) | (with_reducible refine M.Var.alloc ?_ _) | (with_reducible refine M.Var.drewN ?_ _) | (with_reducible refine M.Var.drew ?_) | (with_reducible refine M.Var.far ?_ _ _ ?hFar; case hFar => (first | omega | ((try simp [go_sem]) <;> omega))) | fail))) hb) (M.Var.mono (b := w1.heap.size + 1) (cs := #[.int .i64 1, .int .i64 (y * 4294967296), .int .i64 0, .int .i64 0, .int .i64 0, .int .i64 (d * 4294967296), .int .i64 0, .int .i64 0]) (by (repeat (first | (with_reducible assumption) | (with_reducible refine M.var_alloc' _ _ _ ?_; first | rfl | (simp [go_sem]; done)) | (with_reducible refine M.Var.alloc ?_ _) | (with_reducible refine M.Var.drewN ?_ _) | (with_reducible refine M.Var.drew ?_) | (with_reducible refine M.Var.far ?_ _ _ ?hFar; case hFar => (first | omega | ((try simp [go_sem]) <;> omega))) | fail))) hb) (M.Var.mono (b := w1.heap.size + 1 + 1) (cs := #[.int .i64 0, .int .i64 0, .int .i64 0]) (by (repeat (first | (with_reducible assumption) | (with_reducible refine M.var_alloc' _ _ _ ?_; first | rfl | (simp [go_sem]; done)) | (with_reducible refine M.Var.alloc ?_ _) | (with_reducible refine M.Var.drewN ?_ _) | (with_reducible refine M.Var.drew ?_) | (with_reducible refine M.Var.far ?_ _ _ ?hFar; case hFar => (first | omega | ((try simp [go_sem]) <;> omega))) | fail))) hb) (M.Var.mono (b := w1.heap.size + 1 + 1 + 1) (cs := #[.bool false]) (by (repeat (first | (with_reducible assumption) | (with_reducible refine M.var_alloc' _ _ _ ?_; first | rfl | (simp [go_sem]; done)) | (with_reducible refine M.Var.alloc ?_ _) | (with_reducible refine M.Var.drewN ?_ _) | (with_reducible refine M.Var.drew ?_) | (with_reducible refine M.Var.far ?_ _ _ ?hFar; case hFar => (first | omega | ((try simp [go_sem]) <;> omega))) | fail))) hb) (by omega)).mono fun e w' h => h
    rintro en w2 ⟨rfl, hb⟩
    have G2 : Below w.heap.size w w2 := Below.trans (M.below_sets_own (usHt (w1.heap.size + 1 + 1) (fstX (.ok (⟨0, 4294967296, (x + y - d) * 4294967296⟩, true))) ++ usB (w1.heap.size + 1 + 1 + 1) (sndX (.ok ((⟨0, 4294967296, (x + y - d) * 4294967296⟩ : Ht), true)))) (by (repeat (with_reducible refine M.Below.drewN ?_ _)); go_grown) (by intro u hu; (try simp only [List.mem_append] at hu); (repeat' (obtain hu | hu := (hu : _ ∨ _))); all_goals (first | rw [M.usBx_block hu] | rw [M.usV_block hu] | rw [M.usI_block hu] | rw [M.usHt_block hu] | rw [M.usBd_block hu] | rw [M.usB_block hu] | rw [M.cell_block1 hu] | (exfalso; simp at hu; done)); all_goals ((try simp [go_sem]) <;> omega))) (hb.mono (by go_size))
    have V2_a : M.Var w2 (w1.heap.size) #[.int .i64 1, .int .i64 (x * 4294967296), .int .i64 0, .int .i64 0, .int .i64 0, .int .i64 0, .int .i64 0, .int .i64 0] := M.Var.mono' (u := M.sets _ (usHt (w1.heap.size + 1 + 1) (fstX (.ok (⟨0, 4294967296, (x + y - d) * 4294967296⟩, true))) ++ usB (w1.heap.size + 1 + 1 + 1) (sndX (.ok ((⟨0, 4294967296, (x + y - d) * 4294967296⟩ : Ht), true))))) (by (try simp only [M.sets_append]); exact (M.var_sets_far (usB (w1.heap.size + 1 + 1 + 1) (sndX (.ok ((⟨0, 4294967296, (x + y - d) * 4294967296⟩ : Ht), true)))) (M.var_sets_far (usHt (w1.heap.size + 1 + 1) (fstX (.ok (⟨0, 4294967296, (x + y - d) * 4294967296⟩, true)))) (by (repeat (first | (with_reducible assumption) | (with_reducible refine M.var_alloc' _ _ _ ?_; first | rfl | (simp [go_sem]; done)) | (with_reducible refine M.Var.alloc ?_ _) | (with_reducible refine M.Var.drewN ?_ _) | (with_reducible refine M.Var.drew ?_) | (with_reducible refine M.Var.far ?_ _ _ ?hFar; case hFar => (first | omega | ((try simp [go_sem]) <;> omega))) | fail)) : M.Var _ (w1.heap.size) #[.int .i64 1, .int .i64 (x * 4294967296), .int .i64 0, .int .i64 0, .int .i64 0, .int .i64 0, .int .i64 0, .int .i64 0]) (by intro u hu; all_goals (first | rw [M.usBx_block hu] | rw [M.usV_block hu] | rw [M.usI_block hu] | rw [M.usHt_block hu] | rw [M.usBd_block hu] | rw [M.usB_block hu] | rw [M.cell_block1 hu] | (exfalso; simp at hu; done)); all_goals ((try simp [go_sem]) <;> omega))) (by intro u hu; all_goals (first | rw [M.usBx_block hu] | rw [M.usV_block hu] | rw [M.usI_block hu] | rw [M.usHt_block hu] | rw [M.usBd_block hu] | rw [M.usB_block hu] | rw [M.cell_block1 hu] | (exfalso; simp at hu; done)); all_goals ((try simp [go_sem]) <;> omega)))) (M.sets_size _ _) hb
    have V2_b : M.Var w2 (w1.heap.size + 1) #[.int .i64 1, .int .i64 (y * 4294967296), .int .i64 0, .int .i64 0, .int .i64 0, .int .i64 (d * 4294967296), .int .i64 0, .int .i64 0] := M.Var.mono' (u := M.sets _ (usHt (w1.heap.size + 1 + 1) (fstX (.ok (⟨0, 4294967296, (x + y - d) * 4294967296⟩, true))) ++ usB (w1.heap.size + 1 + 1 + 1) (sndX (.ok ((⟨0, 4294967296, (x + y - d) * 4294967296⟩ : Ht), true))))) (by (try simp only [M.sets_append]); exact (M.var_sets_far (usB (w1.heap.size + 1 + 1 + 1) (sndX (.ok ((⟨0, 4294967296, (x + y - d) * 4294967296⟩ : Ht), true)))) (M.var_sets_far (usHt (w1.heap.size + 1 + 1) (fstX (.ok (⟨0, 4294967296, (x + y - d) * 4294967296⟩, true)))) (by (repeat (first | (with_reducible assumption) | (with_reducible refine M.var_alloc' _ _ _ ?_; first | rfl | (simp [go_sem]; done)) | (with_reducible refine M.Var.alloc ?_ _) | (with_reducible refine M.Var.drewN ?_ _) | (with_reducible refine M.Var.drew ?_) | (with_reducible refine M.Var.far ?_ _ _ ?hFar; case hFar => (first | omega | ((try simp [go_sem]) <;> omega))) | fail)) : M.Var _ (w1.heap.size + 1) #[.int .i64 1, .int .i64 (y * 4294967296), .int .i64 0, .int .i64 0, .int .i64 0, .int .i64 (d * 4294967296), .int .i64 0, .int .i64 0]) (by intro u hu; all_goals (first | rw [M.usBx_block hu] | rw [M.usV_block hu] | rw [M.usI_block hu] | rw [M.usHt_block hu] | rw [M.usBd_block hu] | rw [M.usB_block hu] | rw [M.cell_block1 hu] | (exfalso; simp at hu; done)); all_goals ((try simp [go_sem]) <;> omega))) (by intro u hu; all_goals (first | rw [M.usBx_block hu] | rw [M.usV_block hu] | rw [M.usI_block hu] | rw [M.usHt_block hu] | rw [M.usBd_block hu] | rw [M.usB_block hu] | rw [M.cell_block1 hu] | (exfalso; simp at hu; done)); all_goals ((try simp [go_sem]) <;> omega)))) (M.sets_size _ _) hb
    have V2_h : M.Var w2 (w1.heap.size + 1 + 1) #[.int .i64 0, .int .i64 4294967296, .int .i64 ((x + y - d) * 4294967296)] := M.Var.mono' (u := M.sets _ (usHt (w1.heap.size + 1 + 1) (fstX (.ok (⟨0, 4294967296, (x + y - d) * 4294967296⟩, true))) ++ usB (w1.heap.size + 1 + 1 + 1) (sndX (.ok ((⟨0, 4294967296, (x + y - d) * 4294967296⟩ : Ht), true))))) (by (try simp only [M.sets_append]); exact (M.var_sets_far (usB (w1.heap.size + 1 + 1 + 1) (sndX (.ok ((⟨0, 4294967296, (x + y - d) * 4294967296⟩ : Ht), true)))) (M.var_setHt (by (repeat (first | (with_reducible assumption) | (with_reducible refine M.var_alloc' _ _ _ ?_; first | rfl | (simp [go_sem]; done)) | (with_reducible refine M.Var.alloc ?_ _) | (with_reducible refine M.Var.drewN ?_ _) | (with_reducible refine M.Var.drew ?_) | (with_reducible refine M.Var.far ?_ _ _ ?hFar; case hFar => (first | omega | ((try simp [go_sem]) <;> omega))) | fail)) : M.Var _ (w1.heap.size + 1 + 1) #[.int .i64 0, .int .i64 0, .int .i64 0]) _ _ _) (by intro u hu; all_goals (first | rw [M.usBx_block hu] | rw [M.usV_block hu] | rw [M.usI_block hu] | rw [M.usHt_block hu] | rw [M.usBd_block hu] | rw [M.usB_block hu] | rw [M.cell_block1 hu] | (exfalso; simp at hu; done)); all_goals ((try simp [go_sem]) <;> omega)))) (M.sets_size _ _) hb
    have V2_k : M.Var w2 (w1.heap.size + 1 + 1 + 1) #[.bool true] := M.Var.mono' (u := M.sets _ (usHt (w1.heap.size + 1 + 1) (fstX (.ok (⟨0, 4294967296, (x + y - d) * 4294967296⟩, true))) ++ usB (w1.heap.size + 1 + 1 + 1) (sndX (.ok ((⟨0, 4294967296, (x + y - d) * 4294967296⟩ : Ht), true))))) (by (try simp only [M.sets_append]); exact (M.var_setB (M.var_sets_far (usHt (w1.heap.size + 1 + 1) (fstX (.ok (⟨0, 4294967296, (x + y - d) * 4294967296⟩, true)))) (by (repeat (first | (with_reducible assumption) | (with_reducible refine M.var_alloc' _ _ _ ?_; first | rfl | (simp [go_sem]; done)) | (with_reducible refine M.Var.alloc ?_ _) | (with_reducible refine M.Var.drewN ?_ _) | (with_reducible refine M.Var.drew ?_) | (with_reducible refine M.Var.far ?_ _ _ ?hFar; case hFar => (first | omega | ((try simp [go_sem]) <;> omega))) | fail)) : M.Var _ (w1.heap.size + 1 + 1 + 1) #[.bool false]) (by intro u hu; all_goals (first | rw [M.usBx_block hu] | rw [M.usV_block hu] | rw [M.usI_block hu] | rw [M.usHt_block hu] | rw [M.usBd_block hu] | rw [M.usB_block hu] | rw [M.cell_block1 hu] | (exfalso; simp at hu; done)); all_goals ((try simp [go_sem]) <;> omega))) _)) (M.sets_size _ _) hb
    have q2_a_0 : w2.cell? ⟨w1.heap.size, 0, none⟩ = some (.int .i64 1) := V2_a.c 0 _ rfl
    have q2_a_1 : w2.cell? ⟨w1.heap.size, 1, none⟩ = some (.int .i64 (x * 4294967296)) := V2_a.c 1 _ rfl
    have q2_a_2 : w2.cell? ⟨w1.heap.size, 2, none⟩ = some (.int .i64 0) := V2_a.c 2 _ rfl
    have q2_a_3 : w2.cell? ⟨w1.heap.size, 3, none⟩ = some (.int .i64 0) := V2_a.c 3 _ rfl
    have q2_a_4 : w2.cell? ⟨w1.heap.size, 4, none⟩ = some (.int .i64 0) := V2_a.c 4 _ rfl
    have q2_a_5 : w2.cell? ⟨w1.heap.size, 5, none⟩ = some (.int .i64 0) := V2_a.c 5 _ rfl
    have q2_a_6 : w2.cell? ⟨w1.heap.size, 6, none⟩ = some (.int .i64 0) := V2_a.c 6 _ rfl
    have q2_a_7 : w2.cell? ⟨w1.heap.size, 7, none⟩ = some (.int .i64 0) := V2_a.c 7 _ rfl
    have f2_a := V2_a.2.2; have L2_a := V2_a.lt; have N2_a := Nat.ne_of_gt L2_a; have M2_a := Nat.ne_of_lt L2_a
    have HV2_a := Lib.hid V2_a
    have q2_b_0 : w2.cell? ⟨w1.heap.size + 1, 0, none⟩ = some (.int .i64 1) := V2_b.c 0 _ rfl
    have q2_b_1 : w2.cell? ⟨w1.heap.size + 1, 1, none⟩ = some (.int .i64 (y * 4294967296)) := V2_b.c 1 _ rfl
    have q2_b_2 : w2.cell? ⟨w1.heap.size + 1, 2, none⟩ = some (.int .i64 0) := V2_b.c 2 _ rfl
    have q2_b_3 : w2.cell? ⟨w1.heap.size + 1, 3, none⟩ = some (.int .i64 0) := V2_b.c 3 _ rfl
    have q2_b_4 : w2.cell? ⟨w1.heap.size + 1, 4, none⟩ = some (.int .i64 0) := V2_b.c 4 _ rfl
    have q2_b_5 : w2.cell? ⟨w1.heap.size + 1, 5, none⟩ = some (.int .i64 (d * 4294967296)) := V2_b.c 5 _ rfl
    have q2_b_6 : w2.cell? ⟨w1.heap.size + 1, 6, none⟩ = some (.int .i64 0) := V2_b.c 6 _ rfl
    have q2_b_7 : w2.cell? ⟨w1.heap.size + 1, 7, none⟩ = some (.int .i64 0) := V2_b.c 7 _ rfl
    have f2_b := V2_b.2.2; have L2_b := V2_b.lt; have N2_b := Nat.ne_of_gt L2_b; have M2_b := Nat.ne_of_lt L2_b
    have HV2_b := Lib.hid V2_b
    have q2_h_0 : w2.cell? ⟨w1.heap.size + 1 + 1, 0, none⟩ = some (.int .i64 0) := V2_h.c 0 _ rfl
    have q2_h_1 : w2.cell? ⟨w1.heap.size + 1 + 1, 1, none⟩ = some (.int .i64 4294967296) := V2_h.c 1 _ rfl
    have q2_h_2 : w2.cell? ⟨w1.heap.size + 1 + 1, 2, none⟩ = some (.int .i64 ((x + y - d) * 4294967296)) := V2_h.c 2 _ rfl
    have f2_h := V2_h.2.2; have L2_h := V2_h.lt; have N2_h := Nat.ne_of_gt L2_h; have M2_h := Nat.ne_of_lt L2_h
    have HV2_h := Lib.hid V2_h
    have q2_k_0 : w2.cell? ⟨w1.heap.size + 1 + 1 + 1, 0, none⟩ = some (.bool true) := V2_k.c 0 _ rfl
    have f2_k := V2_k.2.2; have L2_k := V2_k.lt; have N2_k := Nat.ne_of_gt L2_k; have M2_k := Nat.ne_of_lt L2_k
    have HV2_k := Lib.hid V2_k
    have S2 := G2.size; clear hb
    go_wp2_with fail
    go_ret
    exact ⟨rfl, by (repeat (with_reducible refine M.Below.drewN ?_ _)); go_grown⟩

theorem lifted (os : Os) (started : os.Started) (H : Type) (enc : TypeId × Value → H) :
    ReturnsInHanded {} Try.checked os 36 .any (Rows.touchBallsSpec.pre6 enc Try.prog Try.f36 Rows.touchBallsRow.domain false) (Rows.touchBallsSpec.post enc Try.prog Try.f36 false true false false) := by
  refine returnsInHanded_of_change (C := Try.checked) own started (by kernel_rfl) Try.func36
    (ChangeSpec.witness6 (enc := enc) (C := Try.checked) false ⟨#[], #[.int .i64 0, .int .i64 0, .int .i64 0], []⟩ 8 (by kernel_rfl) (by kernel_rfl) (by kernel_rfl) (by kernel_rfl)) ?_
  intro W base args ds gs before hval0 hW hcnd _
  have hval : ∀ (j : Nat) t v, Try.f36.params[j]? = some t → args[j]? = some v → Value.okWide Try.prog W .any base t v := hval0
  have hW' := hW
  obtain ⟨p, q, hA0, hV, rfl, hfz, hnd⟩ := hW
  have hA : DataW.TrodAll enc Try.prog W 0 (fun _ => true) true Try.f36.params.toList args.toList ds p := hA0
  rw [Try.params36] at hA hval
  obtain ⟨v0, vs0, d0, ds0, p0, q0, hargs, rfl, rfl, h0, r0⟩ := trodAll_cons hA
  obtain ⟨v1, vs1, d1, ds1, p1, q1, rfl, rfl, rfl, h1, r1⟩ := trodAll_cons r0
  obtain ⟨v2, vs2, d2, ds2, p2, q2, rfl, rfl, rfl, h2, r2⟩ := trodAll_cons r1
  obtain ⟨rfl, rfl, rfl⟩ := trodAll_nil r2
  obtain rfl : args = #[v0, v1, v2] := by cases args; simp_all
  obtain ⟨rfl, rfl⟩ := trodVars_none hV
  obtain ⟨x, rfl, rfl, rfl, wx⟩ := open_int Try.underlying3 (hval 0 3 v0 rfl rfl) h0
  obtain ⟨y, rfl, rfl, rfl, wy⟩ := open_int Try.underlying3 (hval 1 3 v1 rfl rfl) h1
  obtain ⟨d, rfl, rfl, rfl, wd⟩ := open_int Try.underlying3 (hval 2 3 v2 rfl rfl) h2
  clear hA0 hval0
  simp only [List.append_nil] at hW'
  refine (walk x (i64_wf wx) y (i64_wf wy) d (i64_wf wd) W).mono fun e W' ⟨he, hg⟩ => ?_
  subst he
  exact ⟨_, rfl, post_below (pa := []) (pv := []) hW' (fun _ _ _ => (trodAll_cons_mk (shut_bool Try.underlying4 _) trodAll_mk0)) (fun sp _ => (trodAll_cons_mk (shut_int Try.underlying3 wx) (trodAll_cons_mk (shut_int Try.underlying3 wy) (trodAll_cons_mk (shut_int Try.underlying3 wd) trodAll_mk0)))) (fun _ _ => rfl) rfl
    hg (ok_one (by kernel_rfl) rfl (okWide_bool_mk Try.underlying4 _))⟩

theorem closed : joinedFacts Try.prog 36 Try.f36 Rows.touchBallsSpec Rows.touchBallsRow = true := by
  unfold joinedFacts
  rw [fact_laid, fact_maps, fact_keys, fact_heard, fact_stops, fact_knobs, fact_enter, fact_lifts, fact_make]
  kernel_rfl

theorem over : Rows.touchBallsRow.holds Try.pinned (OpenSpec.ofChange Rows.touchBallsSpec) :=
  OpenClaim.holds_of_wide 36 Try.f36 rfl rfl rfl rfl rfl rfl rfl ⟨rfl, rfl, rfl, rfl, rfl⟩ rfl rfl rfl rfl rfl (by kernel_rfl) Try.func36 closed
    (of_decide_eq_true (by kernel_rfl)) (by unfold Func.isWrapper; first | (rw [if_pos (by decide +kernel)]; kernel_rfl) | (rw [if_neg (by decide +kernel)]; exact ⟨rfl, rfl⟩))
    (fun os started H enc _ => lifted os started H enc)

/-- The statement. -/
theorem proved : Rows.TouchBallsSaid :=
  over
#print axioms proved
end Go.Proofs.Ytaagpkacningdaa.touchBalls
