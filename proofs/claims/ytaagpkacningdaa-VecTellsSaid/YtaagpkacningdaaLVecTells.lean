/- For every two places, number and count VecTells returns true: what vec tells is the reference's, or a panic of just its error. -/
import Derived.Test.YtaagpkacningdaaRows
import Derived.WalkKit
import Derived.ProofKit
import Derived.OpenShut
import Derived.Test.YtaagpkacningdaaFacts
import Derived.Test.YtaagpkacningdaaArgs
import Derived.Test.YtaagpkacningdaaClo6t
import Derived.Test.YtaagpkacningdaaVecAlive
import Derived.Test.YtaagpkacningdaaRefVec
import Derived.Deep.DrawnRows
namespace Go.Proofs.Ytaagpkacningdaa.vecTells
open Go.ChangeShapes Go.WideShapes Go.ChangeAt Go.RowKit M
set_option maxRecDepth 100000
set_option maxHeartbeats 8000000
set_option linter.unusedVariables false
set_option linter.unusedSimpArgs false
attribute [local go_sem ↓] Go.wp_at_zero Go.wp_at_succ
theorem own : ownKnob Try.prog.godebug = none := by kernel_rfl

/-- The walk: the Go text returns true; of what was there nothing turns. -/
theorem walk (w : World) (a1 a2 : Int) (ha1 : I64 a1) (ha2 : I64 a2) (b1 b2 : Int) (hb1 : I64 b1) (hb2 : I64 b2) (k : Int) (hk : I64 k) (n : Int) (hn : I64 n) :
    Calls Try.prog 28 #[.agg #[.int .i64 a1, .int .i64 a2], .agg #[.int .i64 b1, .int .i64 b2], .int .i64 k, .int .i64 n] w fun e w' => e = .returned (.bool true) ∧ Bw w w' := by
  have c0 := Lib.hid alive6_c
  have hB1 := hb1; have hB2 := hb2
  go_enter Try.func28, Try.ntmps28
  go_wp2_with fail
  (with_reducible refine (c0.out _).mono ?_); rintro en w1 ⟨rfl, hb⟩
  have G1 : Below w.heap.size w w1 := Below.trans (by (repeat (with_reducible refine M.Below.drewN ?_ _)); go_grown) (hb.mono (by go_size))
  have V1_a : M.Var w1 (w.heap.size) #[.int .i64 a1, .int .i64 a2] := M.Var.mono (by (repeat (first | (with_reducible assumption) | (with_reducible apply M.var_set45) | (with_reducible refine M.var_alloc' _ _ _ ?_; first | rfl | (simp [go_sem]; done)) | (with_reducible refine M.Var.alloc ?_ _) | (with_reducible refine M.Var.drewN ?_ _) | (with_reducible refine M.Var.drew ?_) | (with_reducible refine M.Var.far ?_ _ _ ?hFar; case hFar => (first | omega | ((try simp [go_sem]) <;> omega))) | fail))) hb
  have V1_b : M.Var w1 (w.heap.size + 1) #[.int .i64 b1, .int .i64 b2] := M.Var.mono (by (repeat (first | (with_reducible assumption) | (with_reducible apply M.var_set45) | (with_reducible refine M.var_alloc' _ _ _ ?_; first | rfl | (simp [go_sem]; done)) | (with_reducible refine M.Var.alloc ?_ _) | (with_reducible refine M.Var.drewN ?_ _) | (with_reducible refine M.Var.drew ?_) | (with_reducible refine M.Var.far ?_ _ _ ?hFar; case hFar => (first | omega | ((try simp [go_sem]) <;> omega))) | fail))) hb
  have V1_k : M.Var w1 (w.heap.size + 1 + 1) #[.int .i64 k] := M.Var.mono (by (repeat (first | (with_reducible assumption) | (with_reducible apply M.var_set45) | (with_reducible refine M.var_alloc' _ _ _ ?_; first | rfl | (simp [go_sem]; done)) | (with_reducible refine M.Var.alloc ?_ _) | (with_reducible refine M.Var.drewN ?_ _) | (with_reducible refine M.Var.drew ?_) | (with_reducible refine M.Var.far ?_ _ _ ?hFar; case hFar => (first | omega | ((try simp [go_sem]) <;> omega))) | fail))) hb
  have V1_n : M.Var w1 (w.heap.size + 1 + 1 + 1) #[.int .i64 n] := M.Var.mono (by (repeat (first | (with_reducible assumption) | (with_reducible apply M.var_set45) | (with_reducible refine M.var_alloc' _ _ _ ?_; first | rfl | (simp [go_sem]; done)) | (with_reducible refine M.Var.alloc ?_ _) | (with_reducible refine M.Var.drewN ?_ _) | (with_reducible refine M.Var.drew ?_) | (with_reducible refine M.Var.far ?_ _ _ ?hFar; case hFar => (first | omega | ((try simp [go_sem]) <;> omega))) | fail))) hb
  have q1_a_0 : w1.cell? ⟨w.heap.size, 0, none⟩ = some (.int .i64 a1) := V1_a.c 0 _ rfl
  have q1_a_1 : w1.cell? ⟨w.heap.size, 1, none⟩ = some (.int .i64 a2) := V1_a.c 1 _ rfl
  have f1_a := V1_a.2.2; have L1_a := V1_a.lt; have N1_a := Nat.ne_of_gt L1_a; have M1_a := Nat.ne_of_lt L1_a
  have HV1_a := Lib.hid V1_a
  have q1_b_0 : w1.cell? ⟨w.heap.size + 1, 0, none⟩ = some (.int .i64 b1) := V1_b.c 0 _ rfl
  have q1_b_1 : w1.cell? ⟨w.heap.size + 1, 1, none⟩ = some (.int .i64 b2) := V1_b.c 1 _ rfl
  have f1_b := V1_b.2.2; have L1_b := V1_b.lt; have N1_b := Nat.ne_of_gt L1_b; have M1_b := Nat.ne_of_lt L1_b
  have HV1_b := Lib.hid V1_b
  have q1_k_0 : w1.cell? ⟨w.heap.size + 1 + 1, 0, none⟩ = some (.int .i64 k) := V1_k.c 0 _ rfl
  have f1_k := V1_k.2.2; have L1_k := V1_k.lt; have N1_k := Nat.ne_of_gt L1_k; have M1_k := Nat.ne_of_lt L1_k
  have HV1_k := Lib.hid V1_k
  have q1_n_0 : w1.cell? ⟨w.heap.size + 1 + 1 + 1, 0, none⟩ = some (.int .i64 n) := V1_n.c 0 _ rfl
  have f1_n := V1_n.2.2; have L1_n := V1_n.lt; have N1_n := Nat.ne_of_gt L1_n; have M1_n := Nat.ne_of_lt L1_n
  have HV1_n := Lib.hid V1_n
  have S1 := G1.size; clear hb
  go_wp2_with fail
  go_loopg [9] 8 (fun gf s9 wx => ∃ (B : Nat) (op : Int), op + (gf : Int) = 8 ∧ 0 ≤ op ∧ s9 = .pointer (some ⟨B, 0, none⟩) ∧ w.heap.size + 1 + 1 + 1 < B ∧ M.Var wx B #[.int .i64 op] ∧ M.Var wx (w.heap.size) #[.int .i64 a1, .int .i64 a2] ∧ M.Var wx (w.heap.size + 1) #[.int .i64 b1, .int .i64 b2] ∧ M.Var wx (w.heap.size + 1 + 1) #[.int .i64 k] ∧ M.Var wx (w.heap.size + 1 + 1 + 1) #[.int .i64 n] ∧ Bw w wx)
  case atStart => exact ⟨w1.heap.size, 0, by omega, by omega, rfl, by omega, by (repeat (first | (with_reducible assumption) | (with_reducible apply M.var_setV) | (with_reducible apply M.var_setI) | (with_reducible apply M.var_setB) | (with_reducible apply M.var_setHt) | (with_reducible apply M.var_setBd) | (with_reducible apply M.var_set2) | (with_reducible apply M.var_set3) | (with_reducible apply M.var_set4) | (with_reducible apply M.var_set45) | (with_reducible apply M.var_set67) | (with_reducible apply M.var_setF) | (with_reducible refine M.var_alloc' _ _ _ ?_; first | rfl | (focus (simp [go_sem]; done))) | (with_reducible refine M.Var.alloc ?_ _) | (with_reducible refine M.Var.drewN ?_ _) | (with_reducible refine M.Var.drew ?_) | (with_reducible refine M.Var.far ?_ _ _ ?hFar; case hFar => (first | omega | ((try simp [go_sem]) <;> omega))) | fail)), by (repeat (first | (with_reducible assumption) | (with_reducible apply M.var_setV) | (with_reducible apply M.var_setI) | (with_reducible apply M.var_setB) | (with_reducible apply M.var_setHt) | (with_reducible apply M.var_setBd) | (with_reducible apply M.var_set2) | (with_reducible apply M.var_set3) | (with_reducible apply M.var_set4) | (with_reducible apply M.var_set45) | (with_reducible apply M.var_set67) | (with_reducible apply M.var_setF) | (with_reducible refine M.var_alloc' _ _ _ ?_; first | rfl | (focus (simp [go_sem]; done))) | (with_reducible refine M.Var.alloc ?_ _) | (with_reducible refine M.Var.drewN ?_ _) | (with_reducible refine M.Var.drew ?_) | (with_reducible refine M.Var.far ?_ _ _ ?hFar; case hFar => (first | omega | ((try simp [go_sem]) <;> omega))) | fail)), by (repeat (first | (with_reducible assumption) | (with_reducible apply M.var_setV) | (with_reducible apply M.var_setI) | (with_reducible apply M.var_setB) | (with_reducible apply M.var_setHt) | (with_reducible apply M.var_setBd) | (with_reducible apply M.var_set2) | (with_reducible apply M.var_set3) | (with_reducible apply M.var_set4) | (with_reducible apply M.var_set45) | (with_reducible apply M.var_set67) | (with_reducible apply M.var_setF) | (with_reducible refine M.var_alloc' _ _ _ ?_; first | rfl | (focus (simp [go_sem]; done))) | (with_reducible refine M.Var.alloc ?_ _) | (with_reducible refine M.Var.drewN ?_ _) | (with_reducible refine M.Var.drew ?_) | (with_reducible refine M.Var.far ?_ _ _ ?hFar; case hFar => (first | omega | ((try simp [go_sem]) <;> omega))) | fail)), by (repeat (first | (with_reducible assumption) | (with_reducible apply M.var_setV) | (with_reducible apply M.var_setI) | (with_reducible apply M.var_setB) | (with_reducible apply M.var_setHt) | (with_reducible apply M.var_setBd) | (with_reducible apply M.var_set2) | (with_reducible apply M.var_set3) | (with_reducible apply M.var_set4) | (with_reducible apply M.var_set45) | (with_reducible apply M.var_set67) | (with_reducible apply M.var_setF) | (with_reducible refine M.var_alloc' _ _ _ ?_; first | rfl | (focus (simp [go_sem]; done))) | (with_reducible refine M.Var.alloc ?_ _) | (with_reducible refine M.Var.drewN ?_ _) | (with_reducible refine M.Var.drew ?_) | (with_reducible refine M.Var.far ?_ _ _ ?hFar; case hFar => (first | omega | ((try simp [go_sem]) <;> omega))) | fail)), by (repeat (first | (with_reducible assumption) | (with_reducible apply M.var_setV) | (with_reducible apply M.var_setI) | (with_reducible apply M.var_setB) | (with_reducible apply M.var_setHt) | (with_reducible apply M.var_setBd) | (with_reducible apply M.var_set2) | (with_reducible apply M.var_set3) | (with_reducible apply M.var_set4) | (with_reducible apply M.var_set45) | (with_reducible apply M.var_set67) | (with_reducible apply M.var_setF) | (with_reducible refine M.var_alloc' _ _ _ ?_; first | rfl | (focus (simp [go_sem]; done))) | (with_reducible refine M.Var.alloc ?_ _) | (with_reducible refine M.Var.drewN ?_ _) | (with_reducible refine M.Var.drew ?_) | (with_reducible refine M.Var.far ?_ _ _ ?hFar; case hFar => (first | omega | ((try simp [go_sem]) <;> omega))) | fail)), by have G := G1; (repeat (with_reducible refine M.Below.drewN ?_ _)); go_grown⟩
  case round =>
    obtain ⟨B, op, hop, hop0, rfl, hB, Vc_o, Vc_a, Vc_b, Vc_k, Vc_n, hbr⟩ := hrel
    clear G1 S1 V1_a V1_b V1_k V1_n
    obtain ⟨wc, rfl⟩ : ∃ wc, wc = wr := ⟨_, rfl⟩
    have HGc := Lib.hid hbr
    have Sc := hbr.size
    clear hbr
    cases gk with
    | zero =>
      obtain rfl : op = 8 := by omega
      have qc_o_0 : wc.cell? ⟨B, 0, none⟩ = some (.int .i64 8) := Vc_o.c 0 _ rfl
      have fc_o := Vc_o.2.2; have Lc_o := Vc_o.lt; have Nc_o := Nat.ne_of_gt Lc_o; have Mc_o := Nat.ne_of_lt Lc_o
      go_wp2_with fail
      go_ret
      exact ⟨rfl, HGc.out⟩
    | succ gf =>
      have ho : op = 0 ∨ op = 1 ∨ op = 2 ∨ op = 3 ∨ op = 4 ∨ op = 5 ∨ op = 6 ∨ op = 7 := by omega
      clear hop0
      rcases ho with rfl | rfl | rfl | rfl | rfl | rfl | rfl | rfl
      · rcases hP : addV (a1, a2) (b1, b2) with i | ⟨x1, x2⟩
        · have z1 := bne_iff_ne.2 (nz_addV _ _ i hP); have z1b := beq_eq_false_iff_ne.2 (nz_addV _ _ i hP)
          have K1 := Lib.hid (fun pb w hp => (refPlus_x pb 0 a1 a2 b1 b2 ha1 ha2 hB1 hB2 w hp).mono fun en w' h => M.relV_err hP h)
          replace hP := Lib.hid hP
          have qc_o_0 : wc.cell? ⟨B, 0, none⟩ = some (.int .i64 0) := Vc_o.c 0 _ rfl
          have fc_o := Vc_o.2.2; have Lc_o := Vc_o.lt; have Nc_o := Nat.ne_of_gt Lc_o; have Mc_o := Nat.ne_of_lt Lc_o
          have qc_a_0 : wc.cell? ⟨w.heap.size, 0, none⟩ = some (.int .i64 a1) := Vc_a.c 0 _ rfl
          have qc_a_1 : wc.cell? ⟨w.heap.size, 1, none⟩ = some (.int .i64 a2) := Vc_a.c 1 _ rfl
          have fc_a := Vc_a.2.2; have Lc_a := Vc_a.lt; have Nc_a := Nat.ne_of_gt Lc_a; have Mc_a := Nat.ne_of_lt Lc_a
          have qc_b_0 : wc.cell? ⟨w.heap.size + 1, 0, none⟩ = some (.int .i64 b1) := Vc_b.c 0 _ rfl
          have qc_b_1 : wc.cell? ⟨w.heap.size + 1, 1, none⟩ = some (.int .i64 b2) := Vc_b.c 1 _ rfl
          have fc_b := Vc_b.2.2; have Lc_b := Vc_b.lt; have Nc_b := Nat.ne_of_gt Lc_b; have Mc_b := Nat.ne_of_lt Lc_b
          have qc_k_0 : wc.cell? ⟨w.heap.size + 1 + 1, 0, none⟩ = some (.int .i64 k) := Vc_k.c 0 _ rfl
          have fc_k := Vc_k.2.2; have Lc_k := Vc_k.lt; have Nc_k := Nat.ne_of_gt Lc_k; have Mc_k := Nat.ne_of_lt Lc_k
          have qc_n_0 : wc.cell? ⟨w.heap.size + 1 + 1 + 1, 0, none⟩ = some (.int .i64 n) := Vc_n.c 0 _ rfl
          have fc_n := Vc_n.2.2; have Lc_n := Vc_n.lt; have Nc_n := Nat.ne_of_gt Lc_n; have Mc_n := Nat.ne_of_lt Lc_n
          go_wp2_with fail
          refine (try_c 110 #[.pointer (some ⟨B, 0, none⟩), .pointer (some ⟨w.heap.size, 0, none⟩), .pointer (some ⟨w.heap.size + 1, 0, none⟩), .pointer (some ⟨wc.heap.size + 1 + 1, 0, none⟩), .pointer (some ⟨w.heap.size + 1 + 1, 0, none⟩), .pointer (some ⟨wc.heap.size + 1 + 1 + 1, 0, none⟩), .pointer (some ⟨w.heap.size + 1 + 1 + 1, 0, none⟩)] _ (i) ([]) (fun _ => rfl) ?_ ?_).mono ?_
          · intro u hu; (try simp only [List.mem_append] at hu); (repeat' (obtain hu | hu := (hu : _ ∨ _))); all_goals (first | rw [M.usBx_block hu] | rw [M.usV_block hu] | rw [M.usI_block hu] | rw [M.usHt_block hu] | rw [M.usBd_block hu] | rw [M.usB_block hu] | rw [M.cell_block1 hu] | (exfalso; simp at hu; done)); all_goals ((try simp [go_sem]) <;> omega)
          · intro w1' hb; exact (cloVT0 _ _ _ _ _ _ _ a1 a2 ha1 ha2 b1 b2 hB1 hB2 _ _ (.error i : X (V)) hP.out w1' (M.Var.mono (b := B) (cs := #[.int .i64 0]) (by (repeat (first | (with_reducible assumption) | (with_reducible apply M.var_set45) | (with_reducible refine M.var_alloc' _ _ _ ?_; first | rfl | (simp [go_sem]; done)) | (with_reducible refine M.Var.alloc ?_ _) | (with_reducible refine M.Var.drewN ?_ _) | (with_reducible refine M.Var.drew ?_) | (with_reducible refine M.Var.far ?_ _ _ ?hFar; case hFar => (first | omega | ((try simp [go_sem]) <;> omega))) | fail))) hb) (M.Var.mono (b := w.heap.size) (cs := #[.int .i64 a1, .int .i64 a2]) (by (repeat (first | (with_reducible assumption) | (with_reducible apply M.var_set45) | (with_reducible refine M.var_alloc' _ _ _ ?_; first | rfl | (simp [go_sem]; done)) | (with_reducible refine M.Var.alloc ?_ _) | (with_reducible refine M.Var.drewN ?_ _) | (with_reducible refine M.Var.drew ?_) | (with_reducible refine M.Var.far ?_ _ _ ?hFar; case hFar => (first | omega | ((try simp [go_sem]) <;> omega))) | fail))) hb) (M.Var.mono (b := w.heap.size + 1) (cs := #[.int .i64 b1, .int .i64 b2]) (by (repeat (first | (with_reducible assumption) | (with_reducible apply M.var_set45) | (with_reducible refine M.var_alloc' _ _ _ ?_; first | rfl | (simp [go_sem]; done)) | (with_reducible refine M.Var.alloc ?_ _) | (with_reducible refine M.Var.drewN ?_ _) | (with_reducible refine M.Var.drew ?_) | (with_reducible refine M.Var.far ?_ _ _ ?hFar; case hFar => (first | omega | ((try simp [go_sem]) <;> omega))) | fail))) hb) (M.Var.mono (b := wc.heap.size + 1 + 1) (cs := #[.int .i64 0, .int .i64 0]) (by (repeat (first | (with_reducible assumption) | (with_reducible apply M.var_set45) | (with_reducible refine M.var_alloc' _ _ _ ?_; first | rfl | (simp [go_sem]; done)) | (with_reducible refine M.Var.alloc ?_ _) | (with_reducible refine M.Var.drewN ?_ _) | (with_reducible refine M.Var.drew ?_) | (with_reducible refine M.Var.far ?_ _ _ ?hFar; case hFar => (first | omega | ((try simp [go_sem]) <;> omega))) | fail))) hb)).mono fun e w' h => h
          rintro en w2 ⟨rfl, hb⟩
          have G2 : Below w.heap.size w w2 := Below.trans (M.below_sets_own ([]) (by have G := HGc.out; (repeat (with_reducible refine M.Below.drewN ?_ _)); go_grown) (by intro u hu; (try simp only [List.mem_append] at hu); (repeat' (obtain hu | hu := (hu : _ ∨ _))); all_goals (first | rw [M.usBx_block hu] | rw [M.usV_block hu] | rw [M.usI_block hu] | rw [M.usHt_block hu] | rw [M.usBd_block hu] | rw [M.usB_block hu] | rw [M.cell_block1 hu] | (exfalso; simp at hu; done)); all_goals ((try simp [go_sem]) <;> omega))) (hb.mono (by go_size))
          have VV2 : M.Var w2 (w.heap.size) #[.int .i64 a1, .int .i64 a2] ∧ M.Var w2 (w.heap.size + 1) #[.int .i64 b1, .int .i64 b2] ∧ M.Var w2 (w.heap.size + 1 + 1) #[.int .i64 k] ∧ M.Var w2 (w.heap.size + 1 + 1 + 1) #[.int .i64 n] ∧ M.Var w2 (B) #[.int .i64 0] ∧ M.Var w2 (wc.heap.size) #[.int .i64 0] ∧ M.Var w2 (wc.heap.size + 1) #[.int .i64 0, .int .i64 0] ∧ M.Var w2 (wc.heap.size + 1 + 1) #[.int .i64 0, .int .i64 0] ∧ M.Var w2 (wc.heap.size + 1 + 1 + 1) #[.int .i64 0] := by refine ⟨?_, ?_, ?_, ?_, ?_, ?_, ?_, ?_, ?_⟩ <;> exact M.Var.mono' (u := M.sets _ ([])) (by (try simp only [M.sets_append]); exact (M.var_sets_far ([]) (by (repeat (first | (with_reducible assumption) | (with_reducible apply M.var_set45) | (with_reducible refine M.var_alloc' _ _ _ ?_; first | rfl | (simp [go_sem]; done)) | (with_reducible refine M.Var.alloc ?_ _) | (with_reducible refine M.Var.drewN ?_ _) | (with_reducible refine M.Var.drew ?_) | (with_reducible refine M.Var.far ?_ _ _ ?hFar; case hFar => (first | omega | ((try simp [go_sem]) <;> omega))) | fail))) (by intro u hu; all_goals (first | rw [M.usBx_block hu] | rw [M.usV_block hu] | rw [M.usI_block hu] | rw [M.usHt_block hu] | rw [M.usBd_block hu] | rw [M.usB_block hu] | rw [M.cell_block1 hu] | (exfalso; simp at hu; done)); all_goals ((try simp [go_sem]) <;> omega)))) (M.sets_size _ _) hb
          obtain ⟨V2_a, V2_b, V2_k, V2_n, V2_o, V2_c, V2_w, V2_v, V2_y⟩ := VV2
          have q2_a_0 : w2.cell? ⟨w.heap.size, 0, none⟩ = some (.int .i64 a1) := V2_a.c 0 _ rfl
          have q2_a_1 : w2.cell? ⟨w.heap.size, 1, none⟩ = some (.int .i64 a2) := V2_a.c 1 _ rfl
          have f2_a := V2_a.2.2; have L2_a := V2_a.lt; have N2_a := Nat.ne_of_gt L2_a; have M2_a := Nat.ne_of_lt L2_a
          have HV2_a := Lib.hid V2_a
          have q2_b_0 : w2.cell? ⟨w.heap.size + 1, 0, none⟩ = some (.int .i64 b1) := V2_b.c 0 _ rfl
          have q2_b_1 : w2.cell? ⟨w.heap.size + 1, 1, none⟩ = some (.int .i64 b2) := V2_b.c 1 _ rfl
          have f2_b := V2_b.2.2; have L2_b := V2_b.lt; have N2_b := Nat.ne_of_gt L2_b; have M2_b := Nat.ne_of_lt L2_b
          have HV2_b := Lib.hid V2_b
          have q2_k_0 : w2.cell? ⟨w.heap.size + 1 + 1, 0, none⟩ = some (.int .i64 k) := V2_k.c 0 _ rfl
          have f2_k := V2_k.2.2; have L2_k := V2_k.lt; have N2_k := Nat.ne_of_gt L2_k; have M2_k := Nat.ne_of_lt L2_k
          have HV2_k := Lib.hid V2_k
          have q2_n_0 : w2.cell? ⟨w.heap.size + 1 + 1 + 1, 0, none⟩ = some (.int .i64 n) := V2_n.c 0 _ rfl
          have f2_n := V2_n.2.2; have L2_n := V2_n.lt; have N2_n := Nat.ne_of_gt L2_n; have M2_n := Nat.ne_of_lt L2_n
          have HV2_n := Lib.hid V2_n
          have q2_o_0 : w2.cell? ⟨B, 0, none⟩ = some (.int .i64 0) := V2_o.c 0 _ rfl
          have f2_o := V2_o.2.2; have L2_o := V2_o.lt; have N2_o := Nat.ne_of_gt L2_o; have M2_o := Nat.ne_of_lt L2_o
          have HV2_o := Lib.hid V2_o
          have q2_c_0 : w2.cell? ⟨wc.heap.size, 0, none⟩ = some (.int .i64 0) := V2_c.c 0 _ rfl
          have f2_c := V2_c.2.2; have L2_c := V2_c.lt; have N2_c := Nat.ne_of_gt L2_c; have M2_c := Nat.ne_of_lt L2_c
          have HV2_c := Lib.hid V2_c
          have q2_w_0 : w2.cell? ⟨wc.heap.size + 1, 0, none⟩ = some (.int .i64 0) := V2_w.c 0 _ rfl
          have q2_w_1 : w2.cell? ⟨wc.heap.size + 1, 1, none⟩ = some (.int .i64 0) := V2_w.c 1 _ rfl
          have f2_w := V2_w.2.2; have L2_w := V2_w.lt; have N2_w := Nat.ne_of_gt L2_w; have M2_w := Nat.ne_of_lt L2_w
          have HV2_w := Lib.hid V2_w
          have q2_v_0 : w2.cell? ⟨wc.heap.size + 1 + 1, 0, none⟩ = some (.int .i64 0) := V2_v.c 0 _ rfl
          have q2_v_1 : w2.cell? ⟨wc.heap.size + 1 + 1, 1, none⟩ = some (.int .i64 0) := V2_v.c 1 _ rfl
          have f2_v := V2_v.2.2; have L2_v := V2_v.lt; have N2_v := Nat.ne_of_gt L2_v; have M2_v := Nat.ne_of_lt L2_v
          have HV2_v := Lib.hid V2_v
          have q2_y_0 : w2.cell? ⟨wc.heap.size + 1 + 1 + 1, 0, none⟩ = some (.int .i64 0) := V2_y.c 0 _ rfl
          have f2_y := V2_y.2.2; have L2_y := V2_y.lt; have N2_y := Nat.ne_of_gt L2_y; have M2_y := Nat.ne_of_lt L2_y
          have HV2_y := Lib.hid V2_y
          have S2 := G2.size; clear hb
          go_wp2_with fail
          (with_reducible refine (K1.out _ _ (M.pcell_var (by (repeat (first | (with_reducible assumption) | (with_reducible apply M.var_set45) | (with_reducible refine M.var_alloc' _ _ _ ?_; first | rfl | (simp [go_sem]; done)) | (with_reducible refine M.Var.alloc ?_ _) | (with_reducible refine M.Var.drewN ?_ _) | (with_reducible refine M.Var.drew ?_) | (with_reducible refine M.Var.far ?_ _ _ ?hFar; case hFar => (first | omega | ((try simp [go_sem]) <;> omega))) | fail)) : M.Var _ (wc.heap.size) #[.int .i64 0]))).mono ?_); rintro en w3 ⟨⟨u1, u2, rfl⟩, hb⟩
          have G3 : Below w.heap.size w w3 := Below.trans (M.below_sets_own ([(⟨wc.heap.size, 0, none⟩, .int .i64 i)]) (by have G := HGc.out; (repeat (with_reducible refine M.Below.drewN ?_ _)); go_grown) (by intro u hu; rw [M.cell_block1 hu]; dsimp only; omega)) (hb.mono (by go_size))
          have VV3 : M.Var w3 (w.heap.size) #[.int .i64 a1, .int .i64 a2] ∧ M.Var w3 (w.heap.size + 1) #[.int .i64 b1, .int .i64 b2] ∧ M.Var w3 (w.heap.size + 1 + 1) #[.int .i64 k] ∧ M.Var w3 (w.heap.size + 1 + 1 + 1) #[.int .i64 n] ∧ M.Var w3 (B) #[.int .i64 0] ∧ M.Var w3 (wc.heap.size + 1) #[.int .i64 0, .int .i64 0] ∧ M.Var w3 (wc.heap.size + 1 + 1) #[.int .i64 0, .int .i64 0] ∧ M.Var w3 (wc.heap.size + 1 + 1 + 1) #[.int .i64 0] := by refine ⟨?_, ?_, ?_, ?_, ?_, ?_, ?_, ?_⟩ <;> exact M.Var.mono' (u := M.sets _ ([(⟨wc.heap.size, 0, none⟩, .int .i64 i)])) (by (try simp only [M.sets_append]); exact (M.var_sets_far ([(⟨wc.heap.size, 0, none⟩, .int .i64 i)]) (by (repeat (first | (with_reducible assumption) | (with_reducible apply M.var_set45) | (with_reducible refine M.var_alloc' _ _ _ ?_; first | rfl | (simp [go_sem]; done)) | (with_reducible refine M.Var.alloc ?_ _) | (with_reducible refine M.Var.drewN ?_ _) | (with_reducible refine M.Var.drew ?_) | (with_reducible refine M.Var.far ?_ _ _ ?hFar; case hFar => (first | omega | ((try simp [go_sem]) <;> omega))) | fail))) (by intro u hu; all_goals (first | rw [M.usBx_block hu] | rw [M.usV_block hu] | rw [M.usI_block hu] | rw [M.usHt_block hu] | rw [M.usBd_block hu] | rw [M.usB_block hu] | rw [M.cell_block1 hu] | (exfalso; simp at hu; done)); all_goals ((try simp [go_sem]) <;> omega)))) (M.sets_size _ _) hb
          obtain ⟨V3_a, V3_b, V3_k, V3_n, V3_o, V3_w, V3_v, V3_y⟩ := VV3
          have V3_c : M.Var w3 (wc.heap.size) #[.int .i64 i] := M.Var.mono' (u := M.sets _ ([(⟨wc.heap.size, 0, none⟩, .int .i64 i)])) (by (try simp only [M.sets_append]); exact (M.var_setI (by (repeat (first | (with_reducible assumption) | (with_reducible apply M.var_set45) | (with_reducible refine M.var_alloc' _ _ _ ?_; first | rfl | (simp [go_sem]; done)) | (with_reducible refine M.Var.alloc ?_ _) | (with_reducible refine M.Var.drewN ?_ _) | (with_reducible refine M.Var.drew ?_) | (with_reducible refine M.Var.far ?_ _ _ ?hFar; case hFar => (first | omega | ((try simp [go_sem]) <;> omega))) | fail)) : M.Var _ (wc.heap.size) #[.int .i64 0]) _)) (M.sets_size _ _) hb
          have q3_a_0 : w3.cell? ⟨w.heap.size, 0, none⟩ = some (.int .i64 a1) := V3_a.c 0 _ rfl
          have q3_a_1 : w3.cell? ⟨w.heap.size, 1, none⟩ = some (.int .i64 a2) := V3_a.c 1 _ rfl
          have f3_a := V3_a.2.2; have L3_a := V3_a.lt; have N3_a := Nat.ne_of_gt L3_a; have M3_a := Nat.ne_of_lt L3_a
          have HV3_a := Lib.hid V3_a
          have q3_b_0 : w3.cell? ⟨w.heap.size + 1, 0, none⟩ = some (.int .i64 b1) := V3_b.c 0 _ rfl
          have q3_b_1 : w3.cell? ⟨w.heap.size + 1, 1, none⟩ = some (.int .i64 b2) := V3_b.c 1 _ rfl
          have f3_b := V3_b.2.2; have L3_b := V3_b.lt; have N3_b := Nat.ne_of_gt L3_b; have M3_b := Nat.ne_of_lt L3_b
          have HV3_b := Lib.hid V3_b
          have q3_k_0 : w3.cell? ⟨w.heap.size + 1 + 1, 0, none⟩ = some (.int .i64 k) := V3_k.c 0 _ rfl
          have f3_k := V3_k.2.2; have L3_k := V3_k.lt; have N3_k := Nat.ne_of_gt L3_k; have M3_k := Nat.ne_of_lt L3_k
          have HV3_k := Lib.hid V3_k
          have q3_n_0 : w3.cell? ⟨w.heap.size + 1 + 1 + 1, 0, none⟩ = some (.int .i64 n) := V3_n.c 0 _ rfl
          have f3_n := V3_n.2.2; have L3_n := V3_n.lt; have N3_n := Nat.ne_of_gt L3_n; have M3_n := Nat.ne_of_lt L3_n
          have HV3_n := Lib.hid V3_n
          have q3_o_0 : w3.cell? ⟨B, 0, none⟩ = some (.int .i64 0) := V3_o.c 0 _ rfl
          have f3_o := V3_o.2.2; have L3_o := V3_o.lt; have N3_o := Nat.ne_of_gt L3_o; have M3_o := Nat.ne_of_lt L3_o
          have HV3_o := Lib.hid V3_o
          have q3_c_0 : w3.cell? ⟨wc.heap.size, 0, none⟩ = some (.int .i64 i) := V3_c.c 0 _ rfl
          have f3_c := V3_c.2.2; have L3_c := V3_c.lt; have N3_c := Nat.ne_of_gt L3_c; have M3_c := Nat.ne_of_lt L3_c
          have HV3_c := Lib.hid V3_c
          have q3_w_0 : w3.cell? ⟨wc.heap.size + 1, 0, none⟩ = some (.int .i64 0) := V3_w.c 0 _ rfl
          have q3_w_1 : w3.cell? ⟨wc.heap.size + 1, 1, none⟩ = some (.int .i64 0) := V3_w.c 1 _ rfl
          have f3_w := V3_w.2.2; have L3_w := V3_w.lt; have N3_w := Nat.ne_of_gt L3_w; have M3_w := Nat.ne_of_lt L3_w
          have HV3_w := Lib.hid V3_w
          have q3_v_0 : w3.cell? ⟨wc.heap.size + 1 + 1, 0, none⟩ = some (.int .i64 0) := V3_v.c 0 _ rfl
          have q3_v_1 : w3.cell? ⟨wc.heap.size + 1 + 1, 1, none⟩ = some (.int .i64 0) := V3_v.c 1 _ rfl
          have f3_v := V3_v.2.2; have L3_v := V3_v.lt; have N3_v := Nat.ne_of_gt L3_v; have M3_v := Nat.ne_of_lt L3_v
          have HV3_v := Lib.hid V3_v
          have q3_y_0 : w3.cell? ⟨wc.heap.size + 1 + 1 + 1, 0, none⟩ = some (.int .i64 0) := V3_y.c 0 _ rfl
          have f3_y := V3_y.2.2; have L3_y := V3_y.lt; have N3_y := Nat.ne_of_gt L3_y; have M3_y := Nat.ne_of_lt L3_y
          have HV3_y := Lib.hid V3_y
          have S3 := G3.size; clear hb
          go_wp2_with fail
          go_roundg gf
          case measure => omega
          case rel => refine ⟨w3.heap.size, 1, by omega, by omega, rfl, by omega, ?_, ?_, ?_, ?_, ?_, by have G := G3; (repeat (with_reducible refine M.Below.drewN ?_ _)); go_grown⟩ <;> ((repeat (first | (with_reducible assumption) | (with_reducible apply M.var_setV) | (with_reducible apply M.var_setI) | (with_reducible apply M.var_setB) | (with_reducible apply M.var_setHt) | (with_reducible apply M.var_setBd) | (with_reducible apply M.var_set2) | (with_reducible apply M.var_set3) | (with_reducible apply M.var_set4) | (with_reducible apply M.var_set45) | (with_reducible apply M.var_set67) | (with_reducible apply M.var_setF) | (with_reducible refine M.var_alloc' _ _ _ ?_; first | rfl | (focus (simp [go_sem]; done))) | (with_reducible refine M.Var.alloc ?_ _) | (with_reducible refine M.Var.drewN ?_ _) | (with_reducible refine M.Var.drew ?_) | (with_reducible refine M.Var.far ?_ _ _ ?hFar; case hFar => (first | omega | ((try simp [go_sem]) <;> omega))) | fail)))
        · skip
          have K1 := Lib.hid (fun pb w hp => (refPlus_x pb 0 a1 a2 b1 b2 ha1 ha2 hB1 hB2 w hp).mono fun en w' h => M.relV_ok hP h)
          replace hP := Lib.hid hP
          have qc_o_0 : wc.cell? ⟨B, 0, none⟩ = some (.int .i64 0) := Vc_o.c 0 _ rfl
          have fc_o := Vc_o.2.2; have Lc_o := Vc_o.lt; have Nc_o := Nat.ne_of_gt Lc_o; have Mc_o := Nat.ne_of_lt Lc_o
          have qc_a_0 : wc.cell? ⟨w.heap.size, 0, none⟩ = some (.int .i64 a1) := Vc_a.c 0 _ rfl
          have qc_a_1 : wc.cell? ⟨w.heap.size, 1, none⟩ = some (.int .i64 a2) := Vc_a.c 1 _ rfl
          have fc_a := Vc_a.2.2; have Lc_a := Vc_a.lt; have Nc_a := Nat.ne_of_gt Lc_a; have Mc_a := Nat.ne_of_lt Lc_a
          have qc_b_0 : wc.cell? ⟨w.heap.size + 1, 0, none⟩ = some (.int .i64 b1) := Vc_b.c 0 _ rfl
          have qc_b_1 : wc.cell? ⟨w.heap.size + 1, 1, none⟩ = some (.int .i64 b2) := Vc_b.c 1 _ rfl
          have fc_b := Vc_b.2.2; have Lc_b := Vc_b.lt; have Nc_b := Nat.ne_of_gt Lc_b; have Mc_b := Nat.ne_of_lt Lc_b
          have qc_k_0 : wc.cell? ⟨w.heap.size + 1 + 1, 0, none⟩ = some (.int .i64 k) := Vc_k.c 0 _ rfl
          have fc_k := Vc_k.2.2; have Lc_k := Vc_k.lt; have Nc_k := Nat.ne_of_gt Lc_k; have Mc_k := Nat.ne_of_lt Lc_k
          have qc_n_0 : wc.cell? ⟨w.heap.size + 1 + 1 + 1, 0, none⟩ = some (.int .i64 n) := Vc_n.c 0 _ rfl
          have fc_n := Vc_n.2.2; have Lc_n := Vc_n.lt; have Nc_n := Nat.ne_of_gt Lc_n; have Mc_n := Nat.ne_of_lt Lc_n
          go_wp2_with fail
          refine (try_c 110 #[.pointer (some ⟨B, 0, none⟩), .pointer (some ⟨w.heap.size, 0, none⟩), .pointer (some ⟨w.heap.size + 1, 0, none⟩), .pointer (some ⟨wc.heap.size + 1 + 1, 0, none⟩), .pointer (some ⟨w.heap.size + 1 + 1, 0, none⟩), .pointer (some ⟨wc.heap.size + 1 + 1 + 1, 0, none⟩), .pointer (some ⟨w.heap.size + 1 + 1 + 1, 0, none⟩)] _ (0) (usV (wc.heap.size + 1 + 1) (.ok (x1, x2))) (fun _ => rfl) ?_ ?_).mono ?_
          · intro u hu; (try simp only [List.mem_append] at hu); (repeat' (obtain hu | hu := (hu : _ ∨ _))); all_goals (first | rw [M.usBx_block hu] | rw [M.usV_block hu] | rw [M.usI_block hu] | rw [M.usHt_block hu] | rw [M.usBd_block hu] | rw [M.usB_block hu] | rw [M.cell_block1 hu] | (exfalso; simp at hu; done)); all_goals ((try simp [go_sem]) <;> omega)
          · intro w1' hb; exact (cloVT0 _ _ _ _ _ _ _ a1 a2 ha1 ha2 b1 b2 hB1 hB2 _ _ ((.ok (x1, x2)) : X (V)) hP.out w1' (M.Var.mono (b := B) (cs := #[.int .i64 0]) (by (repeat (first | (with_reducible assumption) | (with_reducible apply M.var_set45) | (with_reducible refine M.var_alloc' _ _ _ ?_; first | rfl | (simp [go_sem]; done)) | (with_reducible refine M.Var.alloc ?_ _) | (with_reducible refine M.Var.drewN ?_ _) | (with_reducible refine M.Var.drew ?_) | (with_reducible refine M.Var.far ?_ _ _ ?hFar; case hFar => (first | omega | ((try simp [go_sem]) <;> omega))) | fail))) hb) (M.Var.mono (b := w.heap.size) (cs := #[.int .i64 a1, .int .i64 a2]) (by (repeat (first | (with_reducible assumption) | (with_reducible apply M.var_set45) | (with_reducible refine M.var_alloc' _ _ _ ?_; first | rfl | (simp [go_sem]; done)) | (with_reducible refine M.Var.alloc ?_ _) | (with_reducible refine M.Var.drewN ?_ _) | (with_reducible refine M.Var.drew ?_) | (with_reducible refine M.Var.far ?_ _ _ ?hFar; case hFar => (first | omega | ((try simp [go_sem]) <;> omega))) | fail))) hb) (M.Var.mono (b := w.heap.size + 1) (cs := #[.int .i64 b1, .int .i64 b2]) (by (repeat (first | (with_reducible assumption) | (with_reducible apply M.var_set45) | (with_reducible refine M.var_alloc' _ _ _ ?_; first | rfl | (simp [go_sem]; done)) | (with_reducible refine M.Var.alloc ?_ _) | (with_reducible refine M.Var.drewN ?_ _) | (with_reducible refine M.Var.drew ?_) | (with_reducible refine M.Var.far ?_ _ _ ?hFar; case hFar => (first | omega | ((try simp [go_sem]) <;> omega))) | fail))) hb) (M.Var.mono (b := wc.heap.size + 1 + 1) (cs := #[.int .i64 0, .int .i64 0]) (by (repeat (first | (with_reducible assumption) | (with_reducible apply M.var_set45) | (with_reducible refine M.var_alloc' _ _ _ ?_; first | rfl | (simp [go_sem]; done)) | (with_reducible refine M.Var.alloc ?_ _) | (with_reducible refine M.Var.drewN ?_ _) | (with_reducible refine M.Var.drew ?_) | (with_reducible refine M.Var.far ?_ _ _ ?hFar; case hFar => (first | omega | ((try simp [go_sem]) <;> omega))) | fail))) hb)).mono fun e w' h => h
          rintro en w4 ⟨rfl, hb⟩
          have G4 : Below w.heap.size w w4 := Below.trans (M.below_sets_own (usV (wc.heap.size + 1 + 1) (.ok (x1, x2))) (by have G := HGc.out; (repeat (with_reducible refine M.Below.drewN ?_ _)); go_grown) (by intro u hu; (try simp only [List.mem_append] at hu); (repeat' (obtain hu | hu := (hu : _ ∨ _))); all_goals (first | rw [M.usBx_block hu] | rw [M.usV_block hu] | rw [M.usI_block hu] | rw [M.usHt_block hu] | rw [M.usBd_block hu] | rw [M.usB_block hu] | rw [M.cell_block1 hu] | (exfalso; simp at hu; done)); all_goals ((try simp [go_sem]) <;> omega))) (hb.mono (by go_size))
          have VV4 : M.Var w4 (w.heap.size) #[.int .i64 a1, .int .i64 a2] ∧ M.Var w4 (w.heap.size + 1) #[.int .i64 b1, .int .i64 b2] ∧ M.Var w4 (w.heap.size + 1 + 1) #[.int .i64 k] ∧ M.Var w4 (w.heap.size + 1 + 1 + 1) #[.int .i64 n] ∧ M.Var w4 (B) #[.int .i64 0] ∧ M.Var w4 (wc.heap.size) #[.int .i64 0] ∧ M.Var w4 (wc.heap.size + 1) #[.int .i64 0, .int .i64 0] ∧ M.Var w4 (wc.heap.size + 1 + 1 + 1) #[.int .i64 0] := by refine ⟨?_, ?_, ?_, ?_, ?_, ?_, ?_, ?_⟩ <;> exact M.Var.mono' (u := M.sets _ (usV (wc.heap.size + 1 + 1) (.ok (x1, x2)))) (by (try simp only [M.sets_append]); exact (M.var_sets_far (usV (wc.heap.size + 1 + 1) (.ok (x1, x2))) (by (repeat (first | (with_reducible assumption) | (with_reducible apply M.var_set45) | (with_reducible refine M.var_alloc' _ _ _ ?_; first | rfl | (simp [go_sem]; done)) | (with_reducible refine M.Var.alloc ?_ _) | (with_reducible refine M.Var.drewN ?_ _) | (with_reducible refine M.Var.drew ?_) | (with_reducible refine M.Var.far ?_ _ _ ?hFar; case hFar => (first | omega | ((try simp [go_sem]) <;> omega))) | fail))) (by intro u hu; all_goals (first | rw [M.usBx_block hu] | rw [M.usV_block hu] | rw [M.usI_block hu] | rw [M.usHt_block hu] | rw [M.usBd_block hu] | rw [M.usB_block hu] | rw [M.cell_block1 hu] | (exfalso; simp at hu; done)); all_goals ((try simp [go_sem]) <;> omega)))) (M.sets_size _ _) hb
          obtain ⟨V4_a, V4_b, V4_k, V4_n, V4_o, V4_c, V4_w, V4_y⟩ := VV4
          have V4_v : M.Var w4 (wc.heap.size + 1 + 1) #[.int .i64 x1, .int .i64 x2] := M.Var.mono' (u := M.sets _ (usV (wc.heap.size + 1 + 1) (.ok (x1, x2)))) (by (try simp only [M.sets_append]); exact (M.var_setV (by (repeat (first | (with_reducible assumption) | (with_reducible apply M.var_set45) | (with_reducible refine M.var_alloc' _ _ _ ?_; first | rfl | (simp [go_sem]; done)) | (with_reducible refine M.Var.alloc ?_ _) | (with_reducible refine M.Var.drewN ?_ _) | (with_reducible refine M.Var.drew ?_) | (with_reducible refine M.Var.far ?_ _ _ ?hFar; case hFar => (first | omega | ((try simp [go_sem]) <;> omega))) | fail)) : M.Var _ (wc.heap.size + 1 + 1) #[.int .i64 0, .int .i64 0]) _ _)) (M.sets_size _ _) hb
          have q4_a_0 : w4.cell? ⟨w.heap.size, 0, none⟩ = some (.int .i64 a1) := V4_a.c 0 _ rfl
          have q4_a_1 : w4.cell? ⟨w.heap.size, 1, none⟩ = some (.int .i64 a2) := V4_a.c 1 _ rfl
          have f4_a := V4_a.2.2; have L4_a := V4_a.lt; have N4_a := Nat.ne_of_gt L4_a; have M4_a := Nat.ne_of_lt L4_a
          have HV4_a := Lib.hid V4_a
          have q4_b_0 : w4.cell? ⟨w.heap.size + 1, 0, none⟩ = some (.int .i64 b1) := V4_b.c 0 _ rfl
          have q4_b_1 : w4.cell? ⟨w.heap.size + 1, 1, none⟩ = some (.int .i64 b2) := V4_b.c 1 _ rfl
          have f4_b := V4_b.2.2; have L4_b := V4_b.lt; have N4_b := Nat.ne_of_gt L4_b; have M4_b := Nat.ne_of_lt L4_b
          have HV4_b := Lib.hid V4_b
          have q4_k_0 : w4.cell? ⟨w.heap.size + 1 + 1, 0, none⟩ = some (.int .i64 k) := V4_k.c 0 _ rfl
          have f4_k := V4_k.2.2; have L4_k := V4_k.lt; have N4_k := Nat.ne_of_gt L4_k; have M4_k := Nat.ne_of_lt L4_k
          have HV4_k := Lib.hid V4_k
          have q4_n_0 : w4.cell? ⟨w.heap.size + 1 + 1 + 1, 0, none⟩ = some (.int .i64 n) := V4_n.c 0 _ rfl
          have f4_n := V4_n.2.2; have L4_n := V4_n.lt; have N4_n := Nat.ne_of_gt L4_n; have M4_n := Nat.ne_of_lt L4_n
          have HV4_n := Lib.hid V4_n
          have q4_o_0 : w4.cell? ⟨B, 0, none⟩ = some (.int .i64 0) := V4_o.c 0 _ rfl
          have f4_o := V4_o.2.2; have L4_o := V4_o.lt; have N4_o := Nat.ne_of_gt L4_o; have M4_o := Nat.ne_of_lt L4_o
          have HV4_o := Lib.hid V4_o
          have q4_c_0 : w4.cell? ⟨wc.heap.size, 0, none⟩ = some (.int .i64 0) := V4_c.c 0 _ rfl
          have f4_c := V4_c.2.2; have L4_c := V4_c.lt; have N4_c := Nat.ne_of_gt L4_c; have M4_c := Nat.ne_of_lt L4_c
          have HV4_c := Lib.hid V4_c
          have q4_w_0 : w4.cell? ⟨wc.heap.size + 1, 0, none⟩ = some (.int .i64 0) := V4_w.c 0 _ rfl
          have q4_w_1 : w4.cell? ⟨wc.heap.size + 1, 1, none⟩ = some (.int .i64 0) := V4_w.c 1 _ rfl
          have f4_w := V4_w.2.2; have L4_w := V4_w.lt; have N4_w := Nat.ne_of_gt L4_w; have M4_w := Nat.ne_of_lt L4_w
          have HV4_w := Lib.hid V4_w
          have q4_v_0 : w4.cell? ⟨wc.heap.size + 1 + 1, 0, none⟩ = some (.int .i64 x1) := V4_v.c 0 _ rfl
          have q4_v_1 : w4.cell? ⟨wc.heap.size + 1 + 1, 1, none⟩ = some (.int .i64 x2) := V4_v.c 1 _ rfl
          have f4_v := V4_v.2.2; have L4_v := V4_v.lt; have N4_v := Nat.ne_of_gt L4_v; have M4_v := Nat.ne_of_lt L4_v
          have HV4_v := Lib.hid V4_v
          have q4_y_0 : w4.cell? ⟨wc.heap.size + 1 + 1 + 1, 0, none⟩ = some (.int .i64 0) := V4_y.c 0 _ rfl
          have f4_y := V4_y.2.2; have L4_y := V4_y.lt; have N4_y := Nat.ne_of_gt L4_y; have M4_y := Nat.ne_of_lt L4_y
          have HV4_y := Lib.hid V4_y
          have S4 := G4.size; clear hb
          go_wp2_with fail
          (with_reducible refine (K1.out _ _ (M.pcell_var (by (repeat (first | (with_reducible assumption) | (with_reducible apply M.var_set45) | (with_reducible refine M.var_alloc' _ _ _ ?_; first | rfl | (simp [go_sem]; done)) | (with_reducible refine M.Var.alloc ?_ _) | (with_reducible refine M.Var.drewN ?_ _) | (with_reducible refine M.Var.drew ?_) | (with_reducible refine M.Var.far ?_ _ _ ?hFar; case hFar => (first | omega | ((try simp [go_sem]) <;> omega))) | fail)) : M.Var _ (wc.heap.size) #[.int .i64 0]))).mono ?_); rintro en w5 ⟨rfl, hb⟩
          have G5 : Below w.heap.size w w5 := Below.trans (M.below_sets_own ([(⟨wc.heap.size, 0, none⟩, .int .i64 0)]) (by have G := HGc.out; (repeat (with_reducible refine M.Below.drewN ?_ _)); go_grown) (by intro u hu; rw [M.cell_block1 hu]; dsimp only; omega)) (hb.mono (by go_size))
          have VV5 : M.Var w5 (w.heap.size) #[.int .i64 a1, .int .i64 a2] ∧ M.Var w5 (w.heap.size + 1) #[.int .i64 b1, .int .i64 b2] ∧ M.Var w5 (w.heap.size + 1 + 1) #[.int .i64 k] ∧ M.Var w5 (w.heap.size + 1 + 1 + 1) #[.int .i64 n] ∧ M.Var w5 (B) #[.int .i64 0] ∧ M.Var w5 (wc.heap.size + 1) #[.int .i64 0, .int .i64 0] ∧ M.Var w5 (wc.heap.size + 1 + 1) #[.int .i64 x1, .int .i64 x2] ∧ M.Var w5 (wc.heap.size + 1 + 1 + 1) #[.int .i64 0] := by refine ⟨?_, ?_, ?_, ?_, ?_, ?_, ?_, ?_⟩ <;> exact M.Var.mono' (u := M.sets _ ([(⟨wc.heap.size, 0, none⟩, .int .i64 0)])) (by (try simp only [M.sets_append]); exact (M.var_sets_far ([(⟨wc.heap.size, 0, none⟩, .int .i64 0)]) (by (repeat (first | (with_reducible assumption) | (with_reducible apply M.var_set45) | (with_reducible refine M.var_alloc' _ _ _ ?_; first | rfl | (simp [go_sem]; done)) | (with_reducible refine M.Var.alloc ?_ _) | (with_reducible refine M.Var.drewN ?_ _) | (with_reducible refine M.Var.drew ?_) | (with_reducible refine M.Var.far ?_ _ _ ?hFar; case hFar => (first | omega | ((try simp [go_sem]) <;> omega))) | fail))) (by intro u hu; all_goals (first | rw [M.usBx_block hu] | rw [M.usV_block hu] | rw [M.usI_block hu] | rw [M.usHt_block hu] | rw [M.usBd_block hu] | rw [M.usB_block hu] | rw [M.cell_block1 hu] | (exfalso; simp at hu; done)); all_goals ((try simp [go_sem]) <;> omega)))) (M.sets_size _ _) hb
          obtain ⟨V5_a, V5_b, V5_k, V5_n, V5_o, V5_w, V5_v, V5_y⟩ := VV5
          have V5_c : M.Var w5 (wc.heap.size) #[.int .i64 0] := M.Var.mono' (u := M.sets _ ([(⟨wc.heap.size, 0, none⟩, .int .i64 0)])) (by (try simp only [M.sets_append]); exact (M.var_setI (by (repeat (first | (with_reducible assumption) | (with_reducible apply M.var_set45) | (with_reducible refine M.var_alloc' _ _ _ ?_; first | rfl | (simp [go_sem]; done)) | (with_reducible refine M.Var.alloc ?_ _) | (with_reducible refine M.Var.drewN ?_ _) | (with_reducible refine M.Var.drew ?_) | (with_reducible refine M.Var.far ?_ _ _ ?hFar; case hFar => (first | omega | ((try simp [go_sem]) <;> omega))) | fail)) : M.Var _ (wc.heap.size) #[.int .i64 0]) _)) (M.sets_size _ _) hb
          have q5_a_0 : w5.cell? ⟨w.heap.size, 0, none⟩ = some (.int .i64 a1) := V5_a.c 0 _ rfl
          have q5_a_1 : w5.cell? ⟨w.heap.size, 1, none⟩ = some (.int .i64 a2) := V5_a.c 1 _ rfl
          have f5_a := V5_a.2.2; have L5_a := V5_a.lt; have N5_a := Nat.ne_of_gt L5_a; have M5_a := Nat.ne_of_lt L5_a
          have HV5_a := Lib.hid V5_a
          have q5_b_0 : w5.cell? ⟨w.heap.size + 1, 0, none⟩ = some (.int .i64 b1) := V5_b.c 0 _ rfl
          have q5_b_1 : w5.cell? ⟨w.heap.size + 1, 1, none⟩ = some (.int .i64 b2) := V5_b.c 1 _ rfl
          have f5_b := V5_b.2.2; have L5_b := V5_b.lt; have N5_b := Nat.ne_of_gt L5_b; have M5_b := Nat.ne_of_lt L5_b
          have HV5_b := Lib.hid V5_b
          have q5_k_0 : w5.cell? ⟨w.heap.size + 1 + 1, 0, none⟩ = some (.int .i64 k) := V5_k.c 0 _ rfl
          have f5_k := V5_k.2.2; have L5_k := V5_k.lt; have N5_k := Nat.ne_of_gt L5_k; have M5_k := Nat.ne_of_lt L5_k
          have HV5_k := Lib.hid V5_k
          have q5_n_0 : w5.cell? ⟨w.heap.size + 1 + 1 + 1, 0, none⟩ = some (.int .i64 n) := V5_n.c 0 _ rfl
          have f5_n := V5_n.2.2; have L5_n := V5_n.lt; have N5_n := Nat.ne_of_gt L5_n; have M5_n := Nat.ne_of_lt L5_n
          have HV5_n := Lib.hid V5_n
          have q5_o_0 : w5.cell? ⟨B, 0, none⟩ = some (.int .i64 0) := V5_o.c 0 _ rfl
          have f5_o := V5_o.2.2; have L5_o := V5_o.lt; have N5_o := Nat.ne_of_gt L5_o; have M5_o := Nat.ne_of_lt L5_o
          have HV5_o := Lib.hid V5_o
          have q5_c_0 : w5.cell? ⟨wc.heap.size, 0, none⟩ = some (.int .i64 0) := V5_c.c 0 _ rfl
          have f5_c := V5_c.2.2; have L5_c := V5_c.lt; have N5_c := Nat.ne_of_gt L5_c; have M5_c := Nat.ne_of_lt L5_c
          have HV5_c := Lib.hid V5_c
          have q5_w_0 : w5.cell? ⟨wc.heap.size + 1, 0, none⟩ = some (.int .i64 0) := V5_w.c 0 _ rfl
          have q5_w_1 : w5.cell? ⟨wc.heap.size + 1, 1, none⟩ = some (.int .i64 0) := V5_w.c 1 _ rfl
          have f5_w := V5_w.2.2; have L5_w := V5_w.lt; have N5_w := Nat.ne_of_gt L5_w; have M5_w := Nat.ne_of_lt L5_w
          have HV5_w := Lib.hid V5_w
          have q5_v_0 : w5.cell? ⟨wc.heap.size + 1 + 1, 0, none⟩ = some (.int .i64 x1) := V5_v.c 0 _ rfl
          have q5_v_1 : w5.cell? ⟨wc.heap.size + 1 + 1, 1, none⟩ = some (.int .i64 x2) := V5_v.c 1 _ rfl
          have f5_v := V5_v.2.2; have L5_v := V5_v.lt; have N5_v := Nat.ne_of_gt L5_v; have M5_v := Nat.ne_of_lt L5_v
          have HV5_v := Lib.hid V5_v
          have q5_y_0 : w5.cell? ⟨wc.heap.size + 1 + 1 + 1, 0, none⟩ = some (.int .i64 0) := V5_y.c 0 _ rfl
          have f5_y := V5_y.2.2; have L5_y := V5_y.lt; have N5_y := Nat.ne_of_gt L5_y; have M5_y := Nat.ne_of_lt L5_y
          have HV5_y := Lib.hid V5_y
          have S5 := G5.size; clear hb
          go_wp2_with fail
          go_roundg gf
          case measure => omega
          case rel => refine ⟨w5.heap.size, 1, by omega, by omega, rfl, by omega, ?_, ?_, ?_, ?_, ?_, by have G := G5; (repeat (with_reducible refine M.Below.drewN ?_ _)); go_grown⟩ <;> ((repeat (first | (with_reducible assumption) | (with_reducible apply M.var_setV) | (with_reducible apply M.var_setI) | (with_reducible apply M.var_setB) | (with_reducible apply M.var_setHt) | (with_reducible apply M.var_setBd) | (with_reducible apply M.var_set2) | (with_reducible apply M.var_set3) | (with_reducible apply M.var_set4) | (with_reducible apply M.var_set45) | (with_reducible apply M.var_set67) | (with_reducible apply M.var_setF) | (with_reducible refine M.var_alloc' _ _ _ ?_; first | rfl | (focus (simp [go_sem]; done))) | (with_reducible refine M.Var.alloc ?_ _) | (with_reducible refine M.Var.drewN ?_ _) | (with_reducible refine M.Var.drew ?_) | (with_reducible refine M.Var.far ?_ _ _ ?hFar; case hFar => (first | omega | ((try simp [go_sem]) <;> omega))) | fail)))
      · rcases hP : subV (a1, a2) (b1, b2) with i | ⟨x1, x2⟩
        · have z1 := bne_iff_ne.2 (nz_subV _ _ i hP); have z1b := beq_eq_false_iff_ne.2 (nz_subV _ _ i hP)
          have K1 := Lib.hid (fun pb w hp => (refLess_x pb 0 a1 a2 b1 b2 ha1 ha2 hB1 hB2 w hp).mono fun en w' h => M.relV_err hP h)
          replace hP := Lib.hid hP
          have qc_o_0 : wc.cell? ⟨B, 0, none⟩ = some (.int .i64 1) := Vc_o.c 0 _ rfl
          have fc_o := Vc_o.2.2; have Lc_o := Vc_o.lt; have Nc_o := Nat.ne_of_gt Lc_o; have Mc_o := Nat.ne_of_lt Lc_o
          have qc_a_0 : wc.cell? ⟨w.heap.size, 0, none⟩ = some (.int .i64 a1) := Vc_a.c 0 _ rfl
          have qc_a_1 : wc.cell? ⟨w.heap.size, 1, none⟩ = some (.int .i64 a2) := Vc_a.c 1 _ rfl
          have fc_a := Vc_a.2.2; have Lc_a := Vc_a.lt; have Nc_a := Nat.ne_of_gt Lc_a; have Mc_a := Nat.ne_of_lt Lc_a
          have qc_b_0 : wc.cell? ⟨w.heap.size + 1, 0, none⟩ = some (.int .i64 b1) := Vc_b.c 0 _ rfl
          have qc_b_1 : wc.cell? ⟨w.heap.size + 1, 1, none⟩ = some (.int .i64 b2) := Vc_b.c 1 _ rfl
          have fc_b := Vc_b.2.2; have Lc_b := Vc_b.lt; have Nc_b := Nat.ne_of_gt Lc_b; have Mc_b := Nat.ne_of_lt Lc_b
          have qc_k_0 : wc.cell? ⟨w.heap.size + 1 + 1, 0, none⟩ = some (.int .i64 k) := Vc_k.c 0 _ rfl
          have fc_k := Vc_k.2.2; have Lc_k := Vc_k.lt; have Nc_k := Nat.ne_of_gt Lc_k; have Mc_k := Nat.ne_of_lt Lc_k
          have qc_n_0 : wc.cell? ⟨w.heap.size + 1 + 1 + 1, 0, none⟩ = some (.int .i64 n) := Vc_n.c 0 _ rfl
          have fc_n := Vc_n.2.2; have Lc_n := Vc_n.lt; have Nc_n := Nat.ne_of_gt Lc_n; have Mc_n := Nat.ne_of_lt Lc_n
          go_wp2_with fail
          refine (try_c 110 #[.pointer (some ⟨B, 0, none⟩), .pointer (some ⟨w.heap.size, 0, none⟩), .pointer (some ⟨w.heap.size + 1, 0, none⟩), .pointer (some ⟨wc.heap.size + 1 + 1, 0, none⟩), .pointer (some ⟨w.heap.size + 1 + 1, 0, none⟩), .pointer (some ⟨wc.heap.size + 1 + 1 + 1, 0, none⟩), .pointer (some ⟨w.heap.size + 1 + 1 + 1, 0, none⟩)] _ (i) ([]) (fun _ => rfl) ?_ ?_).mono ?_
          · intro u hu; (try simp only [List.mem_append] at hu); (repeat' (obtain hu | hu := (hu : _ ∨ _))); all_goals (first | rw [M.usBx_block hu] | rw [M.usV_block hu] | rw [M.usI_block hu] | rw [M.usHt_block hu] | rw [M.usBd_block hu] | rw [M.usB_block hu] | rw [M.cell_block1 hu] | (exfalso; simp at hu; done)); all_goals ((try simp [go_sem]) <;> omega)
          · intro w1' hb; exact (cloVT1 _ _ _ _ _ _ _ a1 a2 ha1 ha2 b1 b2 hB1 hB2 _ _ (.error i : X (V)) hP.out w1' (M.Var.mono (b := B) (cs := #[.int .i64 1]) (by (repeat (first | (with_reducible assumption) | (with_reducible apply M.var_set45) | (with_reducible refine M.var_alloc' _ _ _ ?_; first | rfl | (simp [go_sem]; done)) | (with_reducible refine M.Var.alloc ?_ _) | (with_reducible refine M.Var.drewN ?_ _) | (with_reducible refine M.Var.drew ?_) | (with_reducible refine M.Var.far ?_ _ _ ?hFar; case hFar => (first | omega | ((try simp [go_sem]) <;> omega))) | fail))) hb) (M.Var.mono (b := w.heap.size) (cs := #[.int .i64 a1, .int .i64 a2]) (by (repeat (first | (with_reducible assumption) | (with_reducible apply M.var_set45) | (with_reducible refine M.var_alloc' _ _ _ ?_; first | rfl | (simp [go_sem]; done)) | (with_reducible refine M.Var.alloc ?_ _) | (with_reducible refine M.Var.drewN ?_ _) | (with_reducible refine M.Var.drew ?_) | (with_reducible refine M.Var.far ?_ _ _ ?hFar; case hFar => (first | omega | ((try simp [go_sem]) <;> omega))) | fail))) hb) (M.Var.mono (b := w.heap.size + 1) (cs := #[.int .i64 b1, .int .i64 b2]) (by (repeat (first | (with_reducible assumption) | (with_reducible apply M.var_set45) | (with_reducible refine M.var_alloc' _ _ _ ?_; first | rfl | (simp [go_sem]; done)) | (with_reducible refine M.Var.alloc ?_ _) | (with_reducible refine M.Var.drewN ?_ _) | (with_reducible refine M.Var.drew ?_) | (with_reducible refine M.Var.far ?_ _ _ ?hFar; case hFar => (first | omega | ((try simp [go_sem]) <;> omega))) | fail))) hb) (M.Var.mono (b := wc.heap.size + 1 + 1) (cs := #[.int .i64 0, .int .i64 0]) (by (repeat (first | (with_reducible assumption) | (with_reducible apply M.var_set45) | (with_reducible refine M.var_alloc' _ _ _ ?_; first | rfl | (simp [go_sem]; done)) | (with_reducible refine M.Var.alloc ?_ _) | (with_reducible refine M.Var.drewN ?_ _) | (with_reducible refine M.Var.drew ?_) | (with_reducible refine M.Var.far ?_ _ _ ?hFar; case hFar => (first | omega | ((try simp [go_sem]) <;> omega))) | fail))) hb)).mono fun e w' h => h
          rintro en w6 ⟨rfl, hb⟩
          have G6 : Below w.heap.size w w6 := Below.trans (M.below_sets_own ([]) (by have G := HGc.out; (repeat (with_reducible refine M.Below.drewN ?_ _)); go_grown) (by intro u hu; (try simp only [List.mem_append] at hu); (repeat' (obtain hu | hu := (hu : _ ∨ _))); all_goals (first | rw [M.usBx_block hu] | rw [M.usV_block hu] | rw [M.usI_block hu] | rw [M.usHt_block hu] | rw [M.usBd_block hu] | rw [M.usB_block hu] | rw [M.cell_block1 hu] | (exfalso; simp at hu; done)); all_goals ((try simp [go_sem]) <;> omega))) (hb.mono (by go_size))
          have VV6 : M.Var w6 (w.heap.size) #[.int .i64 a1, .int .i64 a2] ∧ M.Var w6 (w.heap.size + 1) #[.int .i64 b1, .int .i64 b2] ∧ M.Var w6 (w.heap.size + 1 + 1) #[.int .i64 k] ∧ M.Var w6 (w.heap.size + 1 + 1 + 1) #[.int .i64 n] ∧ M.Var w6 (B) #[.int .i64 1] ∧ M.Var w6 (wc.heap.size) #[.int .i64 0] ∧ M.Var w6 (wc.heap.size + 1) #[.int .i64 0, .int .i64 0] ∧ M.Var w6 (wc.heap.size + 1 + 1) #[.int .i64 0, .int .i64 0] ∧ M.Var w6 (wc.heap.size + 1 + 1 + 1) #[.int .i64 0] := by refine ⟨?_, ?_, ?_, ?_, ?_, ?_, ?_, ?_, ?_⟩ <;> exact M.Var.mono' (u := M.sets _ ([])) (by (try simp only [M.sets_append]); exact (M.var_sets_far ([]) (by (repeat (first | (with_reducible assumption) | (with_reducible apply M.var_set45) | (with_reducible refine M.var_alloc' _ _ _ ?_; first | rfl | (simp [go_sem]; done)) | (with_reducible refine M.Var.alloc ?_ _) | (with_reducible refine M.Var.drewN ?_ _) | (with_reducible refine M.Var.drew ?_) | (with_reducible refine M.Var.far ?_ _ _ ?hFar; case hFar => (first | omega | ((try simp [go_sem]) <;> omega))) | fail))) (by intro u hu; all_goals (first | rw [M.usBx_block hu] | rw [M.usV_block hu] | rw [M.usI_block hu] | rw [M.usHt_block hu] | rw [M.usBd_block hu] | rw [M.usB_block hu] | rw [M.cell_block1 hu] | (exfalso; simp at hu; done)); all_goals ((try simp [go_sem]) <;> omega)))) (M.sets_size _ _) hb
          obtain ⟨V6_a, V6_b, V6_k, V6_n, V6_o, V6_c, V6_w, V6_v, V6_y⟩ := VV6
          have q6_a_0 : w6.cell? ⟨w.heap.size, 0, none⟩ = some (.int .i64 a1) := V6_a.c 0 _ rfl
          have q6_a_1 : w6.cell? ⟨w.heap.size, 1, none⟩ = some (.int .i64 a2) := V6_a.c 1 _ rfl
          have f6_a := V6_a.2.2; have L6_a := V6_a.lt; have N6_a := Nat.ne_of_gt L6_a; have M6_a := Nat.ne_of_lt L6_a
          have HV6_a := Lib.hid V6_a
          have q6_b_0 : w6.cell? ⟨w.heap.size + 1, 0, none⟩ = some (.int .i64 b1) := V6_b.c 0 _ rfl
          have q6_b_1 : w6.cell? ⟨w.heap.size + 1, 1, none⟩ = some (.int .i64 b2) := V6_b.c 1 _ rfl
          have f6_b := V6_b.2.2; have L6_b := V6_b.lt; have N6_b := Nat.ne_of_gt L6_b; have M6_b := Nat.ne_of_lt L6_b
          have HV6_b := Lib.hid V6_b
          have q6_k_0 : w6.cell? ⟨w.heap.size + 1 + 1, 0, none⟩ = some (.int .i64 k) := V6_k.c 0 _ rfl
          have f6_k := V6_k.2.2; have L6_k := V6_k.lt; have N6_k := Nat.ne_of_gt L6_k; have M6_k := Nat.ne_of_lt L6_k
          have HV6_k := Lib.hid V6_k
          have q6_n_0 : w6.cell? ⟨w.heap.size + 1 + 1 + 1, 0, none⟩ = some (.int .i64 n) := V6_n.c 0 _ rfl
          have f6_n := V6_n.2.2; have L6_n := V6_n.lt; have N6_n := Nat.ne_of_gt L6_n; have M6_n := Nat.ne_of_lt L6_n
          have HV6_n := Lib.hid V6_n
          have q6_o_0 : w6.cell? ⟨B, 0, none⟩ = some (.int .i64 1) := V6_o.c 0 _ rfl
          have f6_o := V6_o.2.2; have L6_o := V6_o.lt; have N6_o := Nat.ne_of_gt L6_o; have M6_o := Nat.ne_of_lt L6_o
          have HV6_o := Lib.hid V6_o
          have q6_c_0 : w6.cell? ⟨wc.heap.size, 0, none⟩ = some (.int .i64 0) := V6_c.c 0 _ rfl
          have f6_c := V6_c.2.2; have L6_c := V6_c.lt; have N6_c := Nat.ne_of_gt L6_c; have M6_c := Nat.ne_of_lt L6_c
          have HV6_c := Lib.hid V6_c
          have q6_w_0 : w6.cell? ⟨wc.heap.size + 1, 0, none⟩ = some (.int .i64 0) := V6_w.c 0 _ rfl
          have q6_w_1 : w6.cell? ⟨wc.heap.size + 1, 1, none⟩ = some (.int .i64 0) := V6_w.c 1 _ rfl
          have f6_w := V6_w.2.2; have L6_w := V6_w.lt; have N6_w := Nat.ne_of_gt L6_w; have M6_w := Nat.ne_of_lt L6_w
          have HV6_w := Lib.hid V6_w
          have q6_v_0 : w6.cell? ⟨wc.heap.size + 1 + 1, 0, none⟩ = some (.int .i64 0) := V6_v.c 0 _ rfl
          have q6_v_1 : w6.cell? ⟨wc.heap.size + 1 + 1, 1, none⟩ = some (.int .i64 0) := V6_v.c 1 _ rfl
          have f6_v := V6_v.2.2; have L6_v := V6_v.lt; have N6_v := Nat.ne_of_gt L6_v; have M6_v := Nat.ne_of_lt L6_v
          have HV6_v := Lib.hid V6_v
          have q6_y_0 : w6.cell? ⟨wc.heap.size + 1 + 1 + 1, 0, none⟩ = some (.int .i64 0) := V6_y.c 0 _ rfl
          have f6_y := V6_y.2.2; have L6_y := V6_y.lt; have N6_y := Nat.ne_of_gt L6_y; have M6_y := Nat.ne_of_lt L6_y
          have HV6_y := Lib.hid V6_y
          have S6 := G6.size; clear hb
          go_wp2_with fail
          (with_reducible refine (K1.out _ _ (M.pcell_var (by (repeat (first | (with_reducible assumption) | (with_reducible apply M.var_set45) | (with_reducible refine M.var_alloc' _ _ _ ?_; first | rfl | (simp [go_sem]; done)) | (with_reducible refine M.Var.alloc ?_ _) | (with_reducible refine M.Var.drewN ?_ _) | (with_reducible refine M.Var.drew ?_) | (with_reducible refine M.Var.far ?_ _ _ ?hFar; case hFar => (first | omega | ((try simp [go_sem]) <;> omega))) | fail)) : M.Var _ (wc.heap.size) #[.int .i64 0]))).mono ?_); rintro en w7 ⟨⟨u1, u2, rfl⟩, hb⟩
          have G7 : Below w.heap.size w w7 := Below.trans (M.below_sets_own ([(⟨wc.heap.size, 0, none⟩, .int .i64 i)]) (by have G := HGc.out; (repeat (with_reducible refine M.Below.drewN ?_ _)); go_grown) (by intro u hu; rw [M.cell_block1 hu]; dsimp only; omega)) (hb.mono (by go_size))
          have VV7 : M.Var w7 (w.heap.size) #[.int .i64 a1, .int .i64 a2] ∧ M.Var w7 (w.heap.size + 1) #[.int .i64 b1, .int .i64 b2] ∧ M.Var w7 (w.heap.size + 1 + 1) #[.int .i64 k] ∧ M.Var w7 (w.heap.size + 1 + 1 + 1) #[.int .i64 n] ∧ M.Var w7 (B) #[.int .i64 1] ∧ M.Var w7 (wc.heap.size + 1) #[.int .i64 0, .int .i64 0] ∧ M.Var w7 (wc.heap.size + 1 + 1) #[.int .i64 0, .int .i64 0] ∧ M.Var w7 (wc.heap.size + 1 + 1 + 1) #[.int .i64 0] := by refine ⟨?_, ?_, ?_, ?_, ?_, ?_, ?_, ?_⟩ <;> exact M.Var.mono' (u := M.sets _ ([(⟨wc.heap.size, 0, none⟩, .int .i64 i)])) (by (try simp only [M.sets_append]); exact (M.var_sets_far ([(⟨wc.heap.size, 0, none⟩, .int .i64 i)]) (by (repeat (first | (with_reducible assumption) | (with_reducible apply M.var_set45) | (with_reducible refine M.var_alloc' _ _ _ ?_; first | rfl | (simp [go_sem]; done)) | (with_reducible refine M.Var.alloc ?_ _) | (with_reducible refine M.Var.drewN ?_ _) | (with_reducible refine M.Var.drew ?_) | (with_reducible refine M.Var.far ?_ _ _ ?hFar; case hFar => (first | omega | ((try simp [go_sem]) <;> omega))) | fail))) (by intro u hu; all_goals (first | rw [M.usBx_block hu] | rw [M.usV_block hu] | rw [M.usI_block hu] | rw [M.usHt_block hu] | rw [M.usBd_block hu] | rw [M.usB_block hu] | rw [M.cell_block1 hu] | (exfalso; simp at hu; done)); all_goals ((try simp [go_sem]) <;> omega)))) (M.sets_size _ _) hb
          obtain ⟨V7_a, V7_b, V7_k, V7_n, V7_o, V7_w, V7_v, V7_y⟩ := VV7
          have V7_c : M.Var w7 (wc.heap.size) #[.int .i64 i] := M.Var.mono' (u := M.sets _ ([(⟨wc.heap.size, 0, none⟩, .int .i64 i)])) (by (try simp only [M.sets_append]); exact (M.var_setI (by (repeat (first | (with_reducible assumption) | (with_reducible apply M.var_set45) | (with_reducible refine M.var_alloc' _ _ _ ?_; first | rfl | (simp [go_sem]; done)) | (with_reducible refine M.Var.alloc ?_ _) | (with_reducible refine M.Var.drewN ?_ _) | (with_reducible refine M.Var.drew ?_) | (with_reducible refine M.Var.far ?_ _ _ ?hFar; case hFar => (first | omega | ((try simp [go_sem]) <;> omega))) | fail)) : M.Var _ (wc.heap.size) #[.int .i64 0]) _)) (M.sets_size _ _) hb
          have q7_a_0 : w7.cell? ⟨w.heap.size, 0, none⟩ = some (.int .i64 a1) := V7_a.c 0 _ rfl
          have q7_a_1 : w7.cell? ⟨w.heap.size, 1, none⟩ = some (.int .i64 a2) := V7_a.c 1 _ rfl
          have f7_a := V7_a.2.2; have L7_a := V7_a.lt; have N7_a := Nat.ne_of_gt L7_a; have M7_a := Nat.ne_of_lt L7_a
          have HV7_a := Lib.hid V7_a
          have q7_b_0 : w7.cell? ⟨w.heap.size + 1, 0, none⟩ = some (.int .i64 b1) := V7_b.c 0 _ rfl
          have q7_b_1 : w7.cell? ⟨w.heap.size + 1, 1, none⟩ = some (.int .i64 b2) := V7_b.c 1 _ rfl
          have f7_b := V7_b.2.2; have L7_b := V7_b.lt; have N7_b := Nat.ne_of_gt L7_b; have M7_b := Nat.ne_of_lt L7_b
          have HV7_b := Lib.hid V7_b
          have q7_k_0 : w7.cell? ⟨w.heap.size + 1 + 1, 0, none⟩ = some (.int .i64 k) := V7_k.c 0 _ rfl
          have f7_k := V7_k.2.2; have L7_k := V7_k.lt; have N7_k := Nat.ne_of_gt L7_k; have M7_k := Nat.ne_of_lt L7_k
          have HV7_k := Lib.hid V7_k
          have q7_n_0 : w7.cell? ⟨w.heap.size + 1 + 1 + 1, 0, none⟩ = some (.int .i64 n) := V7_n.c 0 _ rfl
          have f7_n := V7_n.2.2; have L7_n := V7_n.lt; have N7_n := Nat.ne_of_gt L7_n; have M7_n := Nat.ne_of_lt L7_n
          have HV7_n := Lib.hid V7_n
          have q7_o_0 : w7.cell? ⟨B, 0, none⟩ = some (.int .i64 1) := V7_o.c 0 _ rfl
          have f7_o := V7_o.2.2; have L7_o := V7_o.lt; have N7_o := Nat.ne_of_gt L7_o; have M7_o := Nat.ne_of_lt L7_o
          have HV7_o := Lib.hid V7_o
          have q7_c_0 : w7.cell? ⟨wc.heap.size, 0, none⟩ = some (.int .i64 i) := V7_c.c 0 _ rfl
          have f7_c := V7_c.2.2; have L7_c := V7_c.lt; have N7_c := Nat.ne_of_gt L7_c; have M7_c := Nat.ne_of_lt L7_c
          have HV7_c := Lib.hid V7_c
          have q7_w_0 : w7.cell? ⟨wc.heap.size + 1, 0, none⟩ = some (.int .i64 0) := V7_w.c 0 _ rfl
          have q7_w_1 : w7.cell? ⟨wc.heap.size + 1, 1, none⟩ = some (.int .i64 0) := V7_w.c 1 _ rfl
          have f7_w := V7_w.2.2; have L7_w := V7_w.lt; have N7_w := Nat.ne_of_gt L7_w; have M7_w := Nat.ne_of_lt L7_w
          have HV7_w := Lib.hid V7_w
          have q7_v_0 : w7.cell? ⟨wc.heap.size + 1 + 1, 0, none⟩ = some (.int .i64 0) := V7_v.c 0 _ rfl
          have q7_v_1 : w7.cell? ⟨wc.heap.size + 1 + 1, 1, none⟩ = some (.int .i64 0) := V7_v.c 1 _ rfl
          have f7_v := V7_v.2.2; have L7_v := V7_v.lt; have N7_v := Nat.ne_of_gt L7_v; have M7_v := Nat.ne_of_lt L7_v
          have HV7_v := Lib.hid V7_v
          have q7_y_0 : w7.cell? ⟨wc.heap.size + 1 + 1 + 1, 0, none⟩ = some (.int .i64 0) := V7_y.c 0 _ rfl
          have f7_y := V7_y.2.2; have L7_y := V7_y.lt; have N7_y := Nat.ne_of_gt L7_y; have M7_y := Nat.ne_of_lt L7_y
          have HV7_y := Lib.hid V7_y
          have S7 := G7.size; clear hb
          go_wp2_with fail
          go_roundg gf
          case measure => omega
          case rel => refine ⟨w7.heap.size, 2, by omega, by omega, rfl, by omega, ?_, ?_, ?_, ?_, ?_, by have G := G7; (repeat (with_reducible refine M.Below.drewN ?_ _)); go_grown⟩ <;> ((repeat (first | (with_reducible assumption) | (with_reducible apply M.var_setV) | (with_reducible apply M.var_setI) | (with_reducible apply M.var_setB) | (with_reducible apply M.var_setHt) | (with_reducible apply M.var_setBd) | (with_reducible apply M.var_set2) | (with_reducible apply M.var_set3) | (with_reducible apply M.var_set4) | (with_reducible apply M.var_set45) | (with_reducible apply M.var_set67) | (with_reducible apply M.var_setF) | (with_reducible refine M.var_alloc' _ _ _ ?_; first | rfl | (focus (simp [go_sem]; done))) | (with_reducible refine M.Var.alloc ?_ _) | (with_reducible refine M.Var.drewN ?_ _) | (with_reducible refine M.Var.drew ?_) | (with_reducible refine M.Var.far ?_ _ _ ?hFar; case hFar => (first | omega | ((try simp [go_sem]) <;> omega))) | fail)))
        · skip
          have K1 := Lib.hid (fun pb w hp => (refLess_x pb 0 a1 a2 b1 b2 ha1 ha2 hB1 hB2 w hp).mono fun en w' h => M.relV_ok hP h)
          replace hP := Lib.hid hP
          have qc_o_0 : wc.cell? ⟨B, 0, none⟩ = some (.int .i64 1) := Vc_o.c 0 _ rfl
          have fc_o := Vc_o.2.2; have Lc_o := Vc_o.lt; have Nc_o := Nat.ne_of_gt Lc_o; have Mc_o := Nat.ne_of_lt Lc_o
          have qc_a_0 : wc.cell? ⟨w.heap.size, 0, none⟩ = some (.int .i64 a1) := Vc_a.c 0 _ rfl
          have qc_a_1 : wc.cell? ⟨w.heap.size, 1, none⟩ = some (.int .i64 a2) := Vc_a.c 1 _ rfl
          have fc_a := Vc_a.2.2; have Lc_a := Vc_a.lt; have Nc_a := Nat.ne_of_gt Lc_a; have Mc_a := Nat.ne_of_lt Lc_a
          have qc_b_0 : wc.cell? ⟨w.heap.size + 1, 0, none⟩ = some (.int .i64 b1) := Vc_b.c 0 _ rfl
          have qc_b_1 : wc.cell? ⟨w.heap.size + 1, 1, none⟩ = some (.int .i64 b2) := Vc_b.c 1 _ rfl
          have fc_b := Vc_b.2.2; have Lc_b := Vc_b.lt; have Nc_b := Nat.ne_of_gt Lc_b; have Mc_b := Nat.ne_of_lt Lc_b
          have qc_k_0 : wc.cell? ⟨w.heap.size + 1 + 1, 0, none⟩ = some (.int .i64 k) := Vc_k.c 0 _ rfl
          have fc_k := Vc_k.2.2; have Lc_k := Vc_k.lt; have Nc_k := Nat.ne_of_gt Lc_k; have Mc_k := Nat.ne_of_lt Lc_k
          have qc_n_0 : wc.cell? ⟨w.heap.size + 1 + 1 + 1, 0, none⟩ = some (.int .i64 n) := Vc_n.c 0 _ rfl
          have fc_n := Vc_n.2.2; have Lc_n := Vc_n.lt; have Nc_n := Nat.ne_of_gt Lc_n; have Mc_n := Nat.ne_of_lt Lc_n
          go_wp2_with fail
          refine (try_c 110 #[.pointer (some ⟨B, 0, none⟩), .pointer (some ⟨w.heap.size, 0, none⟩), .pointer (some ⟨w.heap.size + 1, 0, none⟩), .pointer (some ⟨wc.heap.size + 1 + 1, 0, none⟩), .pointer (some ⟨w.heap.size + 1 + 1, 0, none⟩), .pointer (some ⟨wc.heap.size + 1 + 1 + 1, 0, none⟩), .pointer (some ⟨w.heap.size + 1 + 1 + 1, 0, none⟩)] _ (0) (usV (wc.heap.size + 1 + 1) (.ok (x1, x2))) (fun _ => rfl) ?_ ?_).mono ?_
          · intro u hu; (try simp only [List.mem_append] at hu); (repeat' (obtain hu | hu := (hu : _ ∨ _))); all_goals (first | rw [M.usBx_block hu] | rw [M.usV_block hu] | rw [M.usI_block hu] | rw [M.usHt_block hu] | rw [M.usBd_block hu] | rw [M.usB_block hu] | rw [M.cell_block1 hu] | (exfalso; simp at hu; done)); all_goals ((try simp [go_sem]) <;> omega)
          · intro w1' hb; exact (cloVT1 _ _ _ _ _ _ _ a1 a2 ha1 ha2 b1 b2 hB1 hB2 _ _ ((.ok (x1, x2)) : X (V)) hP.out w1' (M.Var.mono (b := B) (cs := #[.int .i64 1]) (by (repeat (first | (with_reducible assumption) | (with_reducible apply M.var_set45) | (with_reducible refine M.var_alloc' _ _ _ ?_; first | rfl | (simp [go_sem]; done)) | (with_reducible refine M.Var.alloc ?_ _) | (with_reducible refine M.Var.drewN ?_ _) | (with_reducible refine M.Var.drew ?_) | (with_reducible refine M.Var.far ?_ _ _ ?hFar; case hFar => (first | omega | ((try simp [go_sem]) <;> omega))) | fail))) hb) (M.Var.mono (b := w.heap.size) (cs := #[.int .i64 a1, .int .i64 a2]) (by (repeat (first | (with_reducible assumption) | (with_reducible apply M.var_set45) | (with_reducible refine M.var_alloc' _ _ _ ?_; first | rfl | (simp [go_sem]; done)) | (with_reducible refine M.Var.alloc ?_ _) | (with_reducible refine M.Var.drewN ?_ _) | (with_reducible refine M.Var.drew ?_) | (with_reducible refine M.Var.far ?_ _ _ ?hFar; case hFar => (first | omega | ((try simp [go_sem]) <;> omega))) | fail))) hb) (M.Var.mono (b := w.heap.size + 1) (cs := #[.int .i64 b1, .int .i64 b2]) (by (repeat (first | (with_reducible assumption) | (with_reducible apply M.var_set45) | (with_reducible refine M.var_alloc' _ _ _ ?_; first | rfl | (simp [go_sem]; done)) | (with_reducible refine M.Var.alloc ?_ _) | (with_reducible refine M.Var.drewN ?_ _) | (with_reducible refine M.Var.drew ?_) | (with_reducible refine M.Var.far ?_ _ _ ?hFar; case hFar => (first | omega | ((try simp [go_sem]) <;> omega))) | fail))) hb) (M.Var.mono (b := wc.heap.size + 1 + 1) (cs := #[.int .i64 0, .int .i64 0]) (by (repeat (first | (with_reducible assumption) | (with_reducible apply M.var_set45) | (with_reducible refine M.var_alloc' _ _ _ ?_; first | rfl | (simp [go_sem]; done)) | (with_reducible refine M.Var.alloc ?_ _) | (with_reducible refine M.Var.drewN ?_ _) | (with_reducible refine M.Var.drew ?_) | (with_reducible refine M.Var.far ?_ _ _ ?hFar; case hFar => (first | omega | ((try simp [go_sem]) <;> omega))) | fail))) hb)).mono fun e w' h => h
          rintro en w8 ⟨rfl, hb⟩
          have G8 : Below w.heap.size w w8 := Below.trans (M.below_sets_own (usV (wc.heap.size + 1 + 1) (.ok (x1, x2))) (by have G := HGc.out; (repeat (with_reducible refine M.Below.drewN ?_ _)); go_grown) (by intro u hu; (try simp only [List.mem_append] at hu); (repeat' (obtain hu | hu := (hu : _ ∨ _))); all_goals (first | rw [M.usBx_block hu] | rw [M.usV_block hu] | rw [M.usI_block hu] | rw [M.usHt_block hu] | rw [M.usBd_block hu] | rw [M.usB_block hu] | rw [M.cell_block1 hu] | (exfalso; simp at hu; done)); all_goals ((try simp [go_sem]) <;> omega))) (hb.mono (by go_size))
          have VV8 : M.Var w8 (w.heap.size) #[.int .i64 a1, .int .i64 a2] ∧ M.Var w8 (w.heap.size + 1) #[.int .i64 b1, .int .i64 b2] ∧ M.Var w8 (w.heap.size + 1 + 1) #[.int .i64 k] ∧ M.Var w8 (w.heap.size + 1 + 1 + 1) #[.int .i64 n] ∧ M.Var w8 (B) #[.int .i64 1] ∧ M.Var w8 (wc.heap.size) #[.int .i64 0] ∧ M.Var w8 (wc.heap.size + 1) #[.int .i64 0, .int .i64 0] ∧ M.Var w8 (wc.heap.size + 1 + 1 + 1) #[.int .i64 0] := by refine ⟨?_, ?_, ?_, ?_, ?_, ?_, ?_, ?_⟩ <;> exact M.Var.mono' (u := M.sets _ (usV (wc.heap.size + 1 + 1) (.ok (x1, x2)))) (by (try simp only [M.sets_append]); exact (M.var_sets_far (usV (wc.heap.size + 1 + 1) (.ok (x1, x2))) (by (repeat (first | (with_reducible assumption) | (with_reducible apply M.var_set45) | (with_reducible refine M.var_alloc' _ _ _ ?_; first | rfl | (simp [go_sem]; done)) | (with_reducible refine M.Var.alloc ?_ _) | (with_reducible refine M.Var.drewN ?_ _) | (with_reducible refine M.Var.drew ?_) | (with_reducible refine M.Var.far ?_ _ _ ?hFar; case hFar => (first | omega | ((try simp [go_sem]) <;> omega))) | fail))) (by intro u hu; all_goals (first | rw [M.usBx_block hu] | rw [M.usV_block hu] | rw [M.usI_block hu] | rw [M.usHt_block hu] | rw [M.usBd_block hu] | rw [M.usB_block hu] | rw [M.cell_block1 hu] | (exfalso; simp at hu; done)); all_goals ((try simp [go_sem]) <;> omega)))) (M.sets_size _ _) hb
          obtain ⟨V8_a, V8_b, V8_k, V8_n, V8_o, V8_c, V8_w, V8_y⟩ := VV8
          have V8_v : M.Var w8 (wc.heap.size + 1 + 1) #[.int .i64 x1, .int .i64 x2] := M.Var.mono' (u := M.sets _ (usV (wc.heap.size + 1 + 1) (.ok (x1, x2)))) (by (try simp only [M.sets_append]); exact (M.var_setV (by (repeat (first | (with_reducible assumption) | (with_reducible apply M.var_set45) | (with_reducible refine M.var_alloc' _ _ _ ?_; first | rfl | (simp [go_sem]; done)) | (with_reducible refine M.Var.alloc ?_ _) | (with_reducible refine M.Var.drewN ?_ _) | (with_reducible refine M.Var.drew ?_) | (with_reducible refine M.Var.far ?_ _ _ ?hFar; case hFar => (first | omega | ((try simp [go_sem]) <;> omega))) | fail)) : M.Var _ (wc.heap.size + 1 + 1) #[.int .i64 0, .int .i64 0]) _ _)) (M.sets_size _ _) hb
          have q8_a_0 : w8.cell? ⟨w.heap.size, 0, none⟩ = some (.int .i64 a1) := V8_a.c 0 _ rfl
          have q8_a_1 : w8.cell? ⟨w.heap.size, 1, none⟩ = some (.int .i64 a2) := V8_a.c 1 _ rfl
          have f8_a := V8_a.2.2; have L8_a := V8_a.lt; have N8_a := Nat.ne_of_gt L8_a; have M8_a := Nat.ne_of_lt L8_a
          have HV8_a := Lib.hid V8_a
          have q8_b_0 : w8.cell? ⟨w.heap.size + 1, 0, none⟩ = some (.int .i64 b1) := V8_b.c 0 _ rfl
          have q8_b_1 : w8.cell? ⟨w.heap.size + 1, 1, none⟩ = some (.int .i64 b2) := V8_b.c 1 _ rfl
          have f8_b := V8_b.2.2; have L8_b := V8_b.lt; have N8_b := Nat.ne_of_gt L8_b; have M8_b := Nat.ne_of_lt L8_b
          have HV8_b := Lib.hid V8_b
          have q8_k_0 : w8.cell? ⟨w.heap.size + 1 + 1, 0, none⟩ = some (.int .i64 k) := V8_k.c 0 _ rfl
          have f8_k := V8_k.2.2; have L8_k := V8_k.lt; have N8_k := Nat.ne_of_gt L8_k; have M8_k := Nat.ne_of_lt L8_k
          have HV8_k := Lib.hid V8_k
          have q8_n_0 : w8.cell? ⟨w.heap.size + 1 + 1 + 1, 0, none⟩ = some (.int .i64 n) := V8_n.c 0 _ rfl
          have f8_n := V8_n.2.2; have L8_n := V8_n.lt; have N8_n := Nat.ne_of_gt L8_n; have M8_n := Nat.ne_of_lt L8_n
          have HV8_n := Lib.hid V8_n
          have q8_o_0 : w8.cell? ⟨B, 0, none⟩ = some (.int .i64 1) := V8_o.c 0 _ rfl
          have f8_o := V8_o.2.2; have L8_o := V8_o.lt; have N8_o := Nat.ne_of_gt L8_o; have M8_o := Nat.ne_of_lt L8_o
          have HV8_o := Lib.hid V8_o
          have q8_c_0 : w8.cell? ⟨wc.heap.size, 0, none⟩ = some (.int .i64 0) := V8_c.c 0 _ rfl
          have f8_c := V8_c.2.2; have L8_c := V8_c.lt; have N8_c := Nat.ne_of_gt L8_c; have M8_c := Nat.ne_of_lt L8_c
          have HV8_c := Lib.hid V8_c
          have q8_w_0 : w8.cell? ⟨wc.heap.size + 1, 0, none⟩ = some (.int .i64 0) := V8_w.c 0 _ rfl
          have q8_w_1 : w8.cell? ⟨wc.heap.size + 1, 1, none⟩ = some (.int .i64 0) := V8_w.c 1 _ rfl
          have f8_w := V8_w.2.2; have L8_w := V8_w.lt; have N8_w := Nat.ne_of_gt L8_w; have M8_w := Nat.ne_of_lt L8_w
          have HV8_w := Lib.hid V8_w
          have q8_v_0 : w8.cell? ⟨wc.heap.size + 1 + 1, 0, none⟩ = some (.int .i64 x1) := V8_v.c 0 _ rfl
          have q8_v_1 : w8.cell? ⟨wc.heap.size + 1 + 1, 1, none⟩ = some (.int .i64 x2) := V8_v.c 1 _ rfl
          have f8_v := V8_v.2.2; have L8_v := V8_v.lt; have N8_v := Nat.ne_of_gt L8_v; have M8_v := Nat.ne_of_lt L8_v
          have HV8_v := Lib.hid V8_v
          have q8_y_0 : w8.cell? ⟨wc.heap.size + 1 + 1 + 1, 0, none⟩ = some (.int .i64 0) := V8_y.c 0 _ rfl
          have f8_y := V8_y.2.2; have L8_y := V8_y.lt; have N8_y := Nat.ne_of_gt L8_y; have M8_y := Nat.ne_of_lt L8_y
          have HV8_y := Lib.hid V8_y
          have S8 := G8.size; clear hb
          go_wp2_with fail
          (with_reducible refine (K1.out _ _ (M.pcell_var (by (repeat (first | (with_reducible assumption) | (with_reducible apply M.var_set45) | (with_reducible refine M.var_alloc' _ _ _ ?_; first | rfl | (simp [go_sem]; done)) | (with_reducible refine M.Var.alloc ?_ _) | (with_reducible refine M.Var.drewN ?_ _) | (with_reducible refine M.Var.drew ?_) | (with_reducible refine M.Var.far ?_ _ _ ?hFar; case hFar => (first | omega | ((try simp [go_sem]) <;> omega))) | fail)) : M.Var _ (wc.heap.size) #[.int .i64 0]))).mono ?_); rintro en w9 ⟨rfl, hb⟩
          have G9 : Below w.heap.size w w9 := Below.trans (M.below_sets_own ([(⟨wc.heap.size, 0, none⟩, .int .i64 0)]) (by have G := HGc.out; (repeat (with_reducible refine M.Below.drewN ?_ _)); go_grown) (by intro u hu; rw [M.cell_block1 hu]; dsimp only; omega)) (hb.mono (by go_size))
          have VV9 : M.Var w9 (w.heap.size) #[.int .i64 a1, .int .i64 a2] ∧ M.Var w9 (w.heap.size + 1) #[.int .i64 b1, .int .i64 b2] ∧ M.Var w9 (w.heap.size + 1 + 1) #[.int .i64 k] ∧ M.Var w9 (w.heap.size + 1 + 1 + 1) #[.int .i64 n] ∧ M.Var w9 (B) #[.int .i64 1] ∧ M.Var w9 (wc.heap.size + 1) #[.int .i64 0, .int .i64 0] ∧ M.Var w9 (wc.heap.size + 1 + 1) #[.int .i64 x1, .int .i64 x2] ∧ M.Var w9 (wc.heap.size + 1 + 1 + 1) #[.int .i64 0] := by refine ⟨?_, ?_, ?_, ?_, ?_, ?_, ?_, ?_⟩ <;> exact M.Var.mono' (u := M.sets _ ([(⟨wc.heap.size, 0, none⟩, .int .i64 0)])) (by (try simp only [M.sets_append]); exact (M.var_sets_far ([(⟨wc.heap.size, 0, none⟩, .int .i64 0)]) (by (repeat (first | (with_reducible assumption) | (with_reducible apply M.var_set45) | (with_reducible refine M.var_alloc' _ _ _ ?_; first | rfl | (simp [go_sem]; done)) | (with_reducible refine M.Var.alloc ?_ _) | (with_reducible refine M.Var.drewN ?_ _) | (with_reducible refine M.Var.drew ?_) | (with_reducible refine M.Var.far ?_ _ _ ?hFar; case hFar => (first | omega | ((try simp [go_sem]) <;> omega))) | fail))) (by intro u hu; all_goals (first | rw [M.usBx_block hu] | rw [M.usV_block hu] | rw [M.usI_block hu] | rw [M.usHt_block hu] | rw [M.usBd_block hu] | rw [M.usB_block hu] | rw [M.cell_block1 hu] | (exfalso; simp at hu; done)); all_goals ((try simp [go_sem]) <;> omega)))) (M.sets_size _ _) hb
          obtain ⟨V9_a, V9_b, V9_k, V9_n, V9_o, V9_w, V9_v, V9_y⟩ := VV9
          have V9_c : M.Var w9 (wc.heap.size) #[.int .i64 0] := M.Var.mono' (u := M.sets _ ([(⟨wc.heap.size, 0, none⟩, .int .i64 0)])) (by (try simp only [M.sets_append]); exact (M.var_setI (by (repeat (first | (with_reducible assumption) | (with_reducible apply M.var_set45) | (with_reducible refine M.var_alloc' _ _ _ ?_; first | rfl | (simp [go_sem]; done)) | (with_reducible refine M.Var.alloc ?_ _) | (with_reducible refine M.Var.drewN ?_ _) | (with_reducible refine M.Var.drew ?_) | (with_reducible refine M.Var.far ?_ _ _ ?hFar; case hFar => (first | omega | ((try simp [go_sem]) <;> omega))) | fail)) : M.Var _ (wc.heap.size) #[.int .i64 0]) _)) (M.sets_size _ _) hb
          have q9_a_0 : w9.cell? ⟨w.heap.size, 0, none⟩ = some (.int .i64 a1) := V9_a.c 0 _ rfl
          have q9_a_1 : w9.cell? ⟨w.heap.size, 1, none⟩ = some (.int .i64 a2) := V9_a.c 1 _ rfl
          have f9_a := V9_a.2.2; have L9_a := V9_a.lt; have N9_a := Nat.ne_of_gt L9_a; have M9_a := Nat.ne_of_lt L9_a
          have HV9_a := Lib.hid V9_a
          have q9_b_0 : w9.cell? ⟨w.heap.size + 1, 0, none⟩ = some (.int .i64 b1) := V9_b.c 0 _ rfl
          have q9_b_1 : w9.cell? ⟨w.heap.size + 1, 1, none⟩ = some (.int .i64 b2) := V9_b.c 1 _ rfl
          have f9_b := V9_b.2.2; have L9_b := V9_b.lt; have N9_b := Nat.ne_of_gt L9_b; have M9_b := Nat.ne_of_lt L9_b
          have HV9_b := Lib.hid V9_b
          have q9_k_0 : w9.cell? ⟨w.heap.size + 1 + 1, 0, none⟩ = some (.int .i64 k) := V9_k.c 0 _ rfl
          have f9_k := V9_k.2.2; have L9_k := V9_k.lt; have N9_k := Nat.ne_of_gt L9_k; have M9_k := Nat.ne_of_lt L9_k
          have HV9_k := Lib.hid V9_k
          have q9_n_0 : w9.cell? ⟨w.heap.size + 1 + 1 + 1, 0, none⟩ = some (.int .i64 n) := V9_n.c 0 _ rfl
          have f9_n := V9_n.2.2; have L9_n := V9_n.lt; have N9_n := Nat.ne_of_gt L9_n; have M9_n := Nat.ne_of_lt L9_n
          have HV9_n := Lib.hid V9_n
          have q9_o_0 : w9.cell? ⟨B, 0, none⟩ = some (.int .i64 1) := V9_o.c 0 _ rfl
          have f9_o := V9_o.2.2; have L9_o := V9_o.lt; have N9_o := Nat.ne_of_gt L9_o; have M9_o := Nat.ne_of_lt L9_o
          have HV9_o := Lib.hid V9_o
          have q9_c_0 : w9.cell? ⟨wc.heap.size, 0, none⟩ = some (.int .i64 0) := V9_c.c 0 _ rfl
          have f9_c := V9_c.2.2; have L9_c := V9_c.lt; have N9_c := Nat.ne_of_gt L9_c; have M9_c := Nat.ne_of_lt L9_c
          have HV9_c := Lib.hid V9_c
          have q9_w_0 : w9.cell? ⟨wc.heap.size + 1, 0, none⟩ = some (.int .i64 0) := V9_w.c 0 _ rfl
          have q9_w_1 : w9.cell? ⟨wc.heap.size + 1, 1, none⟩ = some (.int .i64 0) := V9_w.c 1 _ rfl
          have f9_w := V9_w.2.2; have L9_w := V9_w.lt; have N9_w := Nat.ne_of_gt L9_w; have M9_w := Nat.ne_of_lt L9_w
          have HV9_w := Lib.hid V9_w
          have q9_v_0 : w9.cell? ⟨wc.heap.size + 1 + 1, 0, none⟩ = some (.int .i64 x1) := V9_v.c 0 _ rfl
          have q9_v_1 : w9.cell? ⟨wc.heap.size + 1 + 1, 1, none⟩ = some (.int .i64 x2) := V9_v.c 1 _ rfl
          have f9_v := V9_v.2.2; have L9_v := V9_v.lt; have N9_v := Nat.ne_of_gt L9_v; have M9_v := Nat.ne_of_lt L9_v
          have HV9_v := Lib.hid V9_v
          have q9_y_0 : w9.cell? ⟨wc.heap.size + 1 + 1 + 1, 0, none⟩ = some (.int .i64 0) := V9_y.c 0 _ rfl
          have f9_y := V9_y.2.2; have L9_y := V9_y.lt; have N9_y := Nat.ne_of_gt L9_y; have M9_y := Nat.ne_of_lt L9_y
          have HV9_y := Lib.hid V9_y
          have S9 := G9.size; clear hb
          go_wp2_with fail
          go_roundg gf
          case measure => omega
          case rel => refine ⟨w9.heap.size, 2, by omega, by omega, rfl, by omega, ?_, ?_, ?_, ?_, ?_, by have G := G9; (repeat (with_reducible refine M.Below.drewN ?_ _)); go_grown⟩ <;> ((repeat (first | (with_reducible assumption) | (with_reducible apply M.var_setV) | (with_reducible apply M.var_setI) | (with_reducible apply M.var_setB) | (with_reducible apply M.var_setHt) | (with_reducible apply M.var_setBd) | (with_reducible apply M.var_set2) | (with_reducible apply M.var_set3) | (with_reducible apply M.var_set4) | (with_reducible apply M.var_set45) | (with_reducible apply M.var_set67) | (with_reducible apply M.var_setF) | (with_reducible refine M.var_alloc' _ _ _ ?_; first | rfl | (focus (simp [go_sem]; done))) | (with_reducible refine M.Var.alloc ?_ _) | (with_reducible refine M.Var.drewN ?_ _) | (with_reducible refine M.Var.drew ?_) | (with_reducible refine M.Var.far ?_ _ _ ?hFar; case hFar => (first | omega | ((try simp [go_sem]) <;> omega))) | fail)))
      · rcases hP : scaleV (a1, a2) k with i | ⟨x1, x2⟩
        · have z1 := bne_iff_ne.2 (nz_scale _ _ i hP); have z1b := beq_eq_false_iff_ne.2 (nz_scale _ _ i hP)
          have K1 := Lib.hid (fun pb w hp => (refTimes_x pb 0 a1 a2 k ha1 ha2 hk w hp).mono fun en w' h => M.relV_err hP h)
          replace hP := Lib.hid hP
          have qc_o_0 : wc.cell? ⟨B, 0, none⟩ = some (.int .i64 2) := Vc_o.c 0 _ rfl
          have fc_o := Vc_o.2.2; have Lc_o := Vc_o.lt; have Nc_o := Nat.ne_of_gt Lc_o; have Mc_o := Nat.ne_of_lt Lc_o
          have qc_a_0 : wc.cell? ⟨w.heap.size, 0, none⟩ = some (.int .i64 a1) := Vc_a.c 0 _ rfl
          have qc_a_1 : wc.cell? ⟨w.heap.size, 1, none⟩ = some (.int .i64 a2) := Vc_a.c 1 _ rfl
          have fc_a := Vc_a.2.2; have Lc_a := Vc_a.lt; have Nc_a := Nat.ne_of_gt Lc_a; have Mc_a := Nat.ne_of_lt Lc_a
          have qc_b_0 : wc.cell? ⟨w.heap.size + 1, 0, none⟩ = some (.int .i64 b1) := Vc_b.c 0 _ rfl
          have qc_b_1 : wc.cell? ⟨w.heap.size + 1, 1, none⟩ = some (.int .i64 b2) := Vc_b.c 1 _ rfl
          have fc_b := Vc_b.2.2; have Lc_b := Vc_b.lt; have Nc_b := Nat.ne_of_gt Lc_b; have Mc_b := Nat.ne_of_lt Lc_b
          have qc_k_0 : wc.cell? ⟨w.heap.size + 1 + 1, 0, none⟩ = some (.int .i64 k) := Vc_k.c 0 _ rfl
          have fc_k := Vc_k.2.2; have Lc_k := Vc_k.lt; have Nc_k := Nat.ne_of_gt Lc_k; have Mc_k := Nat.ne_of_lt Lc_k
          have qc_n_0 : wc.cell? ⟨w.heap.size + 1 + 1 + 1, 0, none⟩ = some (.int .i64 n) := Vc_n.c 0 _ rfl
          have fc_n := Vc_n.2.2; have Lc_n := Vc_n.lt; have Nc_n := Nat.ne_of_gt Lc_n; have Mc_n := Nat.ne_of_lt Lc_n
          go_wp2_with fail
          refine (try_c 110 #[.pointer (some ⟨B, 0, none⟩), .pointer (some ⟨w.heap.size, 0, none⟩), .pointer (some ⟨w.heap.size + 1, 0, none⟩), .pointer (some ⟨wc.heap.size + 1 + 1, 0, none⟩), .pointer (some ⟨w.heap.size + 1 + 1, 0, none⟩), .pointer (some ⟨wc.heap.size + 1 + 1 + 1, 0, none⟩), .pointer (some ⟨w.heap.size + 1 + 1 + 1, 0, none⟩)] _ (i) ([]) (fun _ => rfl) ?_ ?_).mono ?_
          · intro u hu; (try simp only [List.mem_append] at hu); (repeat' (obtain hu | hu := (hu : _ ∨ _))); all_goals (first | rw [M.usBx_block hu] | rw [M.usV_block hu] | rw [M.usI_block hu] | rw [M.usHt_block hu] | rw [M.usBd_block hu] | rw [M.usB_block hu] | rw [M.cell_block1 hu] | (exfalso; simp at hu; done)); all_goals ((try simp [go_sem]) <;> omega)
          · intro w1' hb; exact (cloVT2 _ _ _ _ _ _ _ a1 a2 ha1 ha2 k hk _ _ (.error i : X (V)) hP.out w1' (M.Var.mono (b := B) (cs := #[.int .i64 2]) (by (repeat (first | (with_reducible assumption) | (with_reducible apply M.var_set45) | (with_reducible refine M.var_alloc' _ _ _ ?_; first | rfl | (simp [go_sem]; done)) | (with_reducible refine M.Var.alloc ?_ _) | (with_reducible refine M.Var.drewN ?_ _) | (with_reducible refine M.Var.drew ?_) | (with_reducible refine M.Var.far ?_ _ _ ?hFar; case hFar => (first | omega | ((try simp [go_sem]) <;> omega))) | fail))) hb) (M.Var.mono (b := w.heap.size) (cs := #[.int .i64 a1, .int .i64 a2]) (by (repeat (first | (with_reducible assumption) | (with_reducible apply M.var_set45) | (with_reducible refine M.var_alloc' _ _ _ ?_; first | rfl | (simp [go_sem]; done)) | (with_reducible refine M.Var.alloc ?_ _) | (with_reducible refine M.Var.drewN ?_ _) | (with_reducible refine M.Var.drew ?_) | (with_reducible refine M.Var.far ?_ _ _ ?hFar; case hFar => (first | omega | ((try simp [go_sem]) <;> omega))) | fail))) hb) (M.Var.mono (b := w.heap.size + 1 + 1) (cs := #[.int .i64 k]) (by (repeat (first | (with_reducible assumption) | (with_reducible apply M.var_set45) | (with_reducible refine M.var_alloc' _ _ _ ?_; first | rfl | (simp [go_sem]; done)) | (with_reducible refine M.Var.alloc ?_ _) | (with_reducible refine M.Var.drewN ?_ _) | (with_reducible refine M.Var.drew ?_) | (with_reducible refine M.Var.far ?_ _ _ ?hFar; case hFar => (first | omega | ((try simp [go_sem]) <;> omega))) | fail))) hb) (M.Var.mono (b := wc.heap.size + 1 + 1) (cs := #[.int .i64 0, .int .i64 0]) (by (repeat (first | (with_reducible assumption) | (with_reducible apply M.var_set45) | (with_reducible refine M.var_alloc' _ _ _ ?_; first | rfl | (simp [go_sem]; done)) | (with_reducible refine M.Var.alloc ?_ _) | (with_reducible refine M.Var.drewN ?_ _) | (with_reducible refine M.Var.drew ?_) | (with_reducible refine M.Var.far ?_ _ _ ?hFar; case hFar => (first | omega | ((try simp [go_sem]) <;> omega))) | fail))) hb)).mono fun e w' h => h
          rintro en w10 ⟨rfl, hb⟩
          have G10 : Below w.heap.size w w10 := Below.trans (M.below_sets_own ([]) (by have G := HGc.out; (repeat (with_reducible refine M.Below.drewN ?_ _)); go_grown) (by intro u hu; (try simp only [List.mem_append] at hu); (repeat' (obtain hu | hu := (hu : _ ∨ _))); all_goals (first | rw [M.usBx_block hu] | rw [M.usV_block hu] | rw [M.usI_block hu] | rw [M.usHt_block hu] | rw [M.usBd_block hu] | rw [M.usB_block hu] | rw [M.cell_block1 hu] | (exfalso; simp at hu; done)); all_goals ((try simp [go_sem]) <;> omega))) (hb.mono (by go_size))
          have VV10 : M.Var w10 (w.heap.size) #[.int .i64 a1, .int .i64 a2] ∧ M.Var w10 (w.heap.size + 1) #[.int .i64 b1, .int .i64 b2] ∧ M.Var w10 (w.heap.size + 1 + 1) #[.int .i64 k] ∧ M.Var w10 (w.heap.size + 1 + 1 + 1) #[.int .i64 n] ∧ M.Var w10 (B) #[.int .i64 2] ∧ M.Var w10 (wc.heap.size) #[.int .i64 0] ∧ M.Var w10 (wc.heap.size + 1) #[.int .i64 0, .int .i64 0] ∧ M.Var w10 (wc.heap.size + 1 + 1) #[.int .i64 0, .int .i64 0] ∧ M.Var w10 (wc.heap.size + 1 + 1 + 1) #[.int .i64 0] := by refine ⟨?_, ?_, ?_, ?_, ?_, ?_, ?_, ?_, ?_⟩ <;> exact M.Var.mono' (u := M.sets _ ([])) (by (try simp only [M.sets_append]); exact (M.var_sets_far ([]) (by (repeat (first | (with_reducible assumption) | (with_reducible apply M.var_set45) | (with_reducible refine M.var_alloc' _ _ _ ?_; first | rfl | (simp [go_sem]; done)) | (with_reducible refine M.Var.alloc ?_ _) | (with_reducible refine M.Var.drewN ?_ _) | (with_reducible refine M.Var.drew ?_) | (with_reducible refine M.Var.far ?_ _ _ ?hFar; case hFar => (first | omega | ((try simp [go_sem]) <;> omega))) | fail))) (by intro u hu; all_goals (first | rw [M.usBx_block hu] | rw [M.usV_block hu] | rw [M.usI_block hu] | rw [M.usHt_block hu] | rw [M.usBd_block hu] | rw [M.usB_block hu] | rw [M.cell_block1 hu] | (exfalso; simp at hu; done)); all_goals ((try simp [go_sem]) <;> omega)))) (M.sets_size _ _) hb
          obtain ⟨V10_a, V10_b, V10_k, V10_n, V10_o, V10_c, V10_w, V10_v, V10_y⟩ := VV10
          have q10_a_0 : w10.cell? ⟨w.heap.size, 0, none⟩ = some (.int .i64 a1) := V10_a.c 0 _ rfl
          have q10_a_1 : w10.cell? ⟨w.heap.size, 1, none⟩ = some (.int .i64 a2) := V10_a.c 1 _ rfl
          have f10_a := V10_a.2.2; have L10_a := V10_a.lt; have N10_a := Nat.ne_of_gt L10_a; have M10_a := Nat.ne_of_lt L10_a
          have HV10_a := Lib.hid V10_a
          have q10_b_0 : w10.cell? ⟨w.heap.size + 1, 0, none⟩ = some (.int .i64 b1) := V10_b.c 0 _ rfl
          have q10_b_1 : w10.cell? ⟨w.heap.size + 1, 1, none⟩ = some (.int .i64 b2) := V10_b.c 1 _ rfl
          have f10_b := V10_b.2.2; have L10_b := V10_b.lt; have N10_b := Nat.ne_of_gt L10_b; have M10_b := Nat.ne_of_lt L10_b
          have HV10_b := Lib.hid V10_b
          have q10_k_0 : w10.cell? ⟨w.heap.size + 1 + 1, 0, none⟩ = some (.int .i64 k) := V10_k.c 0 _ rfl
          have f10_k := V10_k.2.2; have L10_k := V10_k.lt; have N10_k := Nat.ne_of_gt L10_k; have M10_k := Nat.ne_of_lt L10_k
          have HV10_k := Lib.hid V10_k
          have q10_n_0 : w10.cell? ⟨w.heap.size + 1 + 1 + 1, 0, none⟩ = some (.int .i64 n) := V10_n.c 0 _ rfl
          have f10_n := V10_n.2.2; have L10_n := V10_n.lt; have N10_n := Nat.ne_of_gt L10_n; have M10_n := Nat.ne_of_lt L10_n
          have HV10_n := Lib.hid V10_n
          have q10_o_0 : w10.cell? ⟨B, 0, none⟩ = some (.int .i64 2) := V10_o.c 0 _ rfl
          have f10_o := V10_o.2.2; have L10_o := V10_o.lt; have N10_o := Nat.ne_of_gt L10_o; have M10_o := Nat.ne_of_lt L10_o
          have HV10_o := Lib.hid V10_o
          have q10_c_0 : w10.cell? ⟨wc.heap.size, 0, none⟩ = some (.int .i64 0) := V10_c.c 0 _ rfl
          have f10_c := V10_c.2.2; have L10_c := V10_c.lt; have N10_c := Nat.ne_of_gt L10_c; have M10_c := Nat.ne_of_lt L10_c
          have HV10_c := Lib.hid V10_c
          have q10_w_0 : w10.cell? ⟨wc.heap.size + 1, 0, none⟩ = some (.int .i64 0) := V10_w.c 0 _ rfl
          have q10_w_1 : w10.cell? ⟨wc.heap.size + 1, 1, none⟩ = some (.int .i64 0) := V10_w.c 1 _ rfl
          have f10_w := V10_w.2.2; have L10_w := V10_w.lt; have N10_w := Nat.ne_of_gt L10_w; have M10_w := Nat.ne_of_lt L10_w
          have HV10_w := Lib.hid V10_w
          have q10_v_0 : w10.cell? ⟨wc.heap.size + 1 + 1, 0, none⟩ = some (.int .i64 0) := V10_v.c 0 _ rfl
          have q10_v_1 : w10.cell? ⟨wc.heap.size + 1 + 1, 1, none⟩ = some (.int .i64 0) := V10_v.c 1 _ rfl
          have f10_v := V10_v.2.2; have L10_v := V10_v.lt; have N10_v := Nat.ne_of_gt L10_v; have M10_v := Nat.ne_of_lt L10_v
          have HV10_v := Lib.hid V10_v
          have q10_y_0 : w10.cell? ⟨wc.heap.size + 1 + 1 + 1, 0, none⟩ = some (.int .i64 0) := V10_y.c 0 _ rfl
          have f10_y := V10_y.2.2; have L10_y := V10_y.lt; have N10_y := Nat.ne_of_gt L10_y; have M10_y := Nat.ne_of_lt L10_y
          have HV10_y := Lib.hid V10_y
          have S10 := G10.size; clear hb
          go_wp2_with fail
          (with_reducible refine (K1.out _ _ (M.pcell_var (by (repeat (first | (with_reducible assumption) | (with_reducible apply M.var_set45) | (with_reducible refine M.var_alloc' _ _ _ ?_; first | rfl | (simp [go_sem]; done)) | (with_reducible refine M.Var.alloc ?_ _) | (with_reducible refine M.Var.drewN ?_ _) | (with_reducible refine M.Var.drew ?_) | (with_reducible refine M.Var.far ?_ _ _ ?hFar; case hFar => (first | omega | ((try simp [go_sem]) <;> omega))) | fail)) : M.Var _ (wc.heap.size) #[.int .i64 0]))).mono ?_); rintro en w11 ⟨⟨u1, u2, rfl⟩, hb⟩
          have G11 : Below w.heap.size w w11 := Below.trans (M.below_sets_own ([(⟨wc.heap.size, 0, none⟩, .int .i64 i)]) (by have G := HGc.out; (repeat (with_reducible refine M.Below.drewN ?_ _)); go_grown) (by intro u hu; rw [M.cell_block1 hu]; dsimp only; omega)) (hb.mono (by go_size))
          have VV11 : M.Var w11 (w.heap.size) #[.int .i64 a1, .int .i64 a2] ∧ M.Var w11 (w.heap.size + 1) #[.int .i64 b1, .int .i64 b2] ∧ M.Var w11 (w.heap.size + 1 + 1) #[.int .i64 k] ∧ M.Var w11 (w.heap.size + 1 + 1 + 1) #[.int .i64 n] ∧ M.Var w11 (B) #[.int .i64 2] ∧ M.Var w11 (wc.heap.size + 1) #[.int .i64 0, .int .i64 0] ∧ M.Var w11 (wc.heap.size + 1 + 1) #[.int .i64 0, .int .i64 0] ∧ M.Var w11 (wc.heap.size + 1 + 1 + 1) #[.int .i64 0] := by refine ⟨?_, ?_, ?_, ?_, ?_, ?_, ?_, ?_⟩ <;> exact M.Var.mono' (u := M.sets _ ([(⟨wc.heap.size, 0, none⟩, .int .i64 i)])) (by (try simp only [M.sets_append]); exact (M.var_sets_far ([(⟨wc.heap.size, 0, none⟩, .int .i64 i)]) (by (repeat (first | (with_reducible assumption) | (with_reducible apply M.var_set45) | (with_reducible refine M.var_alloc' _ _ _ ?_; first | rfl | (simp [go_sem]; done)) | (with_reducible refine M.Var.alloc ?_ _) | (with_reducible refine M.Var.drewN ?_ _) | (with_reducible refine M.Var.drew ?_) | (with_reducible refine M.Var.far ?_ _ _ ?hFar; case hFar => (first | omega | ((try simp [go_sem]) <;> omega))) | fail))) (by intro u hu; all_goals (first | rw [M.usBx_block hu] | rw [M.usV_block hu] | rw [M.usI_block hu] | rw [M.usHt_block hu] | rw [M.usBd_block hu] | rw [M.usB_block hu] | rw [M.cell_block1 hu] | (exfalso; simp at hu; done)); all_goals ((try simp [go_sem]) <;> omega)))) (M.sets_size _ _) hb
          obtain ⟨V11_a, V11_b, V11_k, V11_n, V11_o, V11_w, V11_v, V11_y⟩ := VV11
          have V11_c : M.Var w11 (wc.heap.size) #[.int .i64 i] := M.Var.mono' (u := M.sets _ ([(⟨wc.heap.size, 0, none⟩, .int .i64 i)])) (by (try simp only [M.sets_append]); exact (M.var_setI (by (repeat (first | (with_reducible assumption) | (with_reducible apply M.var_set45) | (with_reducible refine M.var_alloc' _ _ _ ?_; first | rfl | (simp [go_sem]; done)) | (with_reducible refine M.Var.alloc ?_ _) | (with_reducible refine M.Var.drewN ?_ _) | (with_reducible refine M.Var.drew ?_) | (with_reducible refine M.Var.far ?_ _ _ ?hFar; case hFar => (first | omega | ((try simp [go_sem]) <;> omega))) | fail)) : M.Var _ (wc.heap.size) #[.int .i64 0]) _)) (M.sets_size _ _) hb
          have q11_a_0 : w11.cell? ⟨w.heap.size, 0, none⟩ = some (.int .i64 a1) := V11_a.c 0 _ rfl
          have q11_a_1 : w11.cell? ⟨w.heap.size, 1, none⟩ = some (.int .i64 a2) := V11_a.c 1 _ rfl
          have f11_a := V11_a.2.2; have L11_a := V11_a.lt; have N11_a := Nat.ne_of_gt L11_a; have M11_a := Nat.ne_of_lt L11_a
          have HV11_a := Lib.hid V11_a
          have q11_b_0 : w11.cell? ⟨w.heap.size + 1, 0, none⟩ = some (.int .i64 b1) := V11_b.c 0 _ rfl
          have q11_b_1 : w11.cell? ⟨w.heap.size + 1, 1, none⟩ = some (.int .i64 b2) := V11_b.c 1 _ rfl
          have f11_b := V11_b.2.2; have L11_b := V11_b.lt; have N11_b := Nat.ne_of_gt L11_b; have M11_b := Nat.ne_of_lt L11_b
          have HV11_b := Lib.hid V11_b
          have q11_k_0 : w11.cell? ⟨w.heap.size + 1 + 1, 0, none⟩ = some (.int .i64 k) := V11_k.c 0 _ rfl
          have f11_k := V11_k.2.2; have L11_k := V11_k.lt; have N11_k := Nat.ne_of_gt L11_k; have M11_k := Nat.ne_of_lt L11_k
          have HV11_k := Lib.hid V11_k
          have q11_n_0 : w11.cell? ⟨w.heap.size + 1 + 1 + 1, 0, none⟩ = some (.int .i64 n) := V11_n.c 0 _ rfl
          have f11_n := V11_n.2.2; have L11_n := V11_n.lt; have N11_n := Nat.ne_of_gt L11_n; have M11_n := Nat.ne_of_lt L11_n
          have HV11_n := Lib.hid V11_n
          have q11_o_0 : w11.cell? ⟨B, 0, none⟩ = some (.int .i64 2) := V11_o.c 0 _ rfl
          have f11_o := V11_o.2.2; have L11_o := V11_o.lt; have N11_o := Nat.ne_of_gt L11_o; have M11_o := Nat.ne_of_lt L11_o
          have HV11_o := Lib.hid V11_o
          have q11_c_0 : w11.cell? ⟨wc.heap.size, 0, none⟩ = some (.int .i64 i) := V11_c.c 0 _ rfl
          have f11_c := V11_c.2.2; have L11_c := V11_c.lt; have N11_c := Nat.ne_of_gt L11_c; have M11_c := Nat.ne_of_lt L11_c
          have HV11_c := Lib.hid V11_c
          have q11_w_0 : w11.cell? ⟨wc.heap.size + 1, 0, none⟩ = some (.int .i64 0) := V11_w.c 0 _ rfl
          have q11_w_1 : w11.cell? ⟨wc.heap.size + 1, 1, none⟩ = some (.int .i64 0) := V11_w.c 1 _ rfl
          have f11_w := V11_w.2.2; have L11_w := V11_w.lt; have N11_w := Nat.ne_of_gt L11_w; have M11_w := Nat.ne_of_lt L11_w
          have HV11_w := Lib.hid V11_w
          have q11_v_0 : w11.cell? ⟨wc.heap.size + 1 + 1, 0, none⟩ = some (.int .i64 0) := V11_v.c 0 _ rfl
          have q11_v_1 : w11.cell? ⟨wc.heap.size + 1 + 1, 1, none⟩ = some (.int .i64 0) := V11_v.c 1 _ rfl
          have f11_v := V11_v.2.2; have L11_v := V11_v.lt; have N11_v := Nat.ne_of_gt L11_v; have M11_v := Nat.ne_of_lt L11_v
          have HV11_v := Lib.hid V11_v
          have q11_y_0 : w11.cell? ⟨wc.heap.size + 1 + 1 + 1, 0, none⟩ = some (.int .i64 0) := V11_y.c 0 _ rfl
          have f11_y := V11_y.2.2; have L11_y := V11_y.lt; have N11_y := Nat.ne_of_gt L11_y; have M11_y := Nat.ne_of_lt L11_y
          have HV11_y := Lib.hid V11_y
          have S11 := G11.size; clear hb
          go_wp2_with fail
          go_roundg gf
          case measure => omega
          case rel => refine ⟨w11.heap.size, 3, by omega, by omega, rfl, by omega, ?_, ?_, ?_, ?_, ?_, by have G := G11; (repeat (with_reducible refine M.Below.drewN ?_ _)); go_grown⟩ <;> ((repeat (first | (with_reducible assumption) | (with_reducible apply M.var_setV) | (with_reducible apply M.var_setI) | (with_reducible apply M.var_setB) | (with_reducible apply M.var_setHt) | (with_reducible apply M.var_setBd) | (with_reducible apply M.var_set2) | (with_reducible apply M.var_set3) | (with_reducible apply M.var_set4) | (with_reducible apply M.var_set45) | (with_reducible apply M.var_set67) | (with_reducible apply M.var_setF) | (with_reducible refine M.var_alloc' _ _ _ ?_; first | rfl | (focus (simp [go_sem]; done))) | (with_reducible refine M.Var.alloc ?_ _) | (with_reducible refine M.Var.drewN ?_ _) | (with_reducible refine M.Var.drew ?_) | (with_reducible refine M.Var.far ?_ _ _ ?hFar; case hFar => (first | omega | ((try simp [go_sem]) <;> omega))) | fail)))
        · skip
          have K1 := Lib.hid (fun pb w hp => (refTimes_x pb 0 a1 a2 k ha1 ha2 hk w hp).mono fun en w' h => M.relV_ok hP h)
          replace hP := Lib.hid hP
          have qc_o_0 : wc.cell? ⟨B, 0, none⟩ = some (.int .i64 2) := Vc_o.c 0 _ rfl
          have fc_o := Vc_o.2.2; have Lc_o := Vc_o.lt; have Nc_o := Nat.ne_of_gt Lc_o; have Mc_o := Nat.ne_of_lt Lc_o
          have qc_a_0 : wc.cell? ⟨w.heap.size, 0, none⟩ = some (.int .i64 a1) := Vc_a.c 0 _ rfl
          have qc_a_1 : wc.cell? ⟨w.heap.size, 1, none⟩ = some (.int .i64 a2) := Vc_a.c 1 _ rfl
          have fc_a := Vc_a.2.2; have Lc_a := Vc_a.lt; have Nc_a := Nat.ne_of_gt Lc_a; have Mc_a := Nat.ne_of_lt Lc_a
          have qc_b_0 : wc.cell? ⟨w.heap.size + 1, 0, none⟩ = some (.int .i64 b1) := Vc_b.c 0 _ rfl
          have qc_b_1 : wc.cell? ⟨w.heap.size + 1, 1, none⟩ = some (.int .i64 b2) := Vc_b.c 1 _ rfl
          have fc_b := Vc_b.2.2; have Lc_b := Vc_b.lt; have Nc_b := Nat.ne_of_gt Lc_b; have Mc_b := Nat.ne_of_lt Lc_b
          have qc_k_0 : wc.cell? ⟨w.heap.size + 1 + 1, 0, none⟩ = some (.int .i64 k) := Vc_k.c 0 _ rfl
          have fc_k := Vc_k.2.2; have Lc_k := Vc_k.lt; have Nc_k := Nat.ne_of_gt Lc_k; have Mc_k := Nat.ne_of_lt Lc_k
          have qc_n_0 : wc.cell? ⟨w.heap.size + 1 + 1 + 1, 0, none⟩ = some (.int .i64 n) := Vc_n.c 0 _ rfl
          have fc_n := Vc_n.2.2; have Lc_n := Vc_n.lt; have Nc_n := Nat.ne_of_gt Lc_n; have Mc_n := Nat.ne_of_lt Lc_n
          go_wp2_with fail
          refine (try_c 110 #[.pointer (some ⟨B, 0, none⟩), .pointer (some ⟨w.heap.size, 0, none⟩), .pointer (some ⟨w.heap.size + 1, 0, none⟩), .pointer (some ⟨wc.heap.size + 1 + 1, 0, none⟩), .pointer (some ⟨w.heap.size + 1 + 1, 0, none⟩), .pointer (some ⟨wc.heap.size + 1 + 1 + 1, 0, none⟩), .pointer (some ⟨w.heap.size + 1 + 1 + 1, 0, none⟩)] _ (0) (usV (wc.heap.size + 1 + 1) (.ok (x1, x2))) (fun _ => rfl) ?_ ?_).mono ?_
          · intro u hu; (try simp only [List.mem_append] at hu); (repeat' (obtain hu | hu := (hu : _ ∨ _))); all_goals (first | rw [M.usBx_block hu] | rw [M.usV_block hu] | rw [M.usI_block hu] | rw [M.usHt_block hu] | rw [M.usBd_block hu] | rw [M.usB_block hu] | rw [M.cell_block1 hu] | (exfalso; simp at hu; done)); all_goals ((try simp [go_sem]) <;> omega)
          · intro w1' hb; exact (cloVT2 _ _ _ _ _ _ _ a1 a2 ha1 ha2 k hk _ _ ((.ok (x1, x2)) : X (V)) hP.out w1' (M.Var.mono (b := B) (cs := #[.int .i64 2]) (by (repeat (first | (with_reducible assumption) | (with_reducible apply M.var_set45) | (with_reducible refine M.var_alloc' _ _ _ ?_; first | rfl | (simp [go_sem]; done)) | (with_reducible refine M.Var.alloc ?_ _) | (with_reducible refine M.Var.drewN ?_ _) | (with_reducible refine M.Var.drew ?_) | (with_reducible refine M.Var.far ?_ _ _ ?hFar; case hFar => (first | omega | ((try simp [go_sem]) <;> omega))) | fail))) hb) (M.Var.mono (b := w.heap.size) (cs := #[.int .i64 a1, .int .i64 a2]) (by (repeat (first | (with_reducible assumption) | (with_reducible apply M.var_set45) | (with_reducible refine M.var_alloc' _ _ _ ?_; first | rfl | (simp [go_sem]; done)) | (with_reducible refine M.Var.alloc ?_ _) | (with_reducible refine M.Var.drewN ?_ _) | (with_reducible refine M.Var.drew ?_) | (with_reducible refine M.Var.far ?_ _ _ ?hFar; case hFar => (first | omega | ((try simp [go_sem]) <;> omega))) | fail))) hb) (M.Var.mono (b := w.heap.size + 1 + 1) (cs := #[.int .i64 k]) (by (repeat (first | (with_reducible assumption) | (with_reducible apply M.var_set45) | (with_reducible refine M.var_alloc' _ _ _ ?_; first | rfl | (simp [go_sem]; done)) | (with_reducible refine M.Var.alloc ?_ _) | (with_reducible refine M.Var.drewN ?_ _) | (with_reducible refine M.Var.drew ?_) | (with_reducible refine M.Var.far ?_ _ _ ?hFar; case hFar => (first | omega | ((try simp [go_sem]) <;> omega))) | fail))) hb) (M.Var.mono (b := wc.heap.size + 1 + 1) (cs := #[.int .i64 0, .int .i64 0]) (by (repeat (first | (with_reducible assumption) | (with_reducible apply M.var_set45) | (with_reducible refine M.var_alloc' _ _ _ ?_; first | rfl | (simp [go_sem]; done)) | (with_reducible refine M.Var.alloc ?_ _) | (with_reducible refine M.Var.drewN ?_ _) | (with_reducible refine M.Var.drew ?_) | (with_reducible refine M.Var.far ?_ _ _ ?hFar; case hFar => (first | omega | ((try simp [go_sem]) <;> omega))) | fail))) hb)).mono fun e w' h => h
          rintro en w12 ⟨rfl, hb⟩
          have G12 : Below w.heap.size w w12 := Below.trans (M.below_sets_own (usV (wc.heap.size + 1 + 1) (.ok (x1, x2))) (by have G := HGc.out; (repeat (with_reducible refine M.Below.drewN ?_ _)); go_grown) (by intro u hu; (try simp only [List.mem_append] at hu); (repeat' (obtain hu | hu := (hu : _ ∨ _))); all_goals (first | rw [M.usBx_block hu] | rw [M.usV_block hu] | rw [M.usI_block hu] | rw [M.usHt_block hu] | rw [M.usBd_block hu] | rw [M.usB_block hu] | rw [M.cell_block1 hu] | (exfalso; simp at hu; done)); all_goals ((try simp [go_sem]) <;> omega))) (hb.mono (by go_size))
          have VV12 : M.Var w12 (w.heap.size) #[.int .i64 a1, .int .i64 a2] ∧ M.Var w12 (w.heap.size + 1) #[.int .i64 b1, .int .i64 b2] ∧ M.Var w12 (w.heap.size + 1 + 1) #[.int .i64 k] ∧ M.Var w12 (w.heap.size + 1 + 1 + 1) #[.int .i64 n] ∧ M.Var w12 (B) #[.int .i64 2] ∧ M.Var w12 (wc.heap.size) #[.int .i64 0] ∧ M.Var w12 (wc.heap.size + 1) #[.int .i64 0, .int .i64 0] ∧ M.Var w12 (wc.heap.size + 1 + 1 + 1) #[.int .i64 0] := by refine ⟨?_, ?_, ?_, ?_, ?_, ?_, ?_, ?_⟩ <;> exact M.Var.mono' (u := M.sets _ (usV (wc.heap.size + 1 + 1) (.ok (x1, x2)))) (by (try simp only [M.sets_append]); exact (M.var_sets_far (usV (wc.heap.size + 1 + 1) (.ok (x1, x2))) (by (repeat (first | (with_reducible assumption) | (with_reducible apply M.var_set45) | (with_reducible refine M.var_alloc' _ _ _ ?_; first | rfl | (simp [go_sem]; done)) | (with_reducible refine M.Var.alloc ?_ _) | (with_reducible refine M.Var.drewN ?_ _) | (with_reducible refine M.Var.drew ?_) | (with_reducible refine M.Var.far ?_ _ _ ?hFar; case hFar => (first | omega | ((try simp [go_sem]) <;> omega))) | fail))) (by intro u hu; all_goals (first | rw [M.usBx_block hu] | rw [M.usV_block hu] | rw [M.usI_block hu] | rw [M.usHt_block hu] | rw [M.usBd_block hu] | rw [M.usB_block hu] | rw [M.cell_block1 hu] | (exfalso; simp at hu; done)); all_goals ((try simp [go_sem]) <;> omega)))) (M.sets_size _ _) hb
          obtain ⟨V12_a, V12_b, V12_k, V12_n, V12_o, V12_c, V12_w, V12_y⟩ := VV12
          have V12_v : M.Var w12 (wc.heap.size + 1 + 1) #[.int .i64 x1, .int .i64 x2] := M.Var.mono' (u := M.sets _ (usV (wc.heap.size + 1 + 1) (.ok (x1, x2)))) (by (try simp only [M.sets_append]); exact (M.var_setV (by (repeat (first | (with_reducible assumption) | (with_reducible apply M.var_set45) | (with_reducible refine M.var_alloc' _ _ _ ?_; first | rfl | (simp [go_sem]; done)) | (with_reducible refine M.Var.alloc ?_ _) | (with_reducible refine M.Var.drewN ?_ _) | (with_reducible refine M.Var.drew ?_) | (with_reducible refine M.Var.far ?_ _ _ ?hFar; case hFar => (first | omega | ((try simp [go_sem]) <;> omega))) | fail)) : M.Var _ (wc.heap.size + 1 + 1) #[.int .i64 0, .int .i64 0]) _ _)) (M.sets_size _ _) hb
          have q12_a_0 : w12.cell? ⟨w.heap.size, 0, none⟩ = some (.int .i64 a1) := V12_a.c 0 _ rfl
          have q12_a_1 : w12.cell? ⟨w.heap.size, 1, none⟩ = some (.int .i64 a2) := V12_a.c 1 _ rfl
          have f12_a := V12_a.2.2; have L12_a := V12_a.lt; have N12_a := Nat.ne_of_gt L12_a; have M12_a := Nat.ne_of_lt L12_a
          have HV12_a := Lib.hid V12_a
          have q12_b_0 : w12.cell? ⟨w.heap.size + 1, 0, none⟩ = some (.int .i64 b1) := V12_b.c 0 _ rfl
          have q12_b_1 : w12.cell? ⟨w.heap.size + 1, 1, none⟩ = some (.int .i64 b2) := V12_b.c 1 _ rfl
          have f12_b := V12_b.2.2; have L12_b := V12_b.lt; have N12_b := Nat.ne_of_gt L12_b; have M12_b := Nat.ne_of_lt L12_b
          have HV12_b := Lib.hid V12_b
          have q12_k_0 : w12.cell? ⟨w.heap.size + 1 + 1, 0, none⟩ = some (.int .i64 k) := V12_k.c 0 _ rfl
          have f12_k := V12_k.2.2; have L12_k := V12_k.lt; have N12_k := Nat.ne_of_gt L12_k; have M12_k := Nat.ne_of_lt L12_k
          have HV12_k := Lib.hid V12_k
          have q12_n_0 : w12.cell? ⟨w.heap.size + 1 + 1 + 1, 0, none⟩ = some (.int .i64 n) := V12_n.c 0 _ rfl
          have f12_n := V12_n.2.2; have L12_n := V12_n.lt; have N12_n := Nat.ne_of_gt L12_n; have M12_n := Nat.ne_of_lt L12_n
          have HV12_n := Lib.hid V12_n
          have q12_o_0 : w12.cell? ⟨B, 0, none⟩ = some (.int .i64 2) := V12_o.c 0 _ rfl
          have f12_o := V12_o.2.2; have L12_o := V12_o.lt; have N12_o := Nat.ne_of_gt L12_o; have M12_o := Nat.ne_of_lt L12_o
          have HV12_o := Lib.hid V12_o
          have q12_c_0 : w12.cell? ⟨wc.heap.size, 0, none⟩ = some (.int .i64 0) := V12_c.c 0 _ rfl
          have f12_c := V12_c.2.2; have L12_c := V12_c.lt; have N12_c := Nat.ne_of_gt L12_c; have M12_c := Nat.ne_of_lt L12_c
          have HV12_c := Lib.hid V12_c
          have q12_w_0 : w12.cell? ⟨wc.heap.size + 1, 0, none⟩ = some (.int .i64 0) := V12_w.c 0 _ rfl
          have q12_w_1 : w12.cell? ⟨wc.heap.size + 1, 1, none⟩ = some (.int .i64 0) := V12_w.c 1 _ rfl
          have f12_w := V12_w.2.2; have L12_w := V12_w.lt; have N12_w := Nat.ne_of_gt L12_w; have M12_w := Nat.ne_of_lt L12_w
          have HV12_w := Lib.hid V12_w
          have q12_v_0 : w12.cell? ⟨wc.heap.size + 1 + 1, 0, none⟩ = some (.int .i64 x1) := V12_v.c 0 _ rfl
          have q12_v_1 : w12.cell? ⟨wc.heap.size + 1 + 1, 1, none⟩ = some (.int .i64 x2) := V12_v.c 1 _ rfl
          have f12_v := V12_v.2.2; have L12_v := V12_v.lt; have N12_v := Nat.ne_of_gt L12_v; have M12_v := Nat.ne_of_lt L12_v
          have HV12_v := Lib.hid V12_v
          have q12_y_0 : w12.cell? ⟨wc.heap.size + 1 + 1 + 1, 0, none⟩ = some (.int .i64 0) := V12_y.c 0 _ rfl
          have f12_y := V12_y.2.2; have L12_y := V12_y.lt; have N12_y := Nat.ne_of_gt L12_y; have M12_y := Nat.ne_of_lt L12_y
          have HV12_y := Lib.hid V12_y
          have S12 := G12.size; clear hb
          go_wp2_with fail
          (with_reducible refine (K1.out _ _ (M.pcell_var (by (repeat (first | (with_reducible assumption) | (with_reducible apply M.var_set45) | (with_reducible refine M.var_alloc' _ _ _ ?_; first | rfl | (simp [go_sem]; done)) | (with_reducible refine M.Var.alloc ?_ _) | (with_reducible refine M.Var.drewN ?_ _) | (with_reducible refine M.Var.drew ?_) | (with_reducible refine M.Var.far ?_ _ _ ?hFar; case hFar => (first | omega | ((try simp [go_sem]) <;> omega))) | fail)) : M.Var _ (wc.heap.size) #[.int .i64 0]))).mono ?_); rintro en w13 ⟨rfl, hb⟩
          have G13 : Below w.heap.size w w13 := Below.trans (M.below_sets_own ([(⟨wc.heap.size, 0, none⟩, .int .i64 0)]) (by have G := HGc.out; (repeat (with_reducible refine M.Below.drewN ?_ _)); go_grown) (by intro u hu; rw [M.cell_block1 hu]; dsimp only; omega)) (hb.mono (by go_size))
          have VV13 : M.Var w13 (w.heap.size) #[.int .i64 a1, .int .i64 a2] ∧ M.Var w13 (w.heap.size + 1) #[.int .i64 b1, .int .i64 b2] ∧ M.Var w13 (w.heap.size + 1 + 1) #[.int .i64 k] ∧ M.Var w13 (w.heap.size + 1 + 1 + 1) #[.int .i64 n] ∧ M.Var w13 (B) #[.int .i64 2] ∧ M.Var w13 (wc.heap.size + 1) #[.int .i64 0, .int .i64 0] ∧ M.Var w13 (wc.heap.size + 1 + 1) #[.int .i64 x1, .int .i64 x2] ∧ M.Var w13 (wc.heap.size + 1 + 1 + 1) #[.int .i64 0] := by refine ⟨?_, ?_, ?_, ?_, ?_, ?_, ?_, ?_⟩ <;> exact M.Var.mono' (u := M.sets _ ([(⟨wc.heap.size, 0, none⟩, .int .i64 0)])) (by (try simp only [M.sets_append]); exact (M.var_sets_far ([(⟨wc.heap.size, 0, none⟩, .int .i64 0)]) (by (repeat (first | (with_reducible assumption) | (with_reducible apply M.var_set45) | (with_reducible refine M.var_alloc' _ _ _ ?_; first | rfl | (simp [go_sem]; done)) | (with_reducible refine M.Var.alloc ?_ _) | (with_reducible refine M.Var.drewN ?_ _) | (with_reducible refine M.Var.drew ?_) | (with_reducible refine M.Var.far ?_ _ _ ?hFar; case hFar => (first | omega | ((try simp [go_sem]) <;> omega))) | fail))) (by intro u hu; all_goals (first | rw [M.usBx_block hu] | rw [M.usV_block hu] | rw [M.usI_block hu] | rw [M.usHt_block hu] | rw [M.usBd_block hu] | rw [M.usB_block hu] | rw [M.cell_block1 hu] | (exfalso; simp at hu; done)); all_goals ((try simp [go_sem]) <;> omega)))) (M.sets_size _ _) hb
          obtain ⟨V13_a, V13_b, V13_k, V13_n, V13_o, V13_w, V13_v, V13_y⟩ := VV13
          have V13_c : M.Var w13 (wc.heap.size) #[.int .i64 0] := M.Var.mono' (u := M.sets _ ([(⟨wc.heap.size, 0, none⟩, .int .i64 0)])) (by (try simp only [M.sets_append]); exact (M.var_setI (by (repeat (first | (with_reducible assumption) | (with_reducible apply M.var_set45) | (with_reducible refine M.var_alloc' _ _ _ ?_; first | rfl | (simp [go_sem]; done)) | (with_reducible refine M.Var.alloc ?_ _) | (with_reducible refine M.Var.drewN ?_ _) | (with_reducible refine M.Var.drew ?_) | (with_reducible refine M.Var.far ?_ _ _ ?hFar; case hFar => (first | omega | ((try simp [go_sem]) <;> omega))) | fail)) : M.Var _ (wc.heap.size) #[.int .i64 0]) _)) (M.sets_size _ _) hb
          have q13_a_0 : w13.cell? ⟨w.heap.size, 0, none⟩ = some (.int .i64 a1) := V13_a.c 0 _ rfl
          have q13_a_1 : w13.cell? ⟨w.heap.size, 1, none⟩ = some (.int .i64 a2) := V13_a.c 1 _ rfl
          have f13_a := V13_a.2.2; have L13_a := V13_a.lt; have N13_a := Nat.ne_of_gt L13_a; have M13_a := Nat.ne_of_lt L13_a
          have HV13_a := Lib.hid V13_a
          have q13_b_0 : w13.cell? ⟨w.heap.size + 1, 0, none⟩ = some (.int .i64 b1) := V13_b.c 0 _ rfl
          have q13_b_1 : w13.cell? ⟨w.heap.size + 1, 1, none⟩ = some (.int .i64 b2) := V13_b.c 1 _ rfl
          have f13_b := V13_b.2.2; have L13_b := V13_b.lt; have N13_b := Nat.ne_of_gt L13_b; have M13_b := Nat.ne_of_lt L13_b
          have HV13_b := Lib.hid V13_b
          have q13_k_0 : w13.cell? ⟨w.heap.size + 1 + 1, 0, none⟩ = some (.int .i64 k) := V13_k.c 0 _ rfl
          have f13_k := V13_k.2.2; have L13_k := V13_k.lt; have N13_k := Nat.ne_of_gt L13_k; have M13_k := Nat.ne_of_lt L13_k
          have HV13_k := Lib.hid V13_k
          have q13_n_0 : w13.cell? ⟨w.heap.size + 1 + 1 + 1, 0, none⟩ = some (.int .i64 n) := V13_n.c 0 _ rfl
          have f13_n := V13_n.2.2; have L13_n := V13_n.lt; have N13_n := Nat.ne_of_gt L13_n; have M13_n := Nat.ne_of_lt L13_n
          have HV13_n := Lib.hid V13_n
          have q13_o_0 : w13.cell? ⟨B, 0, none⟩ = some (.int .i64 2) := V13_o.c 0 _ rfl
          have f13_o := V13_o.2.2; have L13_o := V13_o.lt; have N13_o := Nat.ne_of_gt L13_o; have M13_o := Nat.ne_of_lt L13_o
          have HV13_o := Lib.hid V13_o
          have q13_c_0 : w13.cell? ⟨wc.heap.size, 0, none⟩ = some (.int .i64 0) := V13_c.c 0 _ rfl
          have f13_c := V13_c.2.2; have L13_c := V13_c.lt; have N13_c := Nat.ne_of_gt L13_c; have M13_c := Nat.ne_of_lt L13_c
          have HV13_c := Lib.hid V13_c
          have q13_w_0 : w13.cell? ⟨wc.heap.size + 1, 0, none⟩ = some (.int .i64 0) := V13_w.c 0 _ rfl
          have q13_w_1 : w13.cell? ⟨wc.heap.size + 1, 1, none⟩ = some (.int .i64 0) := V13_w.c 1 _ rfl
          have f13_w := V13_w.2.2; have L13_w := V13_w.lt; have N13_w := Nat.ne_of_gt L13_w; have M13_w := Nat.ne_of_lt L13_w
          have HV13_w := Lib.hid V13_w
          have q13_v_0 : w13.cell? ⟨wc.heap.size + 1 + 1, 0, none⟩ = some (.int .i64 x1) := V13_v.c 0 _ rfl
          have q13_v_1 : w13.cell? ⟨wc.heap.size + 1 + 1, 1, none⟩ = some (.int .i64 x2) := V13_v.c 1 _ rfl
          have f13_v := V13_v.2.2; have L13_v := V13_v.lt; have N13_v := Nat.ne_of_gt L13_v; have M13_v := Nat.ne_of_lt L13_v
          have HV13_v := Lib.hid V13_v
          have q13_y_0 : w13.cell? ⟨wc.heap.size + 1 + 1 + 1, 0, none⟩ = some (.int .i64 0) := V13_y.c 0 _ rfl
          have f13_y := V13_y.2.2; have L13_y := V13_y.lt; have N13_y := Nat.ne_of_gt L13_y; have M13_y := Nat.ne_of_lt L13_y
          have HV13_y := Lib.hid V13_y
          have S13 := G13.size; clear hb
          go_wp2_with fail
          go_roundg gf
          case measure => omega
          case rel => refine ⟨w13.heap.size, 3, by omega, by omega, rfl, by omega, ?_, ?_, ?_, ?_, ?_, by have G := G13; (repeat (with_reducible refine M.Below.drewN ?_ _)); go_grown⟩ <;> ((repeat (first | (with_reducible assumption) | (with_reducible apply M.var_setV) | (with_reducible apply M.var_setI) | (with_reducible apply M.var_setB) | (with_reducible apply M.var_setHt) | (with_reducible apply M.var_setBd) | (with_reducible apply M.var_set2) | (with_reducible apply M.var_set3) | (with_reducible apply M.var_set4) | (with_reducible apply M.var_set45) | (with_reducible apply M.var_set67) | (with_reducible apply M.var_setF) | (with_reducible refine M.var_alloc' _ _ _ ?_; first | rfl | (focus (simp [go_sem]; done))) | (with_reducible refine M.Var.alloc ?_ _) | (with_reducible refine M.Var.drewN ?_ _) | (with_reducible refine M.Var.drew ?_) | (with_reducible refine M.Var.far ?_ _ _ ?hFar; case hFar => (first | omega | ((try simp [go_sem]) <;> omega))) | fail)))
      · rcases hP : overV (a1, a2) k with i | ⟨x1, x2⟩
        · have z1 := bne_iff_ne.2 (nz_over _ _ i hP); have z1b := beq_eq_false_iff_ne.2 (nz_over _ _ i hP)
          have K1 := Lib.hid (fun pb w hp => (refOver_x pb 0 a1 a2 k ha1 ha2 hk w hp).mono fun en w' h => M.relV_err hP h)
          replace hP := Lib.hid hP
          have qc_o_0 : wc.cell? ⟨B, 0, none⟩ = some (.int .i64 3) := Vc_o.c 0 _ rfl
          have fc_o := Vc_o.2.2; have Lc_o := Vc_o.lt; have Nc_o := Nat.ne_of_gt Lc_o; have Mc_o := Nat.ne_of_lt Lc_o
          have qc_a_0 : wc.cell? ⟨w.heap.size, 0, none⟩ = some (.int .i64 a1) := Vc_a.c 0 _ rfl
          have qc_a_1 : wc.cell? ⟨w.heap.size, 1, none⟩ = some (.int .i64 a2) := Vc_a.c 1 _ rfl
          have fc_a := Vc_a.2.2; have Lc_a := Vc_a.lt; have Nc_a := Nat.ne_of_gt Lc_a; have Mc_a := Nat.ne_of_lt Lc_a
          have qc_b_0 : wc.cell? ⟨w.heap.size + 1, 0, none⟩ = some (.int .i64 b1) := Vc_b.c 0 _ rfl
          have qc_b_1 : wc.cell? ⟨w.heap.size + 1, 1, none⟩ = some (.int .i64 b2) := Vc_b.c 1 _ rfl
          have fc_b := Vc_b.2.2; have Lc_b := Vc_b.lt; have Nc_b := Nat.ne_of_gt Lc_b; have Mc_b := Nat.ne_of_lt Lc_b
          have qc_k_0 : wc.cell? ⟨w.heap.size + 1 + 1, 0, none⟩ = some (.int .i64 k) := Vc_k.c 0 _ rfl
          have fc_k := Vc_k.2.2; have Lc_k := Vc_k.lt; have Nc_k := Nat.ne_of_gt Lc_k; have Mc_k := Nat.ne_of_lt Lc_k
          have qc_n_0 : wc.cell? ⟨w.heap.size + 1 + 1 + 1, 0, none⟩ = some (.int .i64 n) := Vc_n.c 0 _ rfl
          have fc_n := Vc_n.2.2; have Lc_n := Vc_n.lt; have Nc_n := Nat.ne_of_gt Lc_n; have Mc_n := Nat.ne_of_lt Lc_n
          go_wp2_with fail
          refine (try_c 110 #[.pointer (some ⟨B, 0, none⟩), .pointer (some ⟨w.heap.size, 0, none⟩), .pointer (some ⟨w.heap.size + 1, 0, none⟩), .pointer (some ⟨wc.heap.size + 1 + 1, 0, none⟩), .pointer (some ⟨w.heap.size + 1 + 1, 0, none⟩), .pointer (some ⟨wc.heap.size + 1 + 1 + 1, 0, none⟩), .pointer (some ⟨w.heap.size + 1 + 1 + 1, 0, none⟩)] _ (i) ([]) (fun _ => rfl) ?_ ?_).mono ?_
          · intro u hu; (try simp only [List.mem_append] at hu); (repeat' (obtain hu | hu := (hu : _ ∨ _))); all_goals (first | rw [M.usBx_block hu] | rw [M.usV_block hu] | rw [M.usI_block hu] | rw [M.usHt_block hu] | rw [M.usBd_block hu] | rw [M.usB_block hu] | rw [M.cell_block1 hu] | (exfalso; simp at hu; done)); all_goals ((try simp [go_sem]) <;> omega)
          · intro w1' hb; exact (cloVT3 _ _ _ _ _ _ _ a1 a2 ha1 ha2 k hk _ _ (.error i : X (V)) hP.out w1' (M.Var.mono (b := B) (cs := #[.int .i64 3]) (by (repeat (first | (with_reducible assumption) | (with_reducible apply M.var_set45) | (with_reducible refine M.var_alloc' _ _ _ ?_; first | rfl | (simp [go_sem]; done)) | (with_reducible refine M.Var.alloc ?_ _) | (with_reducible refine M.Var.drewN ?_ _) | (with_reducible refine M.Var.drew ?_) | (with_reducible refine M.Var.far ?_ _ _ ?hFar; case hFar => (first | omega | ((try simp [go_sem]) <;> omega))) | fail))) hb) (M.Var.mono (b := w.heap.size) (cs := #[.int .i64 a1, .int .i64 a2]) (by (repeat (first | (with_reducible assumption) | (with_reducible apply M.var_set45) | (with_reducible refine M.var_alloc' _ _ _ ?_; first | rfl | (simp [go_sem]; done)) | (with_reducible refine M.Var.alloc ?_ _) | (with_reducible refine M.Var.drewN ?_ _) | (with_reducible refine M.Var.drew ?_) | (with_reducible refine M.Var.far ?_ _ _ ?hFar; case hFar => (first | omega | ((try simp [go_sem]) <;> omega))) | fail))) hb) (M.Var.mono (b := w.heap.size + 1 + 1) (cs := #[.int .i64 k]) (by (repeat (first | (with_reducible assumption) | (with_reducible apply M.var_set45) | (with_reducible refine M.var_alloc' _ _ _ ?_; first | rfl | (simp [go_sem]; done)) | (with_reducible refine M.Var.alloc ?_ _) | (with_reducible refine M.Var.drewN ?_ _) | (with_reducible refine M.Var.drew ?_) | (with_reducible refine M.Var.far ?_ _ _ ?hFar; case hFar => (first | omega | ((try simp [go_sem]) <;> omega))) | fail))) hb) (M.Var.mono (b := wc.heap.size + 1 + 1) (cs := #[.int .i64 0, .int .i64 0]) (by (repeat (first | (with_reducible assumption) | (with_reducible apply M.var_set45) | (with_reducible refine M.var_alloc' _ _ _ ?_; first | rfl | (simp [go_sem]; done)) | (with_reducible refine M.Var.alloc ?_ _) | (with_reducible refine M.Var.drewN ?_ _) | (with_reducible refine M.Var.drew ?_) | (with_reducible refine M.Var.far ?_ _ _ ?hFar; case hFar => (first | omega | ((try simp [go_sem]) <;> omega))) | fail))) hb)).mono fun e w' h => h
          rintro en w14 ⟨rfl, hb⟩
          have G14 : Below w.heap.size w w14 := Below.trans (M.below_sets_own ([]) (by have G := HGc.out; (repeat (with_reducible refine M.Below.drewN ?_ _)); go_grown) (by intro u hu; (try simp only [List.mem_append] at hu); (repeat' (obtain hu | hu := (hu : _ ∨ _))); all_goals (first | rw [M.usBx_block hu] | rw [M.usV_block hu] | rw [M.usI_block hu] | rw [M.usHt_block hu] | rw [M.usBd_block hu] | rw [M.usB_block hu] | rw [M.cell_block1 hu] | (exfalso; simp at hu; done)); all_goals ((try simp [go_sem]) <;> omega))) (hb.mono (by go_size))
          have VV14 : M.Var w14 (w.heap.size) #[.int .i64 a1, .int .i64 a2] ∧ M.Var w14 (w.heap.size + 1) #[.int .i64 b1, .int .i64 b2] ∧ M.Var w14 (w.heap.size + 1 + 1) #[.int .i64 k] ∧ M.Var w14 (w.heap.size + 1 + 1 + 1) #[.int .i64 n] ∧ M.Var w14 (B) #[.int .i64 3] ∧ M.Var w14 (wc.heap.size) #[.int .i64 0] ∧ M.Var w14 (wc.heap.size + 1) #[.int .i64 0, .int .i64 0] ∧ M.Var w14 (wc.heap.size + 1 + 1) #[.int .i64 0, .int .i64 0] ∧ M.Var w14 (wc.heap.size + 1 + 1 + 1) #[.int .i64 0] := by refine ⟨?_, ?_, ?_, ?_, ?_, ?_, ?_, ?_, ?_⟩ <;> exact M.Var.mono' (u := M.sets _ ([])) (by (try simp only [M.sets_append]); exact (M.var_sets_far ([]) (by (repeat (first | (with_reducible assumption) | (with_reducible apply M.var_set45) | (with_reducible refine M.var_alloc' _ _ _ ?_; first | rfl | (simp [go_sem]; done)) | (with_reducible refine M.Var.alloc ?_ _) | (with_reducible refine M.Var.drewN ?_ _) | (with_reducible refine M.Var.drew ?_) | (with_reducible refine M.Var.far ?_ _ _ ?hFar; case hFar => (first | omega | ((try simp [go_sem]) <;> omega))) | fail))) (by intro u hu; all_goals (first | rw [M.usBx_block hu] | rw [M.usV_block hu] | rw [M.usI_block hu] | rw [M.usHt_block hu] | rw [M.usBd_block hu] | rw [M.usB_block hu] | rw [M.cell_block1 hu] | (exfalso; simp at hu; done)); all_goals ((try simp [go_sem]) <;> omega)))) (M.sets_size _ _) hb
          obtain ⟨V14_a, V14_b, V14_k, V14_n, V14_o, V14_c, V14_w, V14_v, V14_y⟩ := VV14
          have q14_a_0 : w14.cell? ⟨w.heap.size, 0, none⟩ = some (.int .i64 a1) := V14_a.c 0 _ rfl
          have q14_a_1 : w14.cell? ⟨w.heap.size, 1, none⟩ = some (.int .i64 a2) := V14_a.c 1 _ rfl
          have f14_a := V14_a.2.2; have L14_a := V14_a.lt; have N14_a := Nat.ne_of_gt L14_a; have M14_a := Nat.ne_of_lt L14_a
          have HV14_a := Lib.hid V14_a
          have q14_b_0 : w14.cell? ⟨w.heap.size + 1, 0, none⟩ = some (.int .i64 b1) := V14_b.c 0 _ rfl
          have q14_b_1 : w14.cell? ⟨w.heap.size + 1, 1, none⟩ = some (.int .i64 b2) := V14_b.c 1 _ rfl
          have f14_b := V14_b.2.2; have L14_b := V14_b.lt; have N14_b := Nat.ne_of_gt L14_b; have M14_b := Nat.ne_of_lt L14_b
          have HV14_b := Lib.hid V14_b
          have q14_k_0 : w14.cell? ⟨w.heap.size + 1 + 1, 0, none⟩ = some (.int .i64 k) := V14_k.c 0 _ rfl
          have f14_k := V14_k.2.2; have L14_k := V14_k.lt; have N14_k := Nat.ne_of_gt L14_k; have M14_k := Nat.ne_of_lt L14_k
          have HV14_k := Lib.hid V14_k
          have q14_n_0 : w14.cell? ⟨w.heap.size + 1 + 1 + 1, 0, none⟩ = some (.int .i64 n) := V14_n.c 0 _ rfl
          have f14_n := V14_n.2.2; have L14_n := V14_n.lt; have N14_n := Nat.ne_of_gt L14_n; have M14_n := Nat.ne_of_lt L14_n
          have HV14_n := Lib.hid V14_n
          have q14_o_0 : w14.cell? ⟨B, 0, none⟩ = some (.int .i64 3) := V14_o.c 0 _ rfl
          have f14_o := V14_o.2.2; have L14_o := V14_o.lt; have N14_o := Nat.ne_of_gt L14_o; have M14_o := Nat.ne_of_lt L14_o
          have HV14_o := Lib.hid V14_o
          have q14_c_0 : w14.cell? ⟨wc.heap.size, 0, none⟩ = some (.int .i64 0) := V14_c.c 0 _ rfl
          have f14_c := V14_c.2.2; have L14_c := V14_c.lt; have N14_c := Nat.ne_of_gt L14_c; have M14_c := Nat.ne_of_lt L14_c
          have HV14_c := Lib.hid V14_c
          have q14_w_0 : w14.cell? ⟨wc.heap.size + 1, 0, none⟩ = some (.int .i64 0) := V14_w.c 0 _ rfl
          have q14_w_1 : w14.cell? ⟨wc.heap.size + 1, 1, none⟩ = some (.int .i64 0) := V14_w.c 1 _ rfl
          have f14_w := V14_w.2.2; have L14_w := V14_w.lt; have N14_w := Nat.ne_of_gt L14_w; have M14_w := Nat.ne_of_lt L14_w
          have HV14_w := Lib.hid V14_w
          have q14_v_0 : w14.cell? ⟨wc.heap.size + 1 + 1, 0, none⟩ = some (.int .i64 0) := V14_v.c 0 _ rfl
          have q14_v_1 : w14.cell? ⟨wc.heap.size + 1 + 1, 1, none⟩ = some (.int .i64 0) := V14_v.c 1 _ rfl
          have f14_v := V14_v.2.2; have L14_v := V14_v.lt; have N14_v := Nat.ne_of_gt L14_v; have M14_v := Nat.ne_of_lt L14_v
          have HV14_v := Lib.hid V14_v
          have q14_y_0 : w14.cell? ⟨wc.heap.size + 1 + 1 + 1, 0, none⟩ = some (.int .i64 0) := V14_y.c 0 _ rfl
          have f14_y := V14_y.2.2; have L14_y := V14_y.lt; have N14_y := Nat.ne_of_gt L14_y; have M14_y := Nat.ne_of_lt L14_y
          have HV14_y := Lib.hid V14_y
          have S14 := G14.size; clear hb
          go_wp2_with fail
          (with_reducible refine (K1.out _ _ (M.pcell_var (by (repeat (first | (with_reducible assumption) | (with_reducible apply M.var_set45) | (with_reducible refine M.var_alloc' _ _ _ ?_; first | rfl | (simp [go_sem]; done)) | (with_reducible refine M.Var.alloc ?_ _) | (with_reducible refine M.Var.drewN ?_ _) | (with_reducible refine M.Var.drew ?_) | (with_reducible refine M.Var.far ?_ _ _ ?hFar; case hFar => (first | omega | ((try simp [go_sem]) <;> omega))) | fail)) : M.Var _ (wc.heap.size) #[.int .i64 0]))).mono ?_); rintro en w15 ⟨⟨u1, u2, rfl⟩, hb⟩
          have G15 : Below w.heap.size w w15 := Below.trans (M.below_sets_own ([(⟨wc.heap.size, 0, none⟩, .int .i64 i)]) (by have G := HGc.out; (repeat (with_reducible refine M.Below.drewN ?_ _)); go_grown) (by intro u hu; rw [M.cell_block1 hu]; dsimp only; omega)) (hb.mono (by go_size))
          have VV15 : M.Var w15 (w.heap.size) #[.int .i64 a1, .int .i64 a2] ∧ M.Var w15 (w.heap.size + 1) #[.int .i64 b1, .int .i64 b2] ∧ M.Var w15 (w.heap.size + 1 + 1) #[.int .i64 k] ∧ M.Var w15 (w.heap.size + 1 + 1 + 1) #[.int .i64 n] ∧ M.Var w15 (B) #[.int .i64 3] ∧ M.Var w15 (wc.heap.size + 1) #[.int .i64 0, .int .i64 0] ∧ M.Var w15 (wc.heap.size + 1 + 1) #[.int .i64 0, .int .i64 0] ∧ M.Var w15 (wc.heap.size + 1 + 1 + 1) #[.int .i64 0] := by refine ⟨?_, ?_, ?_, ?_, ?_, ?_, ?_, ?_⟩ <;> exact M.Var.mono' (u := M.sets _ ([(⟨wc.heap.size, 0, none⟩, .int .i64 i)])) (by (try simp only [M.sets_append]); exact (M.var_sets_far ([(⟨wc.heap.size, 0, none⟩, .int .i64 i)]) (by (repeat (first | (with_reducible assumption) | (with_reducible apply M.var_set45) | (with_reducible refine M.var_alloc' _ _ _ ?_; first | rfl | (simp [go_sem]; done)) | (with_reducible refine M.Var.alloc ?_ _) | (with_reducible refine M.Var.drewN ?_ _) | (with_reducible refine M.Var.drew ?_) | (with_reducible refine M.Var.far ?_ _ _ ?hFar; case hFar => (first | omega | ((try simp [go_sem]) <;> omega))) | fail))) (by intro u hu; all_goals (first | rw [M.usBx_block hu] | rw [M.usV_block hu] | rw [M.usI_block hu] | rw [M.usHt_block hu] | rw [M.usBd_block hu] | rw [M.usB_block hu] | rw [M.cell_block1 hu] | (exfalso; simp at hu; done)); all_goals ((try simp [go_sem]) <;> omega)))) (M.sets_size _ _) hb
          obtain ⟨V15_a, V15_b, V15_k, V15_n, V15_o, V15_w, V15_v, V15_y⟩ := VV15
          have V15_c : M.Var w15 (wc.heap.size) #[.int .i64 i] := M.Var.mono' (u := M.sets _ ([(⟨wc.heap.size, 0, none⟩, .int .i64 i)])) (by (try simp only [M.sets_append]); exact (M.var_setI (by (repeat (first | (with_reducible assumption) | (with_reducible apply M.var_set45) | (with_reducible refine M.var_alloc' _ _ _ ?_; first | rfl | (simp [go_sem]; done)) | (with_reducible refine M.Var.alloc ?_ _) | (with_reducible refine M.Var.drewN ?_ _) | (with_reducible refine M.Var.drew ?_) | (with_reducible refine M.Var.far ?_ _ _ ?hFar; case hFar => (first | omega | ((try simp [go_sem]) <;> omega))) | fail)) : M.Var _ (wc.heap.size) #[.int .i64 0]) _)) (M.sets_size _ _) hb
          have q15_a_0 : w15.cell? ⟨w.heap.size, 0, none⟩ = some (.int .i64 a1) := V15_a.c 0 _ rfl
          have q15_a_1 : w15.cell? ⟨w.heap.size, 1, none⟩ = some (.int .i64 a2) := V15_a.c 1 _ rfl
          have f15_a := V15_a.2.2; have L15_a := V15_a.lt; have N15_a := Nat.ne_of_gt L15_a; have M15_a := Nat.ne_of_lt L15_a
          have HV15_a := Lib.hid V15_a
          have q15_b_0 : w15.cell? ⟨w.heap.size + 1, 0, none⟩ = some (.int .i64 b1) := V15_b.c 0 _ rfl
          have q15_b_1 : w15.cell? ⟨w.heap.size + 1, 1, none⟩ = some (.int .i64 b2) := V15_b.c 1 _ rfl
          have f15_b := V15_b.2.2; have L15_b := V15_b.lt; have N15_b := Nat.ne_of_gt L15_b; have M15_b := Nat.ne_of_lt L15_b
          have HV15_b := Lib.hid V15_b
          have q15_k_0 : w15.cell? ⟨w.heap.size + 1 + 1, 0, none⟩ = some (.int .i64 k) := V15_k.c 0 _ rfl
          have f15_k := V15_k.2.2; have L15_k := V15_k.lt; have N15_k := Nat.ne_of_gt L15_k; have M15_k := Nat.ne_of_lt L15_k
          have HV15_k := Lib.hid V15_k
          have q15_n_0 : w15.cell? ⟨w.heap.size + 1 + 1 + 1, 0, none⟩ = some (.int .i64 n) := V15_n.c 0 _ rfl
          have f15_n := V15_n.2.2; have L15_n := V15_n.lt; have N15_n := Nat.ne_of_gt L15_n; have M15_n := Nat.ne_of_lt L15_n
          have HV15_n := Lib.hid V15_n
          have q15_o_0 : w15.cell? ⟨B, 0, none⟩ = some (.int .i64 3) := V15_o.c 0 _ rfl
          have f15_o := V15_o.2.2; have L15_o := V15_o.lt; have N15_o := Nat.ne_of_gt L15_o; have M15_o := Nat.ne_of_lt L15_o
          have HV15_o := Lib.hid V15_o
          have q15_c_0 : w15.cell? ⟨wc.heap.size, 0, none⟩ = some (.int .i64 i) := V15_c.c 0 _ rfl
          have f15_c := V15_c.2.2; have L15_c := V15_c.lt; have N15_c := Nat.ne_of_gt L15_c; have M15_c := Nat.ne_of_lt L15_c
          have HV15_c := Lib.hid V15_c
          have q15_w_0 : w15.cell? ⟨wc.heap.size + 1, 0, none⟩ = some (.int .i64 0) := V15_w.c 0 _ rfl
          have q15_w_1 : w15.cell? ⟨wc.heap.size + 1, 1, none⟩ = some (.int .i64 0) := V15_w.c 1 _ rfl
          have f15_w := V15_w.2.2; have L15_w := V15_w.lt; have N15_w := Nat.ne_of_gt L15_w; have M15_w := Nat.ne_of_lt L15_w
          have HV15_w := Lib.hid V15_w
          have q15_v_0 : w15.cell? ⟨wc.heap.size + 1 + 1, 0, none⟩ = some (.int .i64 0) := V15_v.c 0 _ rfl
          have q15_v_1 : w15.cell? ⟨wc.heap.size + 1 + 1, 1, none⟩ = some (.int .i64 0) := V15_v.c 1 _ rfl
          have f15_v := V15_v.2.2; have L15_v := V15_v.lt; have N15_v := Nat.ne_of_gt L15_v; have M15_v := Nat.ne_of_lt L15_v
          have HV15_v := Lib.hid V15_v
          have q15_y_0 : w15.cell? ⟨wc.heap.size + 1 + 1 + 1, 0, none⟩ = some (.int .i64 0) := V15_y.c 0 _ rfl
          have f15_y := V15_y.2.2; have L15_y := V15_y.lt; have N15_y := Nat.ne_of_gt L15_y; have M15_y := Nat.ne_of_lt L15_y
          have HV15_y := Lib.hid V15_y
          have S15 := G15.size; clear hb
          go_wp2_with fail
          go_roundg gf
          case measure => omega
          case rel => refine ⟨w15.heap.size, 4, by omega, by omega, rfl, by omega, ?_, ?_, ?_, ?_, ?_, by have G := G15; (repeat (with_reducible refine M.Below.drewN ?_ _)); go_grown⟩ <;> ((repeat (first | (with_reducible assumption) | (with_reducible apply M.var_setV) | (with_reducible apply M.var_setI) | (with_reducible apply M.var_setB) | (with_reducible apply M.var_setHt) | (with_reducible apply M.var_setBd) | (with_reducible apply M.var_set2) | (with_reducible apply M.var_set3) | (with_reducible apply M.var_set4) | (with_reducible apply M.var_set45) | (with_reducible apply M.var_set67) | (with_reducible apply M.var_setF) | (with_reducible refine M.var_alloc' _ _ _ ?_; first | rfl | (focus (simp [go_sem]; done))) | (with_reducible refine M.Var.alloc ?_ _) | (with_reducible refine M.Var.drewN ?_ _) | (with_reducible refine M.Var.drew ?_) | (with_reducible refine M.Var.far ?_ _ _ ?hFar; case hFar => (first | omega | ((try simp [go_sem]) <;> omega))) | fail)))
        · skip
          have K1 := Lib.hid (fun pb w hp => (refOver_x pb 0 a1 a2 k ha1 ha2 hk w hp).mono fun en w' h => M.relV_ok hP h)
          replace hP := Lib.hid hP
          have qc_o_0 : wc.cell? ⟨B, 0, none⟩ = some (.int .i64 3) := Vc_o.c 0 _ rfl
          have fc_o := Vc_o.2.2; have Lc_o := Vc_o.lt; have Nc_o := Nat.ne_of_gt Lc_o; have Mc_o := Nat.ne_of_lt Lc_o
          have qc_a_0 : wc.cell? ⟨w.heap.size, 0, none⟩ = some (.int .i64 a1) := Vc_a.c 0 _ rfl
          have qc_a_1 : wc.cell? ⟨w.heap.size, 1, none⟩ = some (.int .i64 a2) := Vc_a.c 1 _ rfl
          have fc_a := Vc_a.2.2; have Lc_a := Vc_a.lt; have Nc_a := Nat.ne_of_gt Lc_a; have Mc_a := Nat.ne_of_lt Lc_a
          have qc_b_0 : wc.cell? ⟨w.heap.size + 1, 0, none⟩ = some (.int .i64 b1) := Vc_b.c 0 _ rfl
          have qc_b_1 : wc.cell? ⟨w.heap.size + 1, 1, none⟩ = some (.int .i64 b2) := Vc_b.c 1 _ rfl
          have fc_b := Vc_b.2.2; have Lc_b := Vc_b.lt; have Nc_b := Nat.ne_of_gt Lc_b; have Mc_b := Nat.ne_of_lt Lc_b
          have qc_k_0 : wc.cell? ⟨w.heap.size + 1 + 1, 0, none⟩ = some (.int .i64 k) := Vc_k.c 0 _ rfl
          have fc_k := Vc_k.2.2; have Lc_k := Vc_k.lt; have Nc_k := Nat.ne_of_gt Lc_k; have Mc_k := Nat.ne_of_lt Lc_k
          have qc_n_0 : wc.cell? ⟨w.heap.size + 1 + 1 + 1, 0, none⟩ = some (.int .i64 n) := Vc_n.c 0 _ rfl
          have fc_n := Vc_n.2.2; have Lc_n := Vc_n.lt; have Nc_n := Nat.ne_of_gt Lc_n; have Mc_n := Nat.ne_of_lt Lc_n
          go_wp2_with fail
          refine (try_c 110 #[.pointer (some ⟨B, 0, none⟩), .pointer (some ⟨w.heap.size, 0, none⟩), .pointer (some ⟨w.heap.size + 1, 0, none⟩), .pointer (some ⟨wc.heap.size + 1 + 1, 0, none⟩), .pointer (some ⟨w.heap.size + 1 + 1, 0, none⟩), .pointer (some ⟨wc.heap.size + 1 + 1 + 1, 0, none⟩), .pointer (some ⟨w.heap.size + 1 + 1 + 1, 0, none⟩)] _ (0) (usV (wc.heap.size + 1 + 1) (.ok (x1, x2))) (fun _ => rfl) ?_ ?_).mono ?_
          · intro u hu; (try simp only [List.mem_append] at hu); (repeat' (obtain hu | hu := (hu : _ ∨ _))); all_goals (first | rw [M.usBx_block hu] | rw [M.usV_block hu] | rw [M.usI_block hu] | rw [M.usHt_block hu] | rw [M.usBd_block hu] | rw [M.usB_block hu] | rw [M.cell_block1 hu] | (exfalso; simp at hu; done)); all_goals ((try simp [go_sem]) <;> omega)
          · intro w1' hb; exact (cloVT3 _ _ _ _ _ _ _ a1 a2 ha1 ha2 k hk _ _ ((.ok (x1, x2)) : X (V)) hP.out w1' (M.Var.mono (b := B) (cs := #[.int .i64 3]) (by (repeat (first | (with_reducible assumption) | (with_reducible apply M.var_set45) | (with_reducible refine M.var_alloc' _ _ _ ?_; first | rfl | (simp [go_sem]; done)) | (with_reducible refine M.Var.alloc ?_ _) | (with_reducible refine M.Var.drewN ?_ _) | (with_reducible refine M.Var.drew ?_) | (with_reducible refine M.Var.far ?_ _ _ ?hFar; case hFar => (first | omega | ((try simp [go_sem]) <;> omega))) | fail))) hb) (M.Var.mono (b := w.heap.size) (cs := #[.int .i64 a1, .int .i64 a2]) (by (repeat (first | (with_reducible assumption) | (with_reducible apply M.var_set45) | (with_reducible refine M.var_alloc' _ _ _ ?_; first | rfl | (simp [go_sem]; done)) | (with_reducible refine M.Var.alloc ?_ _) | (with_reducible refine M.Var.drewN ?_ _) | (with_reducible refine M.Var.drew ?_) | (with_reducible refine M.Var.far ?_ _ _ ?hFar; case hFar => (first | omega | ((try simp [go_sem]) <;> omega))) | fail))) hb) (M.Var.mono (b := w.heap.size + 1 + 1) (cs := #[.int .i64 k]) (by (repeat (first | (with_reducible assumption) | (with_reducible apply M.var_set45) | (with_reducible refine M.var_alloc' _ _ _ ?_; first | rfl | (simp [go_sem]; done)) | (with_reducible refine M.Var.alloc ?_ _) | (with_reducible refine M.Var.drewN ?_ _) | (with_reducible refine M.Var.drew ?_) | (with_reducible refine M.Var.far ?_ _ _ ?hFar; case hFar => (first | omega | ((try simp [go_sem]) <;> omega))) | fail))) hb) (M.Var.mono (b := wc.heap.size + 1 + 1) (cs := #[.int .i64 0, .int .i64 0]) (by (repeat (first | (with_reducible assumption) | (with_reducible apply M.var_set45) | (with_reducible refine M.var_alloc' _ _ _ ?_; first | rfl | (simp [go_sem]; done)) | (with_reducible refine M.Var.alloc ?_ _) | (with_reducible refine M.Var.drewN ?_ _) | (with_reducible refine M.Var.drew ?_) | (with_reducible refine M.Var.far ?_ _ _ ?hFar; case hFar => (first | omega | ((try simp [go_sem]) <;> omega))) | fail))) hb)).mono fun e w' h => h
          rintro en w16 ⟨rfl, hb⟩
          have G16 : Below w.heap.size w w16 := Below.trans (M.below_sets_own (usV (wc.heap.size + 1 + 1) (.ok (x1, x2))) (by have G := HGc.out; (repeat (with_reducible refine M.Below.drewN ?_ _)); go_grown) (by intro u hu; (try simp only [List.mem_append] at hu); (repeat' (obtain hu | hu := (hu : _ ∨ _))); all_goals (first | rw [M.usBx_block hu] | rw [M.usV_block hu] | rw [M.usI_block hu] | rw [M.usHt_block hu] | rw [M.usBd_block hu] | rw [M.usB_block hu] | rw [M.cell_block1 hu] | (exfalso; simp at hu; done)); all_goals ((try simp [go_sem]) <;> omega))) (hb.mono (by go_size))
          have VV16 : M.Var w16 (w.heap.size) #[.int .i64 a1, .int .i64 a2] ∧ M.Var w16 (w.heap.size + 1) #[.int .i64 b1, .int .i64 b2] ∧ M.Var w16 (w.heap.size + 1 + 1) #[.int .i64 k] ∧ M.Var w16 (w.heap.size + 1 + 1 + 1) #[.int .i64 n] ∧ M.Var w16 (B) #[.int .i64 3] ∧ M.Var w16 (wc.heap.size) #[.int .i64 0] ∧ M.Var w16 (wc.heap.size + 1) #[.int .i64 0, .int .i64 0] ∧ M.Var w16 (wc.heap.size + 1 + 1 + 1) #[.int .i64 0] := by refine ⟨?_, ?_, ?_, ?_, ?_, ?_, ?_, ?_⟩ <;> exact M.Var.mono' (u := M.sets _ (usV (wc.heap.size + 1 + 1) (.ok (x1, x2)))) (by (try simp only [M.sets_append]); exact (M.var_sets_far (usV (wc.heap.size + 1 + 1) (.ok (x1, x2))) (by (repeat (first | (with_reducible assumption) | (with_reducible apply M.var_set45) | (with_reducible refine M.var_alloc' _ _ _ ?_; first | rfl | (simp [go_sem]; done)) | (with_reducible refine M.Var.alloc ?_ _) | (with_reducible refine M.Var.drewN ?_ _) | (with_reducible refine M.Var.drew ?_) | (with_reducible refine M.Var.far ?_ _ _ ?hFar; case hFar => (first | omega | ((try simp [go_sem]) <;> omega))) | fail))) (by intro u hu; all_goals (first | rw [M.usBx_block hu] | rw [M.usV_block hu] | rw [M.usI_block hu] | rw [M.usHt_block hu] | rw [M.usBd_block hu] | rw [M.usB_block hu] | rw [M.cell_block1 hu] | (exfalso; simp at hu; done)); all_goals ((try simp [go_sem]) <;> omega)))) (M.sets_size _ _) hb
          obtain ⟨V16_a, V16_b, V16_k, V16_n, V16_o, V16_c, V16_w, V16_y⟩ := VV16
          have V16_v : M.Var w16 (wc.heap.size + 1 + 1) #[.int .i64 x1, .int .i64 x2] := M.Var.mono' (u := M.sets _ (usV (wc.heap.size + 1 + 1) (.ok (x1, x2)))) (by (try simp only [M.sets_append]); exact (M.var_setV (by (repeat (first | (with_reducible assumption) | (with_reducible apply M.var_set45) | (with_reducible refine M.var_alloc' _ _ _ ?_; first | rfl | (simp [go_sem]; done)) | (with_reducible refine M.Var.alloc ?_ _) | (with_reducible refine M.Var.drewN ?_ _) | (with_reducible refine M.Var.drew ?_) | (with_reducible refine M.Var.far ?_ _ _ ?hFar; case hFar => (first | omega | ((try simp [go_sem]) <;> omega))) | fail)) : M.Var _ (wc.heap.size + 1 + 1) #[.int .i64 0, .int .i64 0]) _ _)) (M.sets_size _ _) hb
          have q16_a_0 : w16.cell? ⟨w.heap.size, 0, none⟩ = some (.int .i64 a1) := V16_a.c 0 _ rfl
          have q16_a_1 : w16.cell? ⟨w.heap.size, 1, none⟩ = some (.int .i64 a2) := V16_a.c 1 _ rfl
          have f16_a := V16_a.2.2; have L16_a := V16_a.lt; have N16_a := Nat.ne_of_gt L16_a; have M16_a := Nat.ne_of_lt L16_a
          have HV16_a := Lib.hid V16_a
          have q16_b_0 : w16.cell? ⟨w.heap.size + 1, 0, none⟩ = some (.int .i64 b1) := V16_b.c 0 _ rfl
          have q16_b_1 : w16.cell? ⟨w.heap.size + 1, 1, none⟩ = some (.int .i64 b2) := V16_b.c 1 _ rfl
          have f16_b := V16_b.2.2; have L16_b := V16_b.lt; have N16_b := Nat.ne_of_gt L16_b; have M16_b := Nat.ne_of_lt L16_b
          have HV16_b := Lib.hid V16_b
          have q16_k_0 : w16.cell? ⟨w.heap.size + 1 + 1, 0, none⟩ = some (.int .i64 k) := V16_k.c 0 _ rfl
          have f16_k := V16_k.2.2; have L16_k := V16_k.lt; have N16_k := Nat.ne_of_gt L16_k; have M16_k := Nat.ne_of_lt L16_k
          have HV16_k := Lib.hid V16_k
          have q16_n_0 : w16.cell? ⟨w.heap.size + 1 + 1 + 1, 0, none⟩ = some (.int .i64 n) := V16_n.c 0 _ rfl
          have f16_n := V16_n.2.2; have L16_n := V16_n.lt; have N16_n := Nat.ne_of_gt L16_n; have M16_n := Nat.ne_of_lt L16_n
          have HV16_n := Lib.hid V16_n
          have q16_o_0 : w16.cell? ⟨B, 0, none⟩ = some (.int .i64 3) := V16_o.c 0 _ rfl
          have f16_o := V16_o.2.2; have L16_o := V16_o.lt; have N16_o := Nat.ne_of_gt L16_o; have M16_o := Nat.ne_of_lt L16_o
          have HV16_o := Lib.hid V16_o
          have q16_c_0 : w16.cell? ⟨wc.heap.size, 0, none⟩ = some (.int .i64 0) := V16_c.c 0 _ rfl
          have f16_c := V16_c.2.2; have L16_c := V16_c.lt; have N16_c := Nat.ne_of_gt L16_c; have M16_c := Nat.ne_of_lt L16_c
          have HV16_c := Lib.hid V16_c
          have q16_w_0 : w16.cell? ⟨wc.heap.size + 1, 0, none⟩ = some (.int .i64 0) := V16_w.c 0 _ rfl
          have q16_w_1 : w16.cell? ⟨wc.heap.size + 1, 1, none⟩ = some (.int .i64 0) := V16_w.c 1 _ rfl
          have f16_w := V16_w.2.2; have L16_w := V16_w.lt; have N16_w := Nat.ne_of_gt L16_w; have M16_w := Nat.ne_of_lt L16_w
          have HV16_w := Lib.hid V16_w
          have q16_v_0 : w16.cell? ⟨wc.heap.size + 1 + 1, 0, none⟩ = some (.int .i64 x1) := V16_v.c 0 _ rfl
          have q16_v_1 : w16.cell? ⟨wc.heap.size + 1 + 1, 1, none⟩ = some (.int .i64 x2) := V16_v.c 1 _ rfl
          have f16_v := V16_v.2.2; have L16_v := V16_v.lt; have N16_v := Nat.ne_of_gt L16_v; have M16_v := Nat.ne_of_lt L16_v
          have HV16_v := Lib.hid V16_v
          have q16_y_0 : w16.cell? ⟨wc.heap.size + 1 + 1 + 1, 0, none⟩ = some (.int .i64 0) := V16_y.c 0 _ rfl
          have f16_y := V16_y.2.2; have L16_y := V16_y.lt; have N16_y := Nat.ne_of_gt L16_y; have M16_y := Nat.ne_of_lt L16_y
          have HV16_y := Lib.hid V16_y
          have S16 := G16.size; clear hb
          go_wp2_with fail
          (with_reducible refine (K1.out _ _ (M.pcell_var (by (repeat (first | (with_reducible assumption) | (with_reducible apply M.var_set45) | (with_reducible refine M.var_alloc' _ _ _ ?_; first | rfl | (simp [go_sem]; done)) | (with_reducible refine M.Var.alloc ?_ _) | (with_reducible refine M.Var.drewN ?_ _) | (with_reducible refine M.Var.drew ?_) | (with_reducible refine M.Var.far ?_ _ _ ?hFar; case hFar => (first | omega | ((try simp [go_sem]) <;> omega))) | fail)) : M.Var _ (wc.heap.size) #[.int .i64 0]))).mono ?_); rintro en w17 ⟨rfl, hb⟩
          have G17 : Below w.heap.size w w17 := Below.trans (M.below_sets_own ([(⟨wc.heap.size, 0, none⟩, .int .i64 0)]) (by have G := HGc.out; (repeat (with_reducible refine M.Below.drewN ?_ _)); go_grown) (by intro u hu; rw [M.cell_block1 hu]; dsimp only; omega)) (hb.mono (by go_size))
          have VV17 : M.Var w17 (w.heap.size) #[.int .i64 a1, .int .i64 a2] ∧ M.Var w17 (w.heap.size + 1) #[.int .i64 b1, .int .i64 b2] ∧ M.Var w17 (w.heap.size + 1 + 1) #[.int .i64 k] ∧ M.Var w17 (w.heap.size + 1 + 1 + 1) #[.int .i64 n] ∧ M.Var w17 (B) #[.int .i64 3] ∧ M.Var w17 (wc.heap.size + 1) #[.int .i64 0, .int .i64 0] ∧ M.Var w17 (wc.heap.size + 1 + 1) #[.int .i64 x1, .int .i64 x2] ∧ M.Var w17 (wc.heap.size + 1 + 1 + 1) #[.int .i64 0] := by refine ⟨?_, ?_, ?_, ?_, ?_, ?_, ?_, ?_⟩ <;> exact M.Var.mono' (u := M.sets _ ([(⟨wc.heap.size, 0, none⟩, .int .i64 0)])) (by (try simp only [M.sets_append]); exact (M.var_sets_far ([(⟨wc.heap.size, 0, none⟩, .int .i64 0)]) (by (repeat (first | (with_reducible assumption) | (with_reducible apply M.var_set45) | (with_reducible refine M.var_alloc' _ _ _ ?_; first | rfl | (simp [go_sem]; done)) | (with_reducible refine M.Var.alloc ?_ _) | (with_reducible refine M.Var.drewN ?_ _) | (with_reducible refine M.Var.drew ?_) | (with_reducible refine M.Var.far ?_ _ _ ?hFar; case hFar => (first | omega | ((try simp [go_sem]) <;> omega))) | fail))) (by intro u hu; all_goals (first | rw [M.usBx_block hu] | rw [M.usV_block hu] | rw [M.usI_block hu] | rw [M.usHt_block hu] | rw [M.usBd_block hu] | rw [M.usB_block hu] | rw [M.cell_block1 hu] | (exfalso; simp at hu; done)); all_goals ((try simp [go_sem]) <;> omega)))) (M.sets_size _ _) hb
          obtain ⟨V17_a, V17_b, V17_k, V17_n, V17_o, V17_w, V17_v, V17_y⟩ := VV17
          have V17_c : M.Var w17 (wc.heap.size) #[.int .i64 0] := M.Var.mono' (u := M.sets _ ([(⟨wc.heap.size, 0, none⟩, .int .i64 0)])) (by (try simp only [M.sets_append]); exact (M.var_setI (by (repeat (first | (with_reducible assumption) | (with_reducible apply M.var_set45) | (with_reducible refine M.var_alloc' _ _ _ ?_; first | rfl | (simp [go_sem]; done)) | (with_reducible refine M.Var.alloc ?_ _) | (with_reducible refine M.Var.drewN ?_ _) | (with_reducible refine M.Var.drew ?_) | (with_reducible refine M.Var.far ?_ _ _ ?hFar; case hFar => (first | omega | ((try simp [go_sem]) <;> omega))) | fail)) : M.Var _ (wc.heap.size) #[.int .i64 0]) _)) (M.sets_size _ _) hb
          have q17_a_0 : w17.cell? ⟨w.heap.size, 0, none⟩ = some (.int .i64 a1) := V17_a.c 0 _ rfl
          have q17_a_1 : w17.cell? ⟨w.heap.size, 1, none⟩ = some (.int .i64 a2) := V17_a.c 1 _ rfl
          have f17_a := V17_a.2.2; have L17_a := V17_a.lt; have N17_a := Nat.ne_of_gt L17_a; have M17_a := Nat.ne_of_lt L17_a
          have HV17_a := Lib.hid V17_a
          have q17_b_0 : w17.cell? ⟨w.heap.size + 1, 0, none⟩ = some (.int .i64 b1) := V17_b.c 0 _ rfl
          have q17_b_1 : w17.cell? ⟨w.heap.size + 1, 1, none⟩ = some (.int .i64 b2) := V17_b.c 1 _ rfl
          have f17_b := V17_b.2.2; have L17_b := V17_b.lt; have N17_b := Nat.ne_of_gt L17_b; have M17_b := Nat.ne_of_lt L17_b
          have HV17_b := Lib.hid V17_b
          have q17_k_0 : w17.cell? ⟨w.heap.size + 1 + 1, 0, none⟩ = some (.int .i64 k) := V17_k.c 0 _ rfl
          have f17_k := V17_k.2.2; have L17_k := V17_k.lt; have N17_k := Nat.ne_of_gt L17_k; have M17_k := Nat.ne_of_lt L17_k
          have HV17_k := Lib.hid V17_k
          have q17_n_0 : w17.cell? ⟨w.heap.size + 1 + 1 + 1, 0, none⟩ = some (.int .i64 n) := V17_n.c 0 _ rfl
          have f17_n := V17_n.2.2; have L17_n := V17_n.lt; have N17_n := Nat.ne_of_gt L17_n; have M17_n := Nat.ne_of_lt L17_n
          have HV17_n := Lib.hid V17_n
          have q17_o_0 : w17.cell? ⟨B, 0, none⟩ = some (.int .i64 3) := V17_o.c 0 _ rfl
          have f17_o := V17_o.2.2; have L17_o := V17_o.lt; have N17_o := Nat.ne_of_gt L17_o; have M17_o := Nat.ne_of_lt L17_o
          have HV17_o := Lib.hid V17_o
          have q17_c_0 : w17.cell? ⟨wc.heap.size, 0, none⟩ = some (.int .i64 0) := V17_c.c 0 _ rfl
          have f17_c := V17_c.2.2; have L17_c := V17_c.lt; have N17_c := Nat.ne_of_gt L17_c; have M17_c := Nat.ne_of_lt L17_c
          have HV17_c := Lib.hid V17_c
          have q17_w_0 : w17.cell? ⟨wc.heap.size + 1, 0, none⟩ = some (.int .i64 0) := V17_w.c 0 _ rfl
          have q17_w_1 : w17.cell? ⟨wc.heap.size + 1, 1, none⟩ = some (.int .i64 0) := V17_w.c 1 _ rfl
          have f17_w := V17_w.2.2; have L17_w := V17_w.lt; have N17_w := Nat.ne_of_gt L17_w; have M17_w := Nat.ne_of_lt L17_w
          have HV17_w := Lib.hid V17_w
          have q17_v_0 : w17.cell? ⟨wc.heap.size + 1 + 1, 0, none⟩ = some (.int .i64 x1) := V17_v.c 0 _ rfl
          have q17_v_1 : w17.cell? ⟨wc.heap.size + 1 + 1, 1, none⟩ = some (.int .i64 x2) := V17_v.c 1 _ rfl
          have f17_v := V17_v.2.2; have L17_v := V17_v.lt; have N17_v := Nat.ne_of_gt L17_v; have M17_v := Nat.ne_of_lt L17_v
          have HV17_v := Lib.hid V17_v
          have q17_y_0 : w17.cell? ⟨wc.heap.size + 1 + 1 + 1, 0, none⟩ = some (.int .i64 0) := V17_y.c 0 _ rfl
          have f17_y := V17_y.2.2; have L17_y := V17_y.lt; have N17_y := Nat.ne_of_gt L17_y; have M17_y := Nat.ne_of_lt L17_y
          have HV17_y := Lib.hid V17_y
          have S17 := G17.size; clear hb
          go_wp2_with fail
          go_roundg gf
          case measure => omega
          case rel => refine ⟨w17.heap.size, 4, by omega, by omega, rfl, by omega, ?_, ?_, ?_, ?_, ?_, by have G := G17; (repeat (with_reducible refine M.Below.drewN ?_ _)); go_grown⟩ <;> ((repeat (first | (with_reducible assumption) | (with_reducible apply M.var_setV) | (with_reducible apply M.var_setI) | (with_reducible apply M.var_setB) | (with_reducible apply M.var_setHt) | (with_reducible apply M.var_setBd) | (with_reducible apply M.var_set2) | (with_reducible apply M.var_set3) | (with_reducible apply M.var_set4) | (with_reducible apply M.var_set45) | (with_reducible apply M.var_set67) | (with_reducible apply M.var_setF) | (with_reducible refine M.var_alloc' _ _ _ ?_; first | rfl | (focus (simp [go_sem]; done))) | (with_reducible refine M.Var.alloc ?_ _) | (with_reducible refine M.Var.drewN ?_ _) | (with_reducible refine M.Var.drew ?_) | (with_reducible refine M.Var.far ?_ _ _ ?hFar; case hFar => (first | omega | ((try simp [go_sem]) <;> omega))) | fail)))
      · rcases hP : dotX (a1, a2) (b1, b2) with i | y1
        · have z1 := bne_iff_ne.2 (nz_dot _ _ i hP); have z1b := beq_eq_false_iff_ne.2 (nz_dot _ _ i hP)
          have K1 := Lib.hid (fun pb w hp => (refDot_x pb 0 a1 a2 b1 b2 ha1 ha2 hB1 hB2 w hp).mono fun en w' h => M.relI_err hP h)
          replace hP := Lib.hid hP
          have qc_o_0 : wc.cell? ⟨B, 0, none⟩ = some (.int .i64 4) := Vc_o.c 0 _ rfl
          have fc_o := Vc_o.2.2; have Lc_o := Vc_o.lt; have Nc_o := Nat.ne_of_gt Lc_o; have Mc_o := Nat.ne_of_lt Lc_o
          have qc_a_0 : wc.cell? ⟨w.heap.size, 0, none⟩ = some (.int .i64 a1) := Vc_a.c 0 _ rfl
          have qc_a_1 : wc.cell? ⟨w.heap.size, 1, none⟩ = some (.int .i64 a2) := Vc_a.c 1 _ rfl
          have fc_a := Vc_a.2.2; have Lc_a := Vc_a.lt; have Nc_a := Nat.ne_of_gt Lc_a; have Mc_a := Nat.ne_of_lt Lc_a
          have qc_b_0 : wc.cell? ⟨w.heap.size + 1, 0, none⟩ = some (.int .i64 b1) := Vc_b.c 0 _ rfl
          have qc_b_1 : wc.cell? ⟨w.heap.size + 1, 1, none⟩ = some (.int .i64 b2) := Vc_b.c 1 _ rfl
          have fc_b := Vc_b.2.2; have Lc_b := Vc_b.lt; have Nc_b := Nat.ne_of_gt Lc_b; have Mc_b := Nat.ne_of_lt Lc_b
          have qc_k_0 : wc.cell? ⟨w.heap.size + 1 + 1, 0, none⟩ = some (.int .i64 k) := Vc_k.c 0 _ rfl
          have fc_k := Vc_k.2.2; have Lc_k := Vc_k.lt; have Nc_k := Nat.ne_of_gt Lc_k; have Mc_k := Nat.ne_of_lt Lc_k
          have qc_n_0 : wc.cell? ⟨w.heap.size + 1 + 1 + 1, 0, none⟩ = some (.int .i64 n) := Vc_n.c 0 _ rfl
          have fc_n := Vc_n.2.2; have Lc_n := Vc_n.lt; have Nc_n := Nat.ne_of_gt Lc_n; have Mc_n := Nat.ne_of_lt Lc_n
          go_wp2_with fail
          refine (try_c 110 #[.pointer (some ⟨B, 0, none⟩), .pointer (some ⟨w.heap.size, 0, none⟩), .pointer (some ⟨w.heap.size + 1, 0, none⟩), .pointer (some ⟨wc.heap.size + 1 + 1, 0, none⟩), .pointer (some ⟨w.heap.size + 1 + 1, 0, none⟩), .pointer (some ⟨wc.heap.size + 1 + 1 + 1, 0, none⟩), .pointer (some ⟨w.heap.size + 1 + 1 + 1, 0, none⟩)] _ (i) ([]) (fun _ => rfl) ?_ ?_).mono ?_
          · intro u hu; (try simp only [List.mem_append] at hu); (repeat' (obtain hu | hu := (hu : _ ∨ _))); all_goals (first | rw [M.usBx_block hu] | rw [M.usV_block hu] | rw [M.usI_block hu] | rw [M.usHt_block hu] | rw [M.usBd_block hu] | rw [M.usB_block hu] | rw [M.cell_block1 hu] | (exfalso; simp at hu; done)); all_goals ((try simp [go_sem]) <;> omega)
          · intro w1' hb; exact (cloVT4 _ _ _ _ _ _ _ a1 a2 ha1 ha2 b1 b2 hB1 hB2 _ (.error i : X (Int)) hP.out w1' (M.Var.mono (b := B) (cs := #[.int .i64 4]) (by (repeat (first | (with_reducible assumption) | (with_reducible apply M.var_set45) | (with_reducible refine M.var_alloc' _ _ _ ?_; first | rfl | (simp [go_sem]; done)) | (with_reducible refine M.Var.alloc ?_ _) | (with_reducible refine M.Var.drewN ?_ _) | (with_reducible refine M.Var.drew ?_) | (with_reducible refine M.Var.far ?_ _ _ ?hFar; case hFar => (first | omega | ((try simp [go_sem]) <;> omega))) | fail))) hb) (M.Var.mono (b := w.heap.size) (cs := #[.int .i64 a1, .int .i64 a2]) (by (repeat (first | (with_reducible assumption) | (with_reducible apply M.var_set45) | (with_reducible refine M.var_alloc' _ _ _ ?_; first | rfl | (simp [go_sem]; done)) | (with_reducible refine M.Var.alloc ?_ _) | (with_reducible refine M.Var.drewN ?_ _) | (with_reducible refine M.Var.drew ?_) | (with_reducible refine M.Var.far ?_ _ _ ?hFar; case hFar => (first | omega | ((try simp [go_sem]) <;> omega))) | fail))) hb) (M.Var.mono (b := w.heap.size + 1) (cs := #[.int .i64 b1, .int .i64 b2]) (by (repeat (first | (with_reducible assumption) | (with_reducible apply M.var_set45) | (with_reducible refine M.var_alloc' _ _ _ ?_; first | rfl | (simp [go_sem]; done)) | (with_reducible refine M.Var.alloc ?_ _) | (with_reducible refine M.Var.drewN ?_ _) | (with_reducible refine M.Var.drew ?_) | (with_reducible refine M.Var.far ?_ _ _ ?hFar; case hFar => (first | omega | ((try simp [go_sem]) <;> omega))) | fail))) hb) (M.Var.mono (b := wc.heap.size + 1 + 1 + 1) (cs := #[.int .i64 0]) (by (repeat (first | (with_reducible assumption) | (with_reducible apply M.var_set45) | (with_reducible refine M.var_alloc' _ _ _ ?_; first | rfl | (simp [go_sem]; done)) | (with_reducible refine M.Var.alloc ?_ _) | (with_reducible refine M.Var.drewN ?_ _) | (with_reducible refine M.Var.drew ?_) | (with_reducible refine M.Var.far ?_ _ _ ?hFar; case hFar => (first | omega | ((try simp [go_sem]) <;> omega))) | fail))) hb)).mono fun e w' h => h
          rintro en w18 ⟨rfl, hb⟩
          have G18 : Below w.heap.size w w18 := Below.trans (M.below_sets_own ([]) (by have G := HGc.out; (repeat (with_reducible refine M.Below.drewN ?_ _)); go_grown) (by intro u hu; (try simp only [List.mem_append] at hu); (repeat' (obtain hu | hu := (hu : _ ∨ _))); all_goals (first | rw [M.usBx_block hu] | rw [M.usV_block hu] | rw [M.usI_block hu] | rw [M.usHt_block hu] | rw [M.usBd_block hu] | rw [M.usB_block hu] | rw [M.cell_block1 hu] | (exfalso; simp at hu; done)); all_goals ((try simp [go_sem]) <;> omega))) (hb.mono (by go_size))
          have VV18 : M.Var w18 (w.heap.size) #[.int .i64 a1, .int .i64 a2] ∧ M.Var w18 (w.heap.size + 1) #[.int .i64 b1, .int .i64 b2] ∧ M.Var w18 (w.heap.size + 1 + 1) #[.int .i64 k] ∧ M.Var w18 (w.heap.size + 1 + 1 + 1) #[.int .i64 n] ∧ M.Var w18 (B) #[.int .i64 4] ∧ M.Var w18 (wc.heap.size) #[.int .i64 0] ∧ M.Var w18 (wc.heap.size + 1) #[.int .i64 0, .int .i64 0] ∧ M.Var w18 (wc.heap.size + 1 + 1) #[.int .i64 0, .int .i64 0] ∧ M.Var w18 (wc.heap.size + 1 + 1 + 1) #[.int .i64 0] := by refine ⟨?_, ?_, ?_, ?_, ?_, ?_, ?_, ?_, ?_⟩ <;> exact M.Var.mono' (u := M.sets _ ([])) (by (try simp only [M.sets_append]); exact (M.var_sets_far ([]) (by (repeat (first | (with_reducible assumption) | (with_reducible apply M.var_set45) | (with_reducible refine M.var_alloc' _ _ _ ?_; first | rfl | (simp [go_sem]; done)) | (with_reducible refine M.Var.alloc ?_ _) | (with_reducible refine M.Var.drewN ?_ _) | (with_reducible refine M.Var.drew ?_) | (with_reducible refine M.Var.far ?_ _ _ ?hFar; case hFar => (first | omega | ((try simp [go_sem]) <;> omega))) | fail))) (by intro u hu; all_goals (first | rw [M.usBx_block hu] | rw [M.usV_block hu] | rw [M.usI_block hu] | rw [M.usHt_block hu] | rw [M.usBd_block hu] | rw [M.usB_block hu] | rw [M.cell_block1 hu] | (exfalso; simp at hu; done)); all_goals ((try simp [go_sem]) <;> omega)))) (M.sets_size _ _) hb
          obtain ⟨V18_a, V18_b, V18_k, V18_n, V18_o, V18_c, V18_w, V18_v, V18_y⟩ := VV18
          have q18_a_0 : w18.cell? ⟨w.heap.size, 0, none⟩ = some (.int .i64 a1) := V18_a.c 0 _ rfl
          have q18_a_1 : w18.cell? ⟨w.heap.size, 1, none⟩ = some (.int .i64 a2) := V18_a.c 1 _ rfl
          have f18_a := V18_a.2.2; have L18_a := V18_a.lt; have N18_a := Nat.ne_of_gt L18_a; have M18_a := Nat.ne_of_lt L18_a
          have HV18_a := Lib.hid V18_a
          have q18_b_0 : w18.cell? ⟨w.heap.size + 1, 0, none⟩ = some (.int .i64 b1) := V18_b.c 0 _ rfl
          have q18_b_1 : w18.cell? ⟨w.heap.size + 1, 1, none⟩ = some (.int .i64 b2) := V18_b.c 1 _ rfl
          have f18_b := V18_b.2.2; have L18_b := V18_b.lt; have N18_b := Nat.ne_of_gt L18_b; have M18_b := Nat.ne_of_lt L18_b
          have HV18_b := Lib.hid V18_b
          have q18_k_0 : w18.cell? ⟨w.heap.size + 1 + 1, 0, none⟩ = some (.int .i64 k) := V18_k.c 0 _ rfl
          have f18_k := V18_k.2.2; have L18_k := V18_k.lt; have N18_k := Nat.ne_of_gt L18_k; have M18_k := Nat.ne_of_lt L18_k
          have HV18_k := Lib.hid V18_k
          have q18_n_0 : w18.cell? ⟨w.heap.size + 1 + 1 + 1, 0, none⟩ = some (.int .i64 n) := V18_n.c 0 _ rfl
          have f18_n := V18_n.2.2; have L18_n := V18_n.lt; have N18_n := Nat.ne_of_gt L18_n; have M18_n := Nat.ne_of_lt L18_n
          have HV18_n := Lib.hid V18_n
          have q18_o_0 : w18.cell? ⟨B, 0, none⟩ = some (.int .i64 4) := V18_o.c 0 _ rfl
          have f18_o := V18_o.2.2; have L18_o := V18_o.lt; have N18_o := Nat.ne_of_gt L18_o; have M18_o := Nat.ne_of_lt L18_o
          have HV18_o := Lib.hid V18_o
          have q18_c_0 : w18.cell? ⟨wc.heap.size, 0, none⟩ = some (.int .i64 0) := V18_c.c 0 _ rfl
          have f18_c := V18_c.2.2; have L18_c := V18_c.lt; have N18_c := Nat.ne_of_gt L18_c; have M18_c := Nat.ne_of_lt L18_c
          have HV18_c := Lib.hid V18_c
          have q18_w_0 : w18.cell? ⟨wc.heap.size + 1, 0, none⟩ = some (.int .i64 0) := V18_w.c 0 _ rfl
          have q18_w_1 : w18.cell? ⟨wc.heap.size + 1, 1, none⟩ = some (.int .i64 0) := V18_w.c 1 _ rfl
          have f18_w := V18_w.2.2; have L18_w := V18_w.lt; have N18_w := Nat.ne_of_gt L18_w; have M18_w := Nat.ne_of_lt L18_w
          have HV18_w := Lib.hid V18_w
          have q18_v_0 : w18.cell? ⟨wc.heap.size + 1 + 1, 0, none⟩ = some (.int .i64 0) := V18_v.c 0 _ rfl
          have q18_v_1 : w18.cell? ⟨wc.heap.size + 1 + 1, 1, none⟩ = some (.int .i64 0) := V18_v.c 1 _ rfl
          have f18_v := V18_v.2.2; have L18_v := V18_v.lt; have N18_v := Nat.ne_of_gt L18_v; have M18_v := Nat.ne_of_lt L18_v
          have HV18_v := Lib.hid V18_v
          have q18_y_0 : w18.cell? ⟨wc.heap.size + 1 + 1 + 1, 0, none⟩ = some (.int .i64 0) := V18_y.c 0 _ rfl
          have f18_y := V18_y.2.2; have L18_y := V18_y.lt; have N18_y := Nat.ne_of_gt L18_y; have M18_y := Nat.ne_of_lt L18_y
          have HV18_y := Lib.hid V18_y
          have S18 := G18.size; clear hb
          go_wp2_with fail
          (with_reducible refine (K1.out _ _ (M.pcell_var (by (repeat (first | (with_reducible assumption) | (with_reducible apply M.var_set45) | (with_reducible refine M.var_alloc' _ _ _ ?_; first | rfl | (simp [go_sem]; done)) | (with_reducible refine M.Var.alloc ?_ _) | (with_reducible refine M.Var.drewN ?_ _) | (with_reducible refine M.Var.drew ?_) | (with_reducible refine M.Var.far ?_ _ _ ?hFar; case hFar => (first | omega | ((try simp [go_sem]) <;> omega))) | fail)) : M.Var _ (wc.heap.size) #[.int .i64 0]))).mono ?_); rintro en w19 ⟨⟨u1, rfl⟩, hb⟩
          have G19 : Below w.heap.size w w19 := Below.trans (M.below_sets_own ([(⟨wc.heap.size, 0, none⟩, .int .i64 i)]) (by have G := HGc.out; (repeat (with_reducible refine M.Below.drewN ?_ _)); go_grown) (by intro u hu; rw [M.cell_block1 hu]; dsimp only; omega)) (hb.mono (by go_size))
          have VV19 : M.Var w19 (w.heap.size) #[.int .i64 a1, .int .i64 a2] ∧ M.Var w19 (w.heap.size + 1) #[.int .i64 b1, .int .i64 b2] ∧ M.Var w19 (w.heap.size + 1 + 1) #[.int .i64 k] ∧ M.Var w19 (w.heap.size + 1 + 1 + 1) #[.int .i64 n] ∧ M.Var w19 (B) #[.int .i64 4] ∧ M.Var w19 (wc.heap.size + 1) #[.int .i64 0, .int .i64 0] ∧ M.Var w19 (wc.heap.size + 1 + 1) #[.int .i64 0, .int .i64 0] ∧ M.Var w19 (wc.heap.size + 1 + 1 + 1) #[.int .i64 0] := by refine ⟨?_, ?_, ?_, ?_, ?_, ?_, ?_, ?_⟩ <;> exact M.Var.mono' (u := M.sets _ ([(⟨wc.heap.size, 0, none⟩, .int .i64 i)])) (by (try simp only [M.sets_append]); exact (M.var_sets_far ([(⟨wc.heap.size, 0, none⟩, .int .i64 i)]) (by (repeat (first | (with_reducible assumption) | (with_reducible apply M.var_set45) | (with_reducible refine M.var_alloc' _ _ _ ?_; first | rfl | (simp [go_sem]; done)) | (with_reducible refine M.Var.alloc ?_ _) | (with_reducible refine M.Var.drewN ?_ _) | (with_reducible refine M.Var.drew ?_) | (with_reducible refine M.Var.far ?_ _ _ ?hFar; case hFar => (first | omega | ((try simp [go_sem]) <;> omega))) | fail))) (by intro u hu; all_goals (first | rw [M.usBx_block hu] | rw [M.usV_block hu] | rw [M.usI_block hu] | rw [M.usHt_block hu] | rw [M.usBd_block hu] | rw [M.usB_block hu] | rw [M.cell_block1 hu] | (exfalso; simp at hu; done)); all_goals ((try simp [go_sem]) <;> omega)))) (M.sets_size _ _) hb
          obtain ⟨V19_a, V19_b, V19_k, V19_n, V19_o, V19_w, V19_v, V19_y⟩ := VV19
          have V19_c : M.Var w19 (wc.heap.size) #[.int .i64 i] := M.Var.mono' (u := M.sets _ ([(⟨wc.heap.size, 0, none⟩, .int .i64 i)])) (by (try simp only [M.sets_append]); exact (M.var_setI (by (repeat (first | (with_reducible assumption) | (with_reducible apply M.var_set45) | (with_reducible refine M.var_alloc' _ _ _ ?_; first | rfl | (simp [go_sem]; done)) | (with_reducible refine M.Var.alloc ?_ _) | (with_reducible refine M.Var.drewN ?_ _) | (with_reducible refine M.Var.drew ?_) | (with_reducible refine M.Var.far ?_ _ _ ?hFar; case hFar => (first | omega | ((try simp [go_sem]) <;> omega))) | fail)) : M.Var _ (wc.heap.size) #[.int .i64 0]) _)) (M.sets_size _ _) hb
          have q19_a_0 : w19.cell? ⟨w.heap.size, 0, none⟩ = some (.int .i64 a1) := V19_a.c 0 _ rfl
          have q19_a_1 : w19.cell? ⟨w.heap.size, 1, none⟩ = some (.int .i64 a2) := V19_a.c 1 _ rfl
          have f19_a := V19_a.2.2; have L19_a := V19_a.lt; have N19_a := Nat.ne_of_gt L19_a; have M19_a := Nat.ne_of_lt L19_a
          have HV19_a := Lib.hid V19_a
          have q19_b_0 : w19.cell? ⟨w.heap.size + 1, 0, none⟩ = some (.int .i64 b1) := V19_b.c 0 _ rfl
          have q19_b_1 : w19.cell? ⟨w.heap.size + 1, 1, none⟩ = some (.int .i64 b2) := V19_b.c 1 _ rfl
          have f19_b := V19_b.2.2; have L19_b := V19_b.lt; have N19_b := Nat.ne_of_gt L19_b; have M19_b := Nat.ne_of_lt L19_b
          have HV19_b := Lib.hid V19_b
          have q19_k_0 : w19.cell? ⟨w.heap.size + 1 + 1, 0, none⟩ = some (.int .i64 k) := V19_k.c 0 _ rfl
          have f19_k := V19_k.2.2; have L19_k := V19_k.lt; have N19_k := Nat.ne_of_gt L19_k; have M19_k := Nat.ne_of_lt L19_k
          have HV19_k := Lib.hid V19_k
          have q19_n_0 : w19.cell? ⟨w.heap.size + 1 + 1 + 1, 0, none⟩ = some (.int .i64 n) := V19_n.c 0 _ rfl
          have f19_n := V19_n.2.2; have L19_n := V19_n.lt; have N19_n := Nat.ne_of_gt L19_n; have M19_n := Nat.ne_of_lt L19_n
          have HV19_n := Lib.hid V19_n
          have q19_o_0 : w19.cell? ⟨B, 0, none⟩ = some (.int .i64 4) := V19_o.c 0 _ rfl
          have f19_o := V19_o.2.2; have L19_o := V19_o.lt; have N19_o := Nat.ne_of_gt L19_o; have M19_o := Nat.ne_of_lt L19_o
          have HV19_o := Lib.hid V19_o
          have q19_c_0 : w19.cell? ⟨wc.heap.size, 0, none⟩ = some (.int .i64 i) := V19_c.c 0 _ rfl
          have f19_c := V19_c.2.2; have L19_c := V19_c.lt; have N19_c := Nat.ne_of_gt L19_c; have M19_c := Nat.ne_of_lt L19_c
          have HV19_c := Lib.hid V19_c
          have q19_w_0 : w19.cell? ⟨wc.heap.size + 1, 0, none⟩ = some (.int .i64 0) := V19_w.c 0 _ rfl
          have q19_w_1 : w19.cell? ⟨wc.heap.size + 1, 1, none⟩ = some (.int .i64 0) := V19_w.c 1 _ rfl
          have f19_w := V19_w.2.2; have L19_w := V19_w.lt; have N19_w := Nat.ne_of_gt L19_w; have M19_w := Nat.ne_of_lt L19_w
          have HV19_w := Lib.hid V19_w
          have q19_v_0 : w19.cell? ⟨wc.heap.size + 1 + 1, 0, none⟩ = some (.int .i64 0) := V19_v.c 0 _ rfl
          have q19_v_1 : w19.cell? ⟨wc.heap.size + 1 + 1, 1, none⟩ = some (.int .i64 0) := V19_v.c 1 _ rfl
          have f19_v := V19_v.2.2; have L19_v := V19_v.lt; have N19_v := Nat.ne_of_gt L19_v; have M19_v := Nat.ne_of_lt L19_v
          have HV19_v := Lib.hid V19_v
          have q19_y_0 : w19.cell? ⟨wc.heap.size + 1 + 1 + 1, 0, none⟩ = some (.int .i64 0) := V19_y.c 0 _ rfl
          have f19_y := V19_y.2.2; have L19_y := V19_y.lt; have N19_y := Nat.ne_of_gt L19_y; have M19_y := Nat.ne_of_lt L19_y
          have HV19_y := Lib.hid V19_y
          have S19 := G19.size; clear hb
          go_wp2_with fail
          go_roundg gf
          case measure => omega
          case rel => refine ⟨w19.heap.size, 5, by omega, by omega, rfl, by omega, ?_, ?_, ?_, ?_, ?_, by have G := G19; (repeat (with_reducible refine M.Below.drewN ?_ _)); go_grown⟩ <;> ((repeat (first | (with_reducible assumption) | (with_reducible apply M.var_setV) | (with_reducible apply M.var_setI) | (with_reducible apply M.var_setB) | (with_reducible apply M.var_setHt) | (with_reducible apply M.var_setBd) | (with_reducible apply M.var_set2) | (with_reducible apply M.var_set3) | (with_reducible apply M.var_set4) | (with_reducible apply M.var_set45) | (with_reducible apply M.var_set67) | (with_reducible apply M.var_setF) | (with_reducible refine M.var_alloc' _ _ _ ?_; first | rfl | (focus (simp [go_sem]; done))) | (with_reducible refine M.Var.alloc ?_ _) | (with_reducible refine M.Var.drewN ?_ _) | (with_reducible refine M.Var.drew ?_) | (with_reducible refine M.Var.far ?_ _ _ ?hFar; case hFar => (first | omega | ((try simp [go_sem]) <;> omega))) | fail)))
        · skip
          have K1 := Lib.hid (fun pb w hp => (refDot_x pb 0 a1 a2 b1 b2 ha1 ha2 hB1 hB2 w hp).mono fun en w' h => M.relI_ok hP h)
          replace hP := Lib.hid hP
          have qc_o_0 : wc.cell? ⟨B, 0, none⟩ = some (.int .i64 4) := Vc_o.c 0 _ rfl
          have fc_o := Vc_o.2.2; have Lc_o := Vc_o.lt; have Nc_o := Nat.ne_of_gt Lc_o; have Mc_o := Nat.ne_of_lt Lc_o
          have qc_a_0 : wc.cell? ⟨w.heap.size, 0, none⟩ = some (.int .i64 a1) := Vc_a.c 0 _ rfl
          have qc_a_1 : wc.cell? ⟨w.heap.size, 1, none⟩ = some (.int .i64 a2) := Vc_a.c 1 _ rfl
          have fc_a := Vc_a.2.2; have Lc_a := Vc_a.lt; have Nc_a := Nat.ne_of_gt Lc_a; have Mc_a := Nat.ne_of_lt Lc_a
          have qc_b_0 : wc.cell? ⟨w.heap.size + 1, 0, none⟩ = some (.int .i64 b1) := Vc_b.c 0 _ rfl
          have qc_b_1 : wc.cell? ⟨w.heap.size + 1, 1, none⟩ = some (.int .i64 b2) := Vc_b.c 1 _ rfl
          have fc_b := Vc_b.2.2; have Lc_b := Vc_b.lt; have Nc_b := Nat.ne_of_gt Lc_b; have Mc_b := Nat.ne_of_lt Lc_b
          have qc_k_0 : wc.cell? ⟨w.heap.size + 1 + 1, 0, none⟩ = some (.int .i64 k) := Vc_k.c 0 _ rfl
          have fc_k := Vc_k.2.2; have Lc_k := Vc_k.lt; have Nc_k := Nat.ne_of_gt Lc_k; have Mc_k := Nat.ne_of_lt Lc_k
          have qc_n_0 : wc.cell? ⟨w.heap.size + 1 + 1 + 1, 0, none⟩ = some (.int .i64 n) := Vc_n.c 0 _ rfl
          have fc_n := Vc_n.2.2; have Lc_n := Vc_n.lt; have Nc_n := Nat.ne_of_gt Lc_n; have Mc_n := Nat.ne_of_lt Lc_n
          go_wp2_with fail
          refine (try_c 110 #[.pointer (some ⟨B, 0, none⟩), .pointer (some ⟨w.heap.size, 0, none⟩), .pointer (some ⟨w.heap.size + 1, 0, none⟩), .pointer (some ⟨wc.heap.size + 1 + 1, 0, none⟩), .pointer (some ⟨w.heap.size + 1 + 1, 0, none⟩), .pointer (some ⟨wc.heap.size + 1 + 1 + 1, 0, none⟩), .pointer (some ⟨w.heap.size + 1 + 1 + 1, 0, none⟩)] _ (0) (usI (wc.heap.size + 1 + 1 + 1) (.ok y1)) (fun _ => rfl) ?_ ?_).mono ?_
          · intro u hu; (try simp only [List.mem_append] at hu); (repeat' (obtain hu | hu := (hu : _ ∨ _))); all_goals (first | rw [M.usBx_block hu] | rw [M.usV_block hu] | rw [M.usI_block hu] | rw [M.usHt_block hu] | rw [M.usBd_block hu] | rw [M.usB_block hu] | rw [M.cell_block1 hu] | (exfalso; simp at hu; done)); all_goals ((try simp [go_sem]) <;> omega)
          · intro w1' hb; exact (cloVT4 _ _ _ _ _ _ _ a1 a2 ha1 ha2 b1 b2 hB1 hB2 _ ((.ok y1) : X (Int)) hP.out w1' (M.Var.mono (b := B) (cs := #[.int .i64 4]) (by (repeat (first | (with_reducible assumption) | (with_reducible apply M.var_set45) | (with_reducible refine M.var_alloc' _ _ _ ?_; first | rfl | (simp [go_sem]; done)) | (with_reducible refine M.Var.alloc ?_ _) | (with_reducible refine M.Var.drewN ?_ _) | (with_reducible refine M.Var.drew ?_) | (with_reducible refine M.Var.far ?_ _ _ ?hFar; case hFar => (first | omega | ((try simp [go_sem]) <;> omega))) | fail))) hb) (M.Var.mono (b := w.heap.size) (cs := #[.int .i64 a1, .int .i64 a2]) (by (repeat (first | (with_reducible assumption) | (with_reducible apply M.var_set45) | (with_reducible refine M.var_alloc' _ _ _ ?_; first | rfl | (simp [go_sem]; done)) | (with_reducible refine M.Var.alloc ?_ _) | (with_reducible refine M.Var.drewN ?_ _) | (with_reducible refine M.Var.drew ?_) | (with_reducible refine M.Var.far ?_ _ _ ?hFar; case hFar => (first | omega | ((try simp [go_sem]) <;> omega))) | fail))) hb) (M.Var.mono (b := w.heap.size + 1) (cs := #[.int .i64 b1, .int .i64 b2]) (by (repeat (first | (with_reducible assumption) | (with_reducible apply M.var_set45) | (with_reducible refine M.var_alloc' _ _ _ ?_; first | rfl | (simp [go_sem]; done)) | (with_reducible refine M.Var.alloc ?_ _) | (with_reducible refine M.Var.drewN ?_ _) | (with_reducible refine M.Var.drew ?_) | (with_reducible refine M.Var.far ?_ _ _ ?hFar; case hFar => (first | omega | ((try simp [go_sem]) <;> omega))) | fail))) hb) (M.Var.mono (b := wc.heap.size + 1 + 1 + 1) (cs := #[.int .i64 0]) (by (repeat (first | (with_reducible assumption) | (with_reducible apply M.var_set45) | (with_reducible refine M.var_alloc' _ _ _ ?_; first | rfl | (simp [go_sem]; done)) | (with_reducible refine M.Var.alloc ?_ _) | (with_reducible refine M.Var.drewN ?_ _) | (with_reducible refine M.Var.drew ?_) | (with_reducible refine M.Var.far ?_ _ _ ?hFar; case hFar => (first | omega | ((try simp [go_sem]) <;> omega))) | fail))) hb)).mono fun e w' h => h
          rintro en w20 ⟨rfl, hb⟩
          have G20 : Below w.heap.size w w20 := Below.trans (M.below_sets_own (usI (wc.heap.size + 1 + 1 + 1) (.ok y1)) (by have G := HGc.out; (repeat (with_reducible refine M.Below.drewN ?_ _)); go_grown) (by intro u hu; (try simp only [List.mem_append] at hu); (repeat' (obtain hu | hu := (hu : _ ∨ _))); all_goals (first | rw [M.usBx_block hu] | rw [M.usV_block hu] | rw [M.usI_block hu] | rw [M.usHt_block hu] | rw [M.usBd_block hu] | rw [M.usB_block hu] | rw [M.cell_block1 hu] | (exfalso; simp at hu; done)); all_goals ((try simp [go_sem]) <;> omega))) (hb.mono (by go_size))
          have VV20 : M.Var w20 (w.heap.size) #[.int .i64 a1, .int .i64 a2] ∧ M.Var w20 (w.heap.size + 1) #[.int .i64 b1, .int .i64 b2] ∧ M.Var w20 (w.heap.size + 1 + 1) #[.int .i64 k] ∧ M.Var w20 (w.heap.size + 1 + 1 + 1) #[.int .i64 n] ∧ M.Var w20 (B) #[.int .i64 4] ∧ M.Var w20 (wc.heap.size) #[.int .i64 0] ∧ M.Var w20 (wc.heap.size + 1) #[.int .i64 0, .int .i64 0] ∧ M.Var w20 (wc.heap.size + 1 + 1) #[.int .i64 0, .int .i64 0] := by refine ⟨?_, ?_, ?_, ?_, ?_, ?_, ?_, ?_⟩ <;> exact M.Var.mono' (u := M.sets _ (usI (wc.heap.size + 1 + 1 + 1) (.ok y1))) (by (try simp only [M.sets_append]); exact (M.var_sets_far (usI (wc.heap.size + 1 + 1 + 1) (.ok y1)) (by (repeat (first | (with_reducible assumption) | (with_reducible apply M.var_set45) | (with_reducible refine M.var_alloc' _ _ _ ?_; first | rfl | (simp [go_sem]; done)) | (with_reducible refine M.Var.alloc ?_ _) | (with_reducible refine M.Var.drewN ?_ _) | (with_reducible refine M.Var.drew ?_) | (with_reducible refine M.Var.far ?_ _ _ ?hFar; case hFar => (first | omega | ((try simp [go_sem]) <;> omega))) | fail))) (by intro u hu; all_goals (first | rw [M.usBx_block hu] | rw [M.usV_block hu] | rw [M.usI_block hu] | rw [M.usHt_block hu] | rw [M.usBd_block hu] | rw [M.usB_block hu] | rw [M.cell_block1 hu] | (exfalso; simp at hu; done)); all_goals ((try simp [go_sem]) <;> omega)))) (M.sets_size _ _) hb
          obtain ⟨V20_a, V20_b, V20_k, V20_n, V20_o, V20_c, V20_w, V20_v⟩ := VV20
          have V20_y : M.Var w20 (wc.heap.size + 1 + 1 + 1) #[.int .i64 y1] := M.Var.mono' (u := M.sets _ (usI (wc.heap.size + 1 + 1 + 1) (.ok y1))) (by (try simp only [M.sets_append]); exact (M.var_setI (by (repeat (first | (with_reducible assumption) | (with_reducible apply M.var_set45) | (with_reducible refine M.var_alloc' _ _ _ ?_; first | rfl | (simp [go_sem]; done)) | (with_reducible refine M.Var.alloc ?_ _) | (with_reducible refine M.Var.drewN ?_ _) | (with_reducible refine M.Var.drew ?_) | (with_reducible refine M.Var.far ?_ _ _ ?hFar; case hFar => (first | omega | ((try simp [go_sem]) <;> omega))) | fail)) : M.Var _ (wc.heap.size + 1 + 1 + 1) #[.int .i64 0]) _)) (M.sets_size _ _) hb
          have q20_a_0 : w20.cell? ⟨w.heap.size, 0, none⟩ = some (.int .i64 a1) := V20_a.c 0 _ rfl
          have q20_a_1 : w20.cell? ⟨w.heap.size, 1, none⟩ = some (.int .i64 a2) := V20_a.c 1 _ rfl
          have f20_a := V20_a.2.2; have L20_a := V20_a.lt; have N20_a := Nat.ne_of_gt L20_a; have M20_a := Nat.ne_of_lt L20_a
          have HV20_a := Lib.hid V20_a
          have q20_b_0 : w20.cell? ⟨w.heap.size + 1, 0, none⟩ = some (.int .i64 b1) := V20_b.c 0 _ rfl
          have q20_b_1 : w20.cell? ⟨w.heap.size + 1, 1, none⟩ = some (.int .i64 b2) := V20_b.c 1 _ rfl
          have f20_b := V20_b.2.2; have L20_b := V20_b.lt; have N20_b := Nat.ne_of_gt L20_b; have M20_b := Nat.ne_of_lt L20_b
          have HV20_b := Lib.hid V20_b
          have q20_k_0 : w20.cell? ⟨w.heap.size + 1 + 1, 0, none⟩ = some (.int .i64 k) := V20_k.c 0 _ rfl
          have f20_k := V20_k.2.2; have L20_k := V20_k.lt; have N20_k := Nat.ne_of_gt L20_k; have M20_k := Nat.ne_of_lt L20_k
          have HV20_k := Lib.hid V20_k
          have q20_n_0 : w20.cell? ⟨w.heap.size + 1 + 1 + 1, 0, none⟩ = some (.int .i64 n) := V20_n.c 0 _ rfl
          have f20_n := V20_n.2.2; have L20_n := V20_n.lt; have N20_n := Nat.ne_of_gt L20_n; have M20_n := Nat.ne_of_lt L20_n
          have HV20_n := Lib.hid V20_n
          have q20_o_0 : w20.cell? ⟨B, 0, none⟩ = some (.int .i64 4) := V20_o.c 0 _ rfl
          have f20_o := V20_o.2.2; have L20_o := V20_o.lt; have N20_o := Nat.ne_of_gt L20_o; have M20_o := Nat.ne_of_lt L20_o
          have HV20_o := Lib.hid V20_o
          have q20_c_0 : w20.cell? ⟨wc.heap.size, 0, none⟩ = some (.int .i64 0) := V20_c.c 0 _ rfl
          have f20_c := V20_c.2.2; have L20_c := V20_c.lt; have N20_c := Nat.ne_of_gt L20_c; have M20_c := Nat.ne_of_lt L20_c
          have HV20_c := Lib.hid V20_c
          have q20_w_0 : w20.cell? ⟨wc.heap.size + 1, 0, none⟩ = some (.int .i64 0) := V20_w.c 0 _ rfl
          have q20_w_1 : w20.cell? ⟨wc.heap.size + 1, 1, none⟩ = some (.int .i64 0) := V20_w.c 1 _ rfl
          have f20_w := V20_w.2.2; have L20_w := V20_w.lt; have N20_w := Nat.ne_of_gt L20_w; have M20_w := Nat.ne_of_lt L20_w
          have HV20_w := Lib.hid V20_w
          have q20_v_0 : w20.cell? ⟨wc.heap.size + 1 + 1, 0, none⟩ = some (.int .i64 0) := V20_v.c 0 _ rfl
          have q20_v_1 : w20.cell? ⟨wc.heap.size + 1 + 1, 1, none⟩ = some (.int .i64 0) := V20_v.c 1 _ rfl
          have f20_v := V20_v.2.2; have L20_v := V20_v.lt; have N20_v := Nat.ne_of_gt L20_v; have M20_v := Nat.ne_of_lt L20_v
          have HV20_v := Lib.hid V20_v
          have q20_y_0 : w20.cell? ⟨wc.heap.size + 1 + 1 + 1, 0, none⟩ = some (.int .i64 y1) := V20_y.c 0 _ rfl
          have f20_y := V20_y.2.2; have L20_y := V20_y.lt; have N20_y := Nat.ne_of_gt L20_y; have M20_y := Nat.ne_of_lt L20_y
          have HV20_y := Lib.hid V20_y
          have S20 := G20.size; clear hb
          go_wp2_with fail
          (with_reducible refine (K1.out _ _ (M.pcell_var (by (repeat (first | (with_reducible assumption) | (with_reducible apply M.var_set45) | (with_reducible refine M.var_alloc' _ _ _ ?_; first | rfl | (simp [go_sem]; done)) | (with_reducible refine M.Var.alloc ?_ _) | (with_reducible refine M.Var.drewN ?_ _) | (with_reducible refine M.Var.drew ?_) | (with_reducible refine M.Var.far ?_ _ _ ?hFar; case hFar => (first | omega | ((try simp [go_sem]) <;> omega))) | fail)) : M.Var _ (wc.heap.size) #[.int .i64 0]))).mono ?_); rintro en w21 ⟨rfl, hb⟩
          have G21 : Below w.heap.size w w21 := Below.trans (M.below_sets_own ([(⟨wc.heap.size, 0, none⟩, .int .i64 0)]) (by have G := HGc.out; (repeat (with_reducible refine M.Below.drewN ?_ _)); go_grown) (by intro u hu; rw [M.cell_block1 hu]; dsimp only; omega)) (hb.mono (by go_size))
          have VV21 : M.Var w21 (w.heap.size) #[.int .i64 a1, .int .i64 a2] ∧ M.Var w21 (w.heap.size + 1) #[.int .i64 b1, .int .i64 b2] ∧ M.Var w21 (w.heap.size + 1 + 1) #[.int .i64 k] ∧ M.Var w21 (w.heap.size + 1 + 1 + 1) #[.int .i64 n] ∧ M.Var w21 (B) #[.int .i64 4] ∧ M.Var w21 (wc.heap.size + 1) #[.int .i64 0, .int .i64 0] ∧ M.Var w21 (wc.heap.size + 1 + 1) #[.int .i64 0, .int .i64 0] ∧ M.Var w21 (wc.heap.size + 1 + 1 + 1) #[.int .i64 y1] := by refine ⟨?_, ?_, ?_, ?_, ?_, ?_, ?_, ?_⟩ <;> exact M.Var.mono' (u := M.sets _ ([(⟨wc.heap.size, 0, none⟩, .int .i64 0)])) (by (try simp only [M.sets_append]); exact (M.var_sets_far ([(⟨wc.heap.size, 0, none⟩, .int .i64 0)]) (by (repeat (first | (with_reducible assumption) | (with_reducible apply M.var_set45) | (with_reducible refine M.var_alloc' _ _ _ ?_; first | rfl | (simp [go_sem]; done)) | (with_reducible refine M.Var.alloc ?_ _) | (with_reducible refine M.Var.drewN ?_ _) | (with_reducible refine M.Var.drew ?_) | (with_reducible refine M.Var.far ?_ _ _ ?hFar; case hFar => (first | omega | ((try simp [go_sem]) <;> omega))) | fail))) (by intro u hu; all_goals (first | rw [M.usBx_block hu] | rw [M.usV_block hu] | rw [M.usI_block hu] | rw [M.usHt_block hu] | rw [M.usBd_block hu] | rw [M.usB_block hu] | rw [M.cell_block1 hu] | (exfalso; simp at hu; done)); all_goals ((try simp [go_sem]) <;> omega)))) (M.sets_size _ _) hb
          obtain ⟨V21_a, V21_b, V21_k, V21_n, V21_o, V21_w, V21_v, V21_y⟩ := VV21
          have V21_c : M.Var w21 (wc.heap.size) #[.int .i64 0] := M.Var.mono' (u := M.sets _ ([(⟨wc.heap.size, 0, none⟩, .int .i64 0)])) (by (try simp only [M.sets_append]); exact (M.var_setI (by (repeat (first | (with_reducible assumption) | (with_reducible apply M.var_set45) | (with_reducible refine M.var_alloc' _ _ _ ?_; first | rfl | (simp [go_sem]; done)) | (with_reducible refine M.Var.alloc ?_ _) | (with_reducible refine M.Var.drewN ?_ _) | (with_reducible refine M.Var.drew ?_) | (with_reducible refine M.Var.far ?_ _ _ ?hFar; case hFar => (first | omega | ((try simp [go_sem]) <;> omega))) | fail)) : M.Var _ (wc.heap.size) #[.int .i64 0]) _)) (M.sets_size _ _) hb
          have q21_a_0 : w21.cell? ⟨w.heap.size, 0, none⟩ = some (.int .i64 a1) := V21_a.c 0 _ rfl
          have q21_a_1 : w21.cell? ⟨w.heap.size, 1, none⟩ = some (.int .i64 a2) := V21_a.c 1 _ rfl
          have f21_a := V21_a.2.2; have L21_a := V21_a.lt; have N21_a := Nat.ne_of_gt L21_a; have M21_a := Nat.ne_of_lt L21_a
          have HV21_a := Lib.hid V21_a
          have q21_b_0 : w21.cell? ⟨w.heap.size + 1, 0, none⟩ = some (.int .i64 b1) := V21_b.c 0 _ rfl
          have q21_b_1 : w21.cell? ⟨w.heap.size + 1, 1, none⟩ = some (.int .i64 b2) := V21_b.c 1 _ rfl
          have f21_b := V21_b.2.2; have L21_b := V21_b.lt; have N21_b := Nat.ne_of_gt L21_b; have M21_b := Nat.ne_of_lt L21_b
          have HV21_b := Lib.hid V21_b
          have q21_k_0 : w21.cell? ⟨w.heap.size + 1 + 1, 0, none⟩ = some (.int .i64 k) := V21_k.c 0 _ rfl
          have f21_k := V21_k.2.2; have L21_k := V21_k.lt; have N21_k := Nat.ne_of_gt L21_k; have M21_k := Nat.ne_of_lt L21_k
          have HV21_k := Lib.hid V21_k
          have q21_n_0 : w21.cell? ⟨w.heap.size + 1 + 1 + 1, 0, none⟩ = some (.int .i64 n) := V21_n.c 0 _ rfl
          have f21_n := V21_n.2.2; have L21_n := V21_n.lt; have N21_n := Nat.ne_of_gt L21_n; have M21_n := Nat.ne_of_lt L21_n
          have HV21_n := Lib.hid V21_n
          have q21_o_0 : w21.cell? ⟨B, 0, none⟩ = some (.int .i64 4) := V21_o.c 0 _ rfl
          have f21_o := V21_o.2.2; have L21_o := V21_o.lt; have N21_o := Nat.ne_of_gt L21_o; have M21_o := Nat.ne_of_lt L21_o
          have HV21_o := Lib.hid V21_o
          have q21_c_0 : w21.cell? ⟨wc.heap.size, 0, none⟩ = some (.int .i64 0) := V21_c.c 0 _ rfl
          have f21_c := V21_c.2.2; have L21_c := V21_c.lt; have N21_c := Nat.ne_of_gt L21_c; have M21_c := Nat.ne_of_lt L21_c
          have HV21_c := Lib.hid V21_c
          have q21_w_0 : w21.cell? ⟨wc.heap.size + 1, 0, none⟩ = some (.int .i64 0) := V21_w.c 0 _ rfl
          have q21_w_1 : w21.cell? ⟨wc.heap.size + 1, 1, none⟩ = some (.int .i64 0) := V21_w.c 1 _ rfl
          have f21_w := V21_w.2.2; have L21_w := V21_w.lt; have N21_w := Nat.ne_of_gt L21_w; have M21_w := Nat.ne_of_lt L21_w
          have HV21_w := Lib.hid V21_w
          have q21_v_0 : w21.cell? ⟨wc.heap.size + 1 + 1, 0, none⟩ = some (.int .i64 0) := V21_v.c 0 _ rfl
          have q21_v_1 : w21.cell? ⟨wc.heap.size + 1 + 1, 1, none⟩ = some (.int .i64 0) := V21_v.c 1 _ rfl
          have f21_v := V21_v.2.2; have L21_v := V21_v.lt; have N21_v := Nat.ne_of_gt L21_v; have M21_v := Nat.ne_of_lt L21_v
          have HV21_v := Lib.hid V21_v
          have q21_y_0 : w21.cell? ⟨wc.heap.size + 1 + 1 + 1, 0, none⟩ = some (.int .i64 y1) := V21_y.c 0 _ rfl
          have f21_y := V21_y.2.2; have L21_y := V21_y.lt; have N21_y := Nat.ne_of_gt L21_y; have M21_y := Nat.ne_of_lt L21_y
          have HV21_y := Lib.hid V21_y
          have S21 := G21.size; clear hb
          go_wp2_with fail
          go_roundg gf
          case measure => omega
          case rel => refine ⟨w21.heap.size, 5, by omega, by omega, rfl, by omega, ?_, ?_, ?_, ?_, ?_, by have G := G21; (repeat (with_reducible refine M.Below.drewN ?_ _)); go_grown⟩ <;> ((repeat (first | (with_reducible assumption) | (with_reducible apply M.var_setV) | (with_reducible apply M.var_setI) | (with_reducible apply M.var_setB) | (with_reducible apply M.var_setHt) | (with_reducible apply M.var_setBd) | (with_reducible apply M.var_set2) | (with_reducible apply M.var_set3) | (with_reducible apply M.var_set4) | (with_reducible apply M.var_set45) | (with_reducible apply M.var_set67) | (with_reducible apply M.var_setF) | (with_reducible refine M.var_alloc' _ _ _ ?_; first | rfl | (focus (simp [go_sem]; done))) | (with_reducible refine M.Var.alloc ?_ _) | (with_reducible refine M.Var.drewN ?_ _) | (with_reducible refine M.Var.drew ?_) | (with_reducible refine M.Var.far ?_ _ _ ?hFar; case hFar => (first | omega | ((try simp [go_sem]) <;> omega))) | fail)))
      · rcases hP : lenX a1 a2 with i | y1
        · have z1 := bne_iff_ne.2 (nz_len _ _ i hP); have z1b := beq_eq_false_iff_ne.2 (nz_len _ _ i hP)
          have K1 := Lib.hid (fun pb w hp => (refLen_x pb 0 a1 a2 ha1 ha2 w hp).mono fun en w' h => M.relI_err hP h)
          replace hP := Lib.hid hP
          have qc_o_0 : wc.cell? ⟨B, 0, none⟩ = some (.int .i64 5) := Vc_o.c 0 _ rfl
          have fc_o := Vc_o.2.2; have Lc_o := Vc_o.lt; have Nc_o := Nat.ne_of_gt Lc_o; have Mc_o := Nat.ne_of_lt Lc_o
          have qc_a_0 : wc.cell? ⟨w.heap.size, 0, none⟩ = some (.int .i64 a1) := Vc_a.c 0 _ rfl
          have qc_a_1 : wc.cell? ⟨w.heap.size, 1, none⟩ = some (.int .i64 a2) := Vc_a.c 1 _ rfl
          have fc_a := Vc_a.2.2; have Lc_a := Vc_a.lt; have Nc_a := Nat.ne_of_gt Lc_a; have Mc_a := Nat.ne_of_lt Lc_a
          have qc_b_0 : wc.cell? ⟨w.heap.size + 1, 0, none⟩ = some (.int .i64 b1) := Vc_b.c 0 _ rfl
          have qc_b_1 : wc.cell? ⟨w.heap.size + 1, 1, none⟩ = some (.int .i64 b2) := Vc_b.c 1 _ rfl
          have fc_b := Vc_b.2.2; have Lc_b := Vc_b.lt; have Nc_b := Nat.ne_of_gt Lc_b; have Mc_b := Nat.ne_of_lt Lc_b
          have qc_k_0 : wc.cell? ⟨w.heap.size + 1 + 1, 0, none⟩ = some (.int .i64 k) := Vc_k.c 0 _ rfl
          have fc_k := Vc_k.2.2; have Lc_k := Vc_k.lt; have Nc_k := Nat.ne_of_gt Lc_k; have Mc_k := Nat.ne_of_lt Lc_k
          have qc_n_0 : wc.cell? ⟨w.heap.size + 1 + 1 + 1, 0, none⟩ = some (.int .i64 n) := Vc_n.c 0 _ rfl
          have fc_n := Vc_n.2.2; have Lc_n := Vc_n.lt; have Nc_n := Nat.ne_of_gt Lc_n; have Mc_n := Nat.ne_of_lt Lc_n
          go_wp2_with fail
          refine (try_c 110 #[.pointer (some ⟨B, 0, none⟩), .pointer (some ⟨w.heap.size, 0, none⟩), .pointer (some ⟨w.heap.size + 1, 0, none⟩), .pointer (some ⟨wc.heap.size + 1 + 1, 0, none⟩), .pointer (some ⟨w.heap.size + 1 + 1, 0, none⟩), .pointer (some ⟨wc.heap.size + 1 + 1 + 1, 0, none⟩), .pointer (some ⟨w.heap.size + 1 + 1 + 1, 0, none⟩)] _ (i) ([]) (fun _ => rfl) ?_ ?_).mono ?_
          · intro u hu; (try simp only [List.mem_append] at hu); (repeat' (obtain hu | hu := (hu : _ ∨ _))); all_goals (first | rw [M.usBx_block hu] | rw [M.usV_block hu] | rw [M.usI_block hu] | rw [M.usHt_block hu] | rw [M.usBd_block hu] | rw [M.usB_block hu] | rw [M.cell_block1 hu] | (exfalso; simp at hu; done)); all_goals ((try simp [go_sem]) <;> omega)
          · intro w1' hb; exact (cloVT5 _ _ _ _ _ _ _ a1 a2 ha1 ha2 _ (.error i : X (Int)) hP.out w1' (M.Var.mono (b := B) (cs := #[.int .i64 5]) (by (repeat (first | (with_reducible assumption) | (with_reducible apply M.var_set45) | (with_reducible refine M.var_alloc' _ _ _ ?_; first | rfl | (simp [go_sem]; done)) | (with_reducible refine M.Var.alloc ?_ _) | (with_reducible refine M.Var.drewN ?_ _) | (with_reducible refine M.Var.drew ?_) | (with_reducible refine M.Var.far ?_ _ _ ?hFar; case hFar => (first | omega | ((try simp [go_sem]) <;> omega))) | fail))) hb) (M.Var.mono (b := w.heap.size) (cs := #[.int .i64 a1, .int .i64 a2]) (by (repeat (first | (with_reducible assumption) | (with_reducible apply M.var_set45) | (with_reducible refine M.var_alloc' _ _ _ ?_; first | rfl | (simp [go_sem]; done)) | (with_reducible refine M.Var.alloc ?_ _) | (with_reducible refine M.Var.drewN ?_ _) | (with_reducible refine M.Var.drew ?_) | (with_reducible refine M.Var.far ?_ _ _ ?hFar; case hFar => (first | omega | ((try simp [go_sem]) <;> omega))) | fail))) hb) (M.Var.mono (b := wc.heap.size + 1 + 1 + 1) (cs := #[.int .i64 0]) (by (repeat (first | (with_reducible assumption) | (with_reducible apply M.var_set45) | (with_reducible refine M.var_alloc' _ _ _ ?_; first | rfl | (simp [go_sem]; done)) | (with_reducible refine M.Var.alloc ?_ _) | (with_reducible refine M.Var.drewN ?_ _) | (with_reducible refine M.Var.drew ?_) | (with_reducible refine M.Var.far ?_ _ _ ?hFar; case hFar => (first | omega | ((try simp [go_sem]) <;> omega))) | fail))) hb)).mono fun e w' h => h
          rintro en w22 ⟨rfl, hb⟩
          have G22 : Below w.heap.size w w22 := Below.trans (M.below_sets_own ([]) (by have G := HGc.out; (repeat (with_reducible refine M.Below.drewN ?_ _)); go_grown) (by intro u hu; (try simp only [List.mem_append] at hu); (repeat' (obtain hu | hu := (hu : _ ∨ _))); all_goals (first | rw [M.usBx_block hu] | rw [M.usV_block hu] | rw [M.usI_block hu] | rw [M.usHt_block hu] | rw [M.usBd_block hu] | rw [M.usB_block hu] | rw [M.cell_block1 hu] | (exfalso; simp at hu; done)); all_goals ((try simp [go_sem]) <;> omega))) (hb.mono (by go_size))
          have VV22 : M.Var w22 (w.heap.size) #[.int .i64 a1, .int .i64 a2] ∧ M.Var w22 (w.heap.size + 1) #[.int .i64 b1, .int .i64 b2] ∧ M.Var w22 (w.heap.size + 1 + 1) #[.int .i64 k] ∧ M.Var w22 (w.heap.size + 1 + 1 + 1) #[.int .i64 n] ∧ M.Var w22 (B) #[.int .i64 5] ∧ M.Var w22 (wc.heap.size) #[.int .i64 0] ∧ M.Var w22 (wc.heap.size + 1) #[.int .i64 0, .int .i64 0] ∧ M.Var w22 (wc.heap.size + 1 + 1) #[.int .i64 0, .int .i64 0] ∧ M.Var w22 (wc.heap.size + 1 + 1 + 1) #[.int .i64 0] := by refine ⟨?_, ?_, ?_, ?_, ?_, ?_, ?_, ?_, ?_⟩ <;> exact M.Var.mono' (u := M.sets _ ([])) (by (try simp only [M.sets_append]); exact (M.var_sets_far ([]) (by (repeat (first | (with_reducible assumption) | (with_reducible apply M.var_set45) | (with_reducible refine M.var_alloc' _ _ _ ?_; first | rfl | (simp [go_sem]; done)) | (with_reducible refine M.Var.alloc ?_ _) | (with_reducible refine M.Var.drewN ?_ _) | (with_reducible refine M.Var.drew ?_) | (with_reducible refine M.Var.far ?_ _ _ ?hFar; case hFar => (first | omega | ((try simp [go_sem]) <;> omega))) | fail))) (by intro u hu; all_goals (first | rw [M.usBx_block hu] | rw [M.usV_block hu] | rw [M.usI_block hu] | rw [M.usHt_block hu] | rw [M.usBd_block hu] | rw [M.usB_block hu] | rw [M.cell_block1 hu] | (exfalso; simp at hu; done)); all_goals ((try simp [go_sem]) <;> omega)))) (M.sets_size _ _) hb
          obtain ⟨V22_a, V22_b, V22_k, V22_n, V22_o, V22_c, V22_w, V22_v, V22_y⟩ := VV22
          have q22_a_0 : w22.cell? ⟨w.heap.size, 0, none⟩ = some (.int .i64 a1) := V22_a.c 0 _ rfl
          have q22_a_1 : w22.cell? ⟨w.heap.size, 1, none⟩ = some (.int .i64 a2) := V22_a.c 1 _ rfl
          have f22_a := V22_a.2.2; have L22_a := V22_a.lt; have N22_a := Nat.ne_of_gt L22_a; have M22_a := Nat.ne_of_lt L22_a
          have HV22_a := Lib.hid V22_a
          have q22_b_0 : w22.cell? ⟨w.heap.size + 1, 0, none⟩ = some (.int .i64 b1) := V22_b.c 0 _ rfl
          have q22_b_1 : w22.cell? ⟨w.heap.size + 1, 1, none⟩ = some (.int .i64 b2) := V22_b.c 1 _ rfl
          have f22_b := V22_b.2.2; have L22_b := V22_b.lt; have N22_b := Nat.ne_of_gt L22_b; have M22_b := Nat.ne_of_lt L22_b
          have HV22_b := Lib.hid V22_b
          have q22_k_0 : w22.cell? ⟨w.heap.size + 1 + 1, 0, none⟩ = some (.int .i64 k) := V22_k.c 0 _ rfl
          have f22_k := V22_k.2.2; have L22_k := V22_k.lt; have N22_k := Nat.ne_of_gt L22_k; have M22_k := Nat.ne_of_lt L22_k
          have HV22_k := Lib.hid V22_k
          have q22_n_0 : w22.cell? ⟨w.heap.size + 1 + 1 + 1, 0, none⟩ = some (.int .i64 n) := V22_n.c 0 _ rfl
          have f22_n := V22_n.2.2; have L22_n := V22_n.lt; have N22_n := Nat.ne_of_gt L22_n; have M22_n := Nat.ne_of_lt L22_n
          have HV22_n := Lib.hid V22_n
          have q22_o_0 : w22.cell? ⟨B, 0, none⟩ = some (.int .i64 5) := V22_o.c 0 _ rfl
          have f22_o := V22_o.2.2; have L22_o := V22_o.lt; have N22_o := Nat.ne_of_gt L22_o; have M22_o := Nat.ne_of_lt L22_o
          have HV22_o := Lib.hid V22_o
          have q22_c_0 : w22.cell? ⟨wc.heap.size, 0, none⟩ = some (.int .i64 0) := V22_c.c 0 _ rfl
          have f22_c := V22_c.2.2; have L22_c := V22_c.lt; have N22_c := Nat.ne_of_gt L22_c; have M22_c := Nat.ne_of_lt L22_c
          have HV22_c := Lib.hid V22_c
          have q22_w_0 : w22.cell? ⟨wc.heap.size + 1, 0, none⟩ = some (.int .i64 0) := V22_w.c 0 _ rfl
          have q22_w_1 : w22.cell? ⟨wc.heap.size + 1, 1, none⟩ = some (.int .i64 0) := V22_w.c 1 _ rfl
          have f22_w := V22_w.2.2; have L22_w := V22_w.lt; have N22_w := Nat.ne_of_gt L22_w; have M22_w := Nat.ne_of_lt L22_w
          have HV22_w := Lib.hid V22_w
          have q22_v_0 : w22.cell? ⟨wc.heap.size + 1 + 1, 0, none⟩ = some (.int .i64 0) := V22_v.c 0 _ rfl
          have q22_v_1 : w22.cell? ⟨wc.heap.size + 1 + 1, 1, none⟩ = some (.int .i64 0) := V22_v.c 1 _ rfl
          have f22_v := V22_v.2.2; have L22_v := V22_v.lt; have N22_v := Nat.ne_of_gt L22_v; have M22_v := Nat.ne_of_lt L22_v
          have HV22_v := Lib.hid V22_v
          have q22_y_0 : w22.cell? ⟨wc.heap.size + 1 + 1 + 1, 0, none⟩ = some (.int .i64 0) := V22_y.c 0 _ rfl
          have f22_y := V22_y.2.2; have L22_y := V22_y.lt; have N22_y := Nat.ne_of_gt L22_y; have M22_y := Nat.ne_of_lt L22_y
          have HV22_y := Lib.hid V22_y
          have S22 := G22.size; clear hb
          go_wp2_with fail
          (with_reducible refine (K1.out _ _ (M.pcell_var (by (repeat (first | (with_reducible assumption) | (with_reducible apply M.var_set45) | (with_reducible refine M.var_alloc' _ _ _ ?_; first | rfl | (simp [go_sem]; done)) | (with_reducible refine M.Var.alloc ?_ _) | (with_reducible refine M.Var.drewN ?_ _) | (with_reducible refine M.Var.drew ?_) | (with_reducible refine M.Var.far ?_ _ _ ?hFar; case hFar => (first | omega | ((try simp [go_sem]) <;> omega))) | fail)) : M.Var _ (wc.heap.size) #[.int .i64 0]))).mono ?_); rintro en w23 ⟨⟨u1, rfl⟩, hb⟩
          have G23 : Below w.heap.size w w23 := Below.trans (M.below_sets_own ([(⟨wc.heap.size, 0, none⟩, .int .i64 i)]) (by have G := HGc.out; (repeat (with_reducible refine M.Below.drewN ?_ _)); go_grown) (by intro u hu; rw [M.cell_block1 hu]; dsimp only; omega)) (hb.mono (by go_size))
          have VV23 : M.Var w23 (w.heap.size) #[.int .i64 a1, .int .i64 a2] ∧ M.Var w23 (w.heap.size + 1) #[.int .i64 b1, .int .i64 b2] ∧ M.Var w23 (w.heap.size + 1 + 1) #[.int .i64 k] ∧ M.Var w23 (w.heap.size + 1 + 1 + 1) #[.int .i64 n] ∧ M.Var w23 (B) #[.int .i64 5] ∧ M.Var w23 (wc.heap.size + 1) #[.int .i64 0, .int .i64 0] ∧ M.Var w23 (wc.heap.size + 1 + 1) #[.int .i64 0, .int .i64 0] ∧ M.Var w23 (wc.heap.size + 1 + 1 + 1) #[.int .i64 0] := by refine ⟨?_, ?_, ?_, ?_, ?_, ?_, ?_, ?_⟩ <;> exact M.Var.mono' (u := M.sets _ ([(⟨wc.heap.size, 0, none⟩, .int .i64 i)])) (by (try simp only [M.sets_append]); exact (M.var_sets_far ([(⟨wc.heap.size, 0, none⟩, .int .i64 i)]) (by (repeat (first | (with_reducible assumption) | (with_reducible apply M.var_set45) | (with_reducible refine M.var_alloc' _ _ _ ?_; first | rfl | (simp [go_sem]; done)) | (with_reducible refine M.Var.alloc ?_ _) | (with_reducible refine M.Var.drewN ?_ _) | (with_reducible refine M.Var.drew ?_) | (with_reducible refine M.Var.far ?_ _ _ ?hFar; case hFar => (first | omega | ((try simp [go_sem]) <;> omega))) | fail))) (by intro u hu; all_goals (first | rw [M.usBx_block hu] | rw [M.usV_block hu] | rw [M.usI_block hu] | rw [M.usHt_block hu] | rw [M.usBd_block hu] | rw [M.usB_block hu] | rw [M.cell_block1 hu] | (exfalso; simp at hu; done)); all_goals ((try simp [go_sem]) <;> omega)))) (M.sets_size _ _) hb
          obtain ⟨V23_a, V23_b, V23_k, V23_n, V23_o, V23_w, V23_v, V23_y⟩ := VV23
          have V23_c : M.Var w23 (wc.heap.size) #[.int .i64 i] := M.Var.mono' (u := M.sets _ ([(⟨wc.heap.size, 0, none⟩, .int .i64 i)])) (by (try simp only [M.sets_append]); exact (M.var_setI (by (repeat (first | (with_reducible assumption) | (with_reducible apply M.var_set45) | (with_reducible refine M.var_alloc' _ _ _ ?_; first | rfl | (simp [go_sem]; done)) | (with_reducible refine M.Var.alloc ?_ _) | (with_reducible refine M.Var.drewN ?_ _) | (with_reducible refine M.Var.drew ?_) | (with_reducible refine M.Var.far ?_ _ _ ?hFar; case hFar => (first | omega | ((try simp [go_sem]) <;> omega))) | fail)) : M.Var _ (wc.heap.size) #[.int .i64 0]) _)) (M.sets_size _ _) hb
          have q23_a_0 : w23.cell? ⟨w.heap.size, 0, none⟩ = some (.int .i64 a1) := V23_a.c 0 _ rfl
          have q23_a_1 : w23.cell? ⟨w.heap.size, 1, none⟩ = some (.int .i64 a2) := V23_a.c 1 _ rfl
          have f23_a := V23_a.2.2; have L23_a := V23_a.lt; have N23_a := Nat.ne_of_gt L23_a; have M23_a := Nat.ne_of_lt L23_a
          have HV23_a := Lib.hid V23_a
          have q23_b_0 : w23.cell? ⟨w.heap.size + 1, 0, none⟩ = some (.int .i64 b1) := V23_b.c 0 _ rfl
          have q23_b_1 : w23.cell? ⟨w.heap.size + 1, 1, none⟩ = some (.int .i64 b2) := V23_b.c 1 _ rfl
          have f23_b := V23_b.2.2; have L23_b := V23_b.lt; have N23_b := Nat.ne_of_gt L23_b; have M23_b := Nat.ne_of_lt L23_b
          have HV23_b := Lib.hid V23_b
          have q23_k_0 : w23.cell? ⟨w.heap.size + 1 + 1, 0, none⟩ = some (.int .i64 k) := V23_k.c 0 _ rfl
          have f23_k := V23_k.2.2; have L23_k := V23_k.lt; have N23_k := Nat.ne_of_gt L23_k; have M23_k := Nat.ne_of_lt L23_k
          have HV23_k := Lib.hid V23_k
          have q23_n_0 : w23.cell? ⟨w.heap.size + 1 + 1 + 1, 0, none⟩ = some (.int .i64 n) := V23_n.c 0 _ rfl
          have f23_n := V23_n.2.2; have L23_n := V23_n.lt; have N23_n := Nat.ne_of_gt L23_n; have M23_n := Nat.ne_of_lt L23_n
          have HV23_n := Lib.hid V23_n
          have q23_o_0 : w23.cell? ⟨B, 0, none⟩ = some (.int .i64 5) := V23_o.c 0 _ rfl
          have f23_o := V23_o.2.2; have L23_o := V23_o.lt; have N23_o := Nat.ne_of_gt L23_o; have M23_o := Nat.ne_of_lt L23_o
          have HV23_o := Lib.hid V23_o
          have q23_c_0 : w23.cell? ⟨wc.heap.size, 0, none⟩ = some (.int .i64 i) := V23_c.c 0 _ rfl
          have f23_c := V23_c.2.2; have L23_c := V23_c.lt; have N23_c := Nat.ne_of_gt L23_c; have M23_c := Nat.ne_of_lt L23_c
          have HV23_c := Lib.hid V23_c
          have q23_w_0 : w23.cell? ⟨wc.heap.size + 1, 0, none⟩ = some (.int .i64 0) := V23_w.c 0 _ rfl
          have q23_w_1 : w23.cell? ⟨wc.heap.size + 1, 1, none⟩ = some (.int .i64 0) := V23_w.c 1 _ rfl
          have f23_w := V23_w.2.2; have L23_w := V23_w.lt; have N23_w := Nat.ne_of_gt L23_w; have M23_w := Nat.ne_of_lt L23_w
          have HV23_w := Lib.hid V23_w
          have q23_v_0 : w23.cell? ⟨wc.heap.size + 1 + 1, 0, none⟩ = some (.int .i64 0) := V23_v.c 0 _ rfl
          have q23_v_1 : w23.cell? ⟨wc.heap.size + 1 + 1, 1, none⟩ = some (.int .i64 0) := V23_v.c 1 _ rfl
          have f23_v := V23_v.2.2; have L23_v := V23_v.lt; have N23_v := Nat.ne_of_gt L23_v; have M23_v := Nat.ne_of_lt L23_v
          have HV23_v := Lib.hid V23_v
          have q23_y_0 : w23.cell? ⟨wc.heap.size + 1 + 1 + 1, 0, none⟩ = some (.int .i64 0) := V23_y.c 0 _ rfl
          have f23_y := V23_y.2.2; have L23_y := V23_y.lt; have N23_y := Nat.ne_of_gt L23_y; have M23_y := Nat.ne_of_lt L23_y
          have HV23_y := Lib.hid V23_y
          have S23 := G23.size; clear hb
          go_wp2_with fail
          go_roundg gf
          case measure => omega
          case rel => refine ⟨w23.heap.size, 6, by omega, by omega, rfl, by omega, ?_, ?_, ?_, ?_, ?_, by have G := G23; (repeat (with_reducible refine M.Below.drewN ?_ _)); go_grown⟩ <;> ((repeat (first | (with_reducible assumption) | (with_reducible apply M.var_setV) | (with_reducible apply M.var_setI) | (with_reducible apply M.var_setB) | (with_reducible apply M.var_setHt) | (with_reducible apply M.var_setBd) | (with_reducible apply M.var_set2) | (with_reducible apply M.var_set3) | (with_reducible apply M.var_set4) | (with_reducible apply M.var_set45) | (with_reducible apply M.var_set67) | (with_reducible apply M.var_setF) | (with_reducible refine M.var_alloc' _ _ _ ?_; first | rfl | (focus (simp [go_sem]; done))) | (with_reducible refine M.Var.alloc ?_ _) | (with_reducible refine M.Var.drewN ?_ _) | (with_reducible refine M.Var.drew ?_) | (with_reducible refine M.Var.far ?_ _ _ ?hFar; case hFar => (first | omega | ((try simp [go_sem]) <;> omega))) | fail)))
        · skip
          have K1 := Lib.hid (fun pb w hp => (refLen_x pb 0 a1 a2 ha1 ha2 w hp).mono fun en w' h => M.relI_ok hP h)
          replace hP := Lib.hid hP
          have qc_o_0 : wc.cell? ⟨B, 0, none⟩ = some (.int .i64 5) := Vc_o.c 0 _ rfl
          have fc_o := Vc_o.2.2; have Lc_o := Vc_o.lt; have Nc_o := Nat.ne_of_gt Lc_o; have Mc_o := Nat.ne_of_lt Lc_o
          have qc_a_0 : wc.cell? ⟨w.heap.size, 0, none⟩ = some (.int .i64 a1) := Vc_a.c 0 _ rfl
          have qc_a_1 : wc.cell? ⟨w.heap.size, 1, none⟩ = some (.int .i64 a2) := Vc_a.c 1 _ rfl
          have fc_a := Vc_a.2.2; have Lc_a := Vc_a.lt; have Nc_a := Nat.ne_of_gt Lc_a; have Mc_a := Nat.ne_of_lt Lc_a
          have qc_b_0 : wc.cell? ⟨w.heap.size + 1, 0, none⟩ = some (.int .i64 b1) := Vc_b.c 0 _ rfl
          have qc_b_1 : wc.cell? ⟨w.heap.size + 1, 1, none⟩ = some (.int .i64 b2) := Vc_b.c 1 _ rfl
          have fc_b := Vc_b.2.2; have Lc_b := Vc_b.lt; have Nc_b := Nat.ne_of_gt Lc_b; have Mc_b := Nat.ne_of_lt Lc_b
          have qc_k_0 : wc.cell? ⟨w.heap.size + 1 + 1, 0, none⟩ = some (.int .i64 k) := Vc_k.c 0 _ rfl
          have fc_k := Vc_k.2.2; have Lc_k := Vc_k.lt; have Nc_k := Nat.ne_of_gt Lc_k; have Mc_k := Nat.ne_of_lt Lc_k
          have qc_n_0 : wc.cell? ⟨w.heap.size + 1 + 1 + 1, 0, none⟩ = some (.int .i64 n) := Vc_n.c 0 _ rfl
          have fc_n := Vc_n.2.2; have Lc_n := Vc_n.lt; have Nc_n := Nat.ne_of_gt Lc_n; have Mc_n := Nat.ne_of_lt Lc_n
          go_wp2_with fail
          refine (try_c 110 #[.pointer (some ⟨B, 0, none⟩), .pointer (some ⟨w.heap.size, 0, none⟩), .pointer (some ⟨w.heap.size + 1, 0, none⟩), .pointer (some ⟨wc.heap.size + 1 + 1, 0, none⟩), .pointer (some ⟨w.heap.size + 1 + 1, 0, none⟩), .pointer (some ⟨wc.heap.size + 1 + 1 + 1, 0, none⟩), .pointer (some ⟨w.heap.size + 1 + 1 + 1, 0, none⟩)] _ (0) (usI (wc.heap.size + 1 + 1 + 1) (.ok y1)) (fun _ => rfl) ?_ ?_).mono ?_
          · intro u hu; (try simp only [List.mem_append] at hu); (repeat' (obtain hu | hu := (hu : _ ∨ _))); all_goals (first | rw [M.usBx_block hu] | rw [M.usV_block hu] | rw [M.usI_block hu] | rw [M.usHt_block hu] | rw [M.usBd_block hu] | rw [M.usB_block hu] | rw [M.cell_block1 hu] | (exfalso; simp at hu; done)); all_goals ((try simp [go_sem]) <;> omega)
          · intro w1' hb; exact (cloVT5 _ _ _ _ _ _ _ a1 a2 ha1 ha2 _ ((.ok y1) : X (Int)) hP.out w1' (M.Var.mono (b := B) (cs := #[.int .i64 5]) (by (repeat (first | (with_reducible assumption) | (with_reducible apply M.var_set45) | (with_reducible refine M.var_alloc' _ _ _ ?_; first | rfl | (simp [go_sem]; done)) | (with_reducible refine M.Var.alloc ?_ _) | (with_reducible refine M.Var.drewN ?_ _) | (with_reducible refine M.Var.drew ?_) | (with_reducible refine M.Var.far ?_ _ _ ?hFar; case hFar => (first | omega | ((try simp [go_sem]) <;> omega))) | fail))) hb) (M.Var.mono (b := w.heap.size) (cs := #[.int .i64 a1, .int .i64 a2]) (by (repeat (first | (with_reducible assumption) | (with_reducible apply M.var_set45) | (with_reducible refine M.var_alloc' _ _ _ ?_; first | rfl | (simp [go_sem]; done)) | (with_reducible refine M.Var.alloc ?_ _) | (with_reducible refine M.Var.drewN ?_ _) | (with_reducible refine M.Var.drew ?_) | (with_reducible refine M.Var.far ?_ _ _ ?hFar; case hFar => (first | omega | ((try simp [go_sem]) <;> omega))) | fail))) hb) (M.Var.mono (b := wc.heap.size + 1 + 1 + 1) (cs := #[.int .i64 0]) (by (repeat (first | (with_reducible assumption) | (with_reducible apply M.var_set45) | (with_reducible refine M.var_alloc' _ _ _ ?_; first | rfl | (simp [go_sem]; done)) | (with_reducible refine M.Var.alloc ?_ _) | (with_reducible refine M.Var.drewN ?_ _) | (with_reducible refine M.Var.drew ?_) | (with_reducible refine M.Var.far ?_ _ _ ?hFar; case hFar => (first | omega | ((try simp [go_sem]) <;> omega))) | fail))) hb)).mono fun e w' h => h
          rintro en w24 ⟨rfl, hb⟩
          have G24 : Below w.heap.size w w24 := Below.trans (M.below_sets_own (usI (wc.heap.size + 1 + 1 + 1) (.ok y1)) (by have G := HGc.out; (repeat (with_reducible refine M.Below.drewN ?_ _)); go_grown) (by intro u hu; (try simp only [List.mem_append] at hu); (repeat' (obtain hu | hu := (hu : _ ∨ _))); all_goals (first | rw [M.usBx_block hu] | rw [M.usV_block hu] | rw [M.usI_block hu] | rw [M.usHt_block hu] | rw [M.usBd_block hu] | rw [M.usB_block hu] | rw [M.cell_block1 hu] | (exfalso; simp at hu; done)); all_goals ((try simp [go_sem]) <;> omega))) (hb.mono (by go_size))
          have VV24 : M.Var w24 (w.heap.size) #[.int .i64 a1, .int .i64 a2] ∧ M.Var w24 (w.heap.size + 1) #[.int .i64 b1, .int .i64 b2] ∧ M.Var w24 (w.heap.size + 1 + 1) #[.int .i64 k] ∧ M.Var w24 (w.heap.size + 1 + 1 + 1) #[.int .i64 n] ∧ M.Var w24 (B) #[.int .i64 5] ∧ M.Var w24 (wc.heap.size) #[.int .i64 0] ∧ M.Var w24 (wc.heap.size + 1) #[.int .i64 0, .int .i64 0] ∧ M.Var w24 (wc.heap.size + 1 + 1) #[.int .i64 0, .int .i64 0] := by refine ⟨?_, ?_, ?_, ?_, ?_, ?_, ?_, ?_⟩ <;> exact M.Var.mono' (u := M.sets _ (usI (wc.heap.size + 1 + 1 + 1) (.ok y1))) (by (try simp only [M.sets_append]); exact (M.var_sets_far (usI (wc.heap.size + 1 + 1 + 1) (.ok y1)) (by (repeat (first | (with_reducible assumption) | (with_reducible apply M.var_set45) | (with_reducible refine M.var_alloc' _ _ _ ?_; first | rfl | (simp [go_sem]; done)) | (with_reducible refine M.Var.alloc ?_ _) | (with_reducible refine M.Var.drewN ?_ _) | (with_reducible refine M.Var.drew ?_) | (with_reducible refine M.Var.far ?_ _ _ ?hFar; case hFar => (first | omega | ((try simp [go_sem]) <;> omega))) | fail))) (by intro u hu; all_goals (first | rw [M.usBx_block hu] | rw [M.usV_block hu] | rw [M.usI_block hu] | rw [M.usHt_block hu] | rw [M.usBd_block hu] | rw [M.usB_block hu] | rw [M.cell_block1 hu] | (exfalso; simp at hu; done)); all_goals ((try simp [go_sem]) <;> omega)))) (M.sets_size _ _) hb
          obtain ⟨V24_a, V24_b, V24_k, V24_n, V24_o, V24_c, V24_w, V24_v⟩ := VV24
          have V24_y : M.Var w24 (wc.heap.size + 1 + 1 + 1) #[.int .i64 y1] := M.Var.mono' (u := M.sets _ (usI (wc.heap.size + 1 + 1 + 1) (.ok y1))) (by (try simp only [M.sets_append]); exact (M.var_setI (by (repeat (first | (with_reducible assumption) | (with_reducible apply M.var_set45) | (with_reducible refine M.var_alloc' _ _ _ ?_; first | rfl | (simp [go_sem]; done)) | (with_reducible refine M.Var.alloc ?_ _) | (with_reducible refine M.Var.drewN ?_ _) | (with_reducible refine M.Var.drew ?_) | (with_reducible refine M.Var.far ?_ _ _ ?hFar; case hFar => (first | omega | ((try simp [go_sem]) <;> omega))) | fail)) : M.Var _ (wc.heap.size + 1 + 1 + 1) #[.int .i64 0]) _)) (M.sets_size _ _) hb
          have q24_a_0 : w24.cell? ⟨w.heap.size, 0, none⟩ = some (.int .i64 a1) := V24_a.c 0 _ rfl
          have q24_a_1 : w24.cell? ⟨w.heap.size, 1, none⟩ = some (.int .i64 a2) := V24_a.c 1 _ rfl
          have f24_a := V24_a.2.2; have L24_a := V24_a.lt; have N24_a := Nat.ne_of_gt L24_a; have M24_a := Nat.ne_of_lt L24_a
          have HV24_a := Lib.hid V24_a
          have q24_b_0 : w24.cell? ⟨w.heap.size + 1, 0, none⟩ = some (.int .i64 b1) := V24_b.c 0 _ rfl
          have q24_b_1 : w24.cell? ⟨w.heap.size + 1, 1, none⟩ = some (.int .i64 b2) := V24_b.c 1 _ rfl
          have f24_b := V24_b.2.2; have L24_b := V24_b.lt; have N24_b := Nat.ne_of_gt L24_b; have M24_b := Nat.ne_of_lt L24_b
          have HV24_b := Lib.hid V24_b
          have q24_k_0 : w24.cell? ⟨w.heap.size + 1 + 1, 0, none⟩ = some (.int .i64 k) := V24_k.c 0 _ rfl
          have f24_k := V24_k.2.2; have L24_k := V24_k.lt; have N24_k := Nat.ne_of_gt L24_k; have M24_k := Nat.ne_of_lt L24_k
          have HV24_k := Lib.hid V24_k
          have q24_n_0 : w24.cell? ⟨w.heap.size + 1 + 1 + 1, 0, none⟩ = some (.int .i64 n) := V24_n.c 0 _ rfl
          have f24_n := V24_n.2.2; have L24_n := V24_n.lt; have N24_n := Nat.ne_of_gt L24_n; have M24_n := Nat.ne_of_lt L24_n
          have HV24_n := Lib.hid V24_n
          have q24_o_0 : w24.cell? ⟨B, 0, none⟩ = some (.int .i64 5) := V24_o.c 0 _ rfl
          have f24_o := V24_o.2.2; have L24_o := V24_o.lt; have N24_o := Nat.ne_of_gt L24_o; have M24_o := Nat.ne_of_lt L24_o
          have HV24_o := Lib.hid V24_o
          have q24_c_0 : w24.cell? ⟨wc.heap.size, 0, none⟩ = some (.int .i64 0) := V24_c.c 0 _ rfl
          have f24_c := V24_c.2.2; have L24_c := V24_c.lt; have N24_c := Nat.ne_of_gt L24_c; have M24_c := Nat.ne_of_lt L24_c
          have HV24_c := Lib.hid V24_c
          have q24_w_0 : w24.cell? ⟨wc.heap.size + 1, 0, none⟩ = some (.int .i64 0) := V24_w.c 0 _ rfl
          have q24_w_1 : w24.cell? ⟨wc.heap.size + 1, 1, none⟩ = some (.int .i64 0) := V24_w.c 1 _ rfl
          have f24_w := V24_w.2.2; have L24_w := V24_w.lt; have N24_w := Nat.ne_of_gt L24_w; have M24_w := Nat.ne_of_lt L24_w
          have HV24_w := Lib.hid V24_w
          have q24_v_0 : w24.cell? ⟨wc.heap.size + 1 + 1, 0, none⟩ = some (.int .i64 0) := V24_v.c 0 _ rfl
          have q24_v_1 : w24.cell? ⟨wc.heap.size + 1 + 1, 1, none⟩ = some (.int .i64 0) := V24_v.c 1 _ rfl
          have f24_v := V24_v.2.2; have L24_v := V24_v.lt; have N24_v := Nat.ne_of_gt L24_v; have M24_v := Nat.ne_of_lt L24_v
          have HV24_v := Lib.hid V24_v
          have q24_y_0 : w24.cell? ⟨wc.heap.size + 1 + 1 + 1, 0, none⟩ = some (.int .i64 y1) := V24_y.c 0 _ rfl
          have f24_y := V24_y.2.2; have L24_y := V24_y.lt; have N24_y := Nat.ne_of_gt L24_y; have M24_y := Nat.ne_of_lt L24_y
          have HV24_y := Lib.hid V24_y
          have S24 := G24.size; clear hb
          go_wp2_with fail
          (with_reducible refine (K1.out _ _ (M.pcell_var (by (repeat (first | (with_reducible assumption) | (with_reducible apply M.var_set45) | (with_reducible refine M.var_alloc' _ _ _ ?_; first | rfl | (simp [go_sem]; done)) | (with_reducible refine M.Var.alloc ?_ _) | (with_reducible refine M.Var.drewN ?_ _) | (with_reducible refine M.Var.drew ?_) | (with_reducible refine M.Var.far ?_ _ _ ?hFar; case hFar => (first | omega | ((try simp [go_sem]) <;> omega))) | fail)) : M.Var _ (wc.heap.size) #[.int .i64 0]))).mono ?_); rintro en w25 ⟨rfl, hb⟩
          have G25 : Below w.heap.size w w25 := Below.trans (M.below_sets_own ([(⟨wc.heap.size, 0, none⟩, .int .i64 0)]) (by have G := HGc.out; (repeat (with_reducible refine M.Below.drewN ?_ _)); go_grown) (by intro u hu; rw [M.cell_block1 hu]; dsimp only; omega)) (hb.mono (by go_size))
          have VV25 : M.Var w25 (w.heap.size) #[.int .i64 a1, .int .i64 a2] ∧ M.Var w25 (w.heap.size + 1) #[.int .i64 b1, .int .i64 b2] ∧ M.Var w25 (w.heap.size + 1 + 1) #[.int .i64 k] ∧ M.Var w25 (w.heap.size + 1 + 1 + 1) #[.int .i64 n] ∧ M.Var w25 (B) #[.int .i64 5] ∧ M.Var w25 (wc.heap.size + 1) #[.int .i64 0, .int .i64 0] ∧ M.Var w25 (wc.heap.size + 1 + 1) #[.int .i64 0, .int .i64 0] ∧ M.Var w25 (wc.heap.size + 1 + 1 + 1) #[.int .i64 y1] := by refine ⟨?_, ?_, ?_, ?_, ?_, ?_, ?_, ?_⟩ <;> exact M.Var.mono' (u := M.sets _ ([(⟨wc.heap.size, 0, none⟩, .int .i64 0)])) (by (try simp only [M.sets_append]); exact (M.var_sets_far ([(⟨wc.heap.size, 0, none⟩, .int .i64 0)]) (by (repeat (first | (with_reducible assumption) | (with_reducible apply M.var_set45) | (with_reducible refine M.var_alloc' _ _ _ ?_; first | rfl | (simp [go_sem]; done)) | (with_reducible refine M.Var.alloc ?_ _) | (with_reducible refine M.Var.drewN ?_ _) | (with_reducible refine M.Var.drew ?_) | (with_reducible refine M.Var.far ?_ _ _ ?hFar; case hFar => (first | omega | ((try simp [go_sem]) <;> omega))) | fail))) (by intro u hu; all_goals (first | rw [M.usBx_block hu] | rw [M.usV_block hu] | rw [M.usI_block hu] | rw [M.usHt_block hu] | rw [M.usBd_block hu] | rw [M.usB_block hu] | rw [M.cell_block1 hu] | (exfalso; simp at hu; done)); all_goals ((try simp [go_sem]) <;> omega)))) (M.sets_size _ _) hb
          obtain ⟨V25_a, V25_b, V25_k, V25_n, V25_o, V25_w, V25_v, V25_y⟩ := VV25
          have V25_c : M.Var w25 (wc.heap.size) #[.int .i64 0] := M.Var.mono' (u := M.sets _ ([(⟨wc.heap.size, 0, none⟩, .int .i64 0)])) (by (try simp only [M.sets_append]); exact (M.var_setI (by (repeat (first | (with_reducible assumption) | (with_reducible apply M.var_set45) | (with_reducible refine M.var_alloc' _ _ _ ?_; first | rfl | (simp [go_sem]; done)) | (with_reducible refine M.Var.alloc ?_ _) | (with_reducible refine M.Var.drewN ?_ _) | (with_reducible refine M.Var.drew ?_) | (with_reducible refine M.Var.far ?_ _ _ ?hFar; case hFar => (first | omega | ((try simp [go_sem]) <;> omega))) | fail)) : M.Var _ (wc.heap.size) #[.int .i64 0]) _)) (M.sets_size _ _) hb
          have q25_a_0 : w25.cell? ⟨w.heap.size, 0, none⟩ = some (.int .i64 a1) := V25_a.c 0 _ rfl
          have q25_a_1 : w25.cell? ⟨w.heap.size, 1, none⟩ = some (.int .i64 a2) := V25_a.c 1 _ rfl
          have f25_a := V25_a.2.2; have L25_a := V25_a.lt; have N25_a := Nat.ne_of_gt L25_a; have M25_a := Nat.ne_of_lt L25_a
          have HV25_a := Lib.hid V25_a
          have q25_b_0 : w25.cell? ⟨w.heap.size + 1, 0, none⟩ = some (.int .i64 b1) := V25_b.c 0 _ rfl
          have q25_b_1 : w25.cell? ⟨w.heap.size + 1, 1, none⟩ = some (.int .i64 b2) := V25_b.c 1 _ rfl
          have f25_b := V25_b.2.2; have L25_b := V25_b.lt; have N25_b := Nat.ne_of_gt L25_b; have M25_b := Nat.ne_of_lt L25_b
          have HV25_b := Lib.hid V25_b
          have q25_k_0 : w25.cell? ⟨w.heap.size + 1 + 1, 0, none⟩ = some (.int .i64 k) := V25_k.c 0 _ rfl
          have f25_k := V25_k.2.2; have L25_k := V25_k.lt; have N25_k := Nat.ne_of_gt L25_k; have M25_k := Nat.ne_of_lt L25_k
          have HV25_k := Lib.hid V25_k
          have q25_n_0 : w25.cell? ⟨w.heap.size + 1 + 1 + 1, 0, none⟩ = some (.int .i64 n) := V25_n.c 0 _ rfl
          have f25_n := V25_n.2.2; have L25_n := V25_n.lt; have N25_n := Nat.ne_of_gt L25_n; have M25_n := Nat.ne_of_lt L25_n
          have HV25_n := Lib.hid V25_n
          have q25_o_0 : w25.cell? ⟨B, 0, none⟩ = some (.int .i64 5) := V25_o.c 0 _ rfl
          have f25_o := V25_o.2.2; have L25_o := V25_o.lt; have N25_o := Nat.ne_of_gt L25_o; have M25_o := Nat.ne_of_lt L25_o
          have HV25_o := Lib.hid V25_o
          have q25_c_0 : w25.cell? ⟨wc.heap.size, 0, none⟩ = some (.int .i64 0) := V25_c.c 0 _ rfl
          have f25_c := V25_c.2.2; have L25_c := V25_c.lt; have N25_c := Nat.ne_of_gt L25_c; have M25_c := Nat.ne_of_lt L25_c
          have HV25_c := Lib.hid V25_c
          have q25_w_0 : w25.cell? ⟨wc.heap.size + 1, 0, none⟩ = some (.int .i64 0) := V25_w.c 0 _ rfl
          have q25_w_1 : w25.cell? ⟨wc.heap.size + 1, 1, none⟩ = some (.int .i64 0) := V25_w.c 1 _ rfl
          have f25_w := V25_w.2.2; have L25_w := V25_w.lt; have N25_w := Nat.ne_of_gt L25_w; have M25_w := Nat.ne_of_lt L25_w
          have HV25_w := Lib.hid V25_w
          have q25_v_0 : w25.cell? ⟨wc.heap.size + 1 + 1, 0, none⟩ = some (.int .i64 0) := V25_v.c 0 _ rfl
          have q25_v_1 : w25.cell? ⟨wc.heap.size + 1 + 1, 1, none⟩ = some (.int .i64 0) := V25_v.c 1 _ rfl
          have f25_v := V25_v.2.2; have L25_v := V25_v.lt; have N25_v := Nat.ne_of_gt L25_v; have M25_v := Nat.ne_of_lt L25_v
          have HV25_v := Lib.hid V25_v
          have q25_y_0 : w25.cell? ⟨wc.heap.size + 1 + 1 + 1, 0, none⟩ = some (.int .i64 y1) := V25_y.c 0 _ rfl
          have f25_y := V25_y.2.2; have L25_y := V25_y.lt; have N25_y := Nat.ne_of_gt L25_y; have M25_y := Nat.ne_of_lt L25_y
          have HV25_y := Lib.hid V25_y
          have S25 := G25.size; clear hb
          go_wp2_with fail
          go_roundg gf
          case measure => omega
          case rel => refine ⟨w25.heap.size, 6, by omega, by omega, rfl, by omega, ?_, ?_, ?_, ?_, ?_, by have G := G25; (repeat (with_reducible refine M.Below.drewN ?_ _)); go_grown⟩ <;> ((repeat (first | (with_reducible assumption) | (with_reducible apply M.var_setV) | (with_reducible apply M.var_setI) | (with_reducible apply M.var_setB) | (with_reducible apply M.var_setHt) | (with_reducible apply M.var_setBd) | (with_reducible apply M.var_set2) | (with_reducible apply M.var_set3) | (with_reducible apply M.var_set4) | (with_reducible apply M.var_set45) | (with_reducible apply M.var_set67) | (with_reducible apply M.var_setF) | (with_reducible refine M.var_alloc' _ _ _ ?_; first | rfl | (focus (simp [go_sem]; done))) | (with_reducible refine M.Var.alloc ?_ _) | (with_reducible refine M.Var.drewN ?_ _) | (with_reducible refine M.Var.drew ?_) | (with_reducible refine M.Var.far ?_ _ _ ?hFar; case hFar => (first | omega | ((try simp [go_sem]) <;> omega))) | fail)))
      · rcases hP : unitX (a1, a2) with i | ⟨⟨x1, x2⟩, y1⟩
        · have z1 := bne_iff_ne.2 (nz_unit _ i hP); have z1b := beq_eq_false_iff_ne.2 (nz_unit _ i hP)
          have K1 := Lib.hid (fun pb w hp => (refUnit_x pb 0 a1 a2 ha1 ha2 w hp).mono fun en w' h => M.relVI_err hP h)
          replace hP := Lib.hid hP
          have qc_o_0 : wc.cell? ⟨B, 0, none⟩ = some (.int .i64 6) := Vc_o.c 0 _ rfl
          have fc_o := Vc_o.2.2; have Lc_o := Vc_o.lt; have Nc_o := Nat.ne_of_gt Lc_o; have Mc_o := Nat.ne_of_lt Lc_o
          have qc_a_0 : wc.cell? ⟨w.heap.size, 0, none⟩ = some (.int .i64 a1) := Vc_a.c 0 _ rfl
          have qc_a_1 : wc.cell? ⟨w.heap.size, 1, none⟩ = some (.int .i64 a2) := Vc_a.c 1 _ rfl
          have fc_a := Vc_a.2.2; have Lc_a := Vc_a.lt; have Nc_a := Nat.ne_of_gt Lc_a; have Mc_a := Nat.ne_of_lt Lc_a
          have qc_b_0 : wc.cell? ⟨w.heap.size + 1, 0, none⟩ = some (.int .i64 b1) := Vc_b.c 0 _ rfl
          have qc_b_1 : wc.cell? ⟨w.heap.size + 1, 1, none⟩ = some (.int .i64 b2) := Vc_b.c 1 _ rfl
          have fc_b := Vc_b.2.2; have Lc_b := Vc_b.lt; have Nc_b := Nat.ne_of_gt Lc_b; have Mc_b := Nat.ne_of_lt Lc_b
          have qc_k_0 : wc.cell? ⟨w.heap.size + 1 + 1, 0, none⟩ = some (.int .i64 k) := Vc_k.c 0 _ rfl
          have fc_k := Vc_k.2.2; have Lc_k := Vc_k.lt; have Nc_k := Nat.ne_of_gt Lc_k; have Mc_k := Nat.ne_of_lt Lc_k
          have qc_n_0 : wc.cell? ⟨w.heap.size + 1 + 1 + 1, 0, none⟩ = some (.int .i64 n) := Vc_n.c 0 _ rfl
          have fc_n := Vc_n.2.2; have Lc_n := Vc_n.lt; have Nc_n := Nat.ne_of_gt Lc_n; have Mc_n := Nat.ne_of_lt Lc_n
          go_wp2_with fail
          refine (try_c 110 #[.pointer (some ⟨B, 0, none⟩), .pointer (some ⟨w.heap.size, 0, none⟩), .pointer (some ⟨w.heap.size + 1, 0, none⟩), .pointer (some ⟨wc.heap.size + 1 + 1, 0, none⟩), .pointer (some ⟨w.heap.size + 1 + 1, 0, none⟩), .pointer (some ⟨wc.heap.size + 1 + 1 + 1, 0, none⟩), .pointer (some ⟨w.heap.size + 1 + 1 + 1, 0, none⟩)] _ (i) ([]) (fun _ => rfl) ?_ ?_).mono ?_
          · intro u hu; (try simp only [List.mem_append] at hu); (repeat' (obtain hu | hu := (hu : _ ∨ _))); all_goals (first | rw [M.usBx_block hu] | rw [M.usV_block hu] | rw [M.usI_block hu] | rw [M.usHt_block hu] | rw [M.usBd_block hu] | rw [M.usB_block hu] | rw [M.cell_block1 hu] | (exfalso; simp at hu; done)); all_goals ((try simp [go_sem]) <;> omega)
          · intro w1' hb; exact (cloVT6 _ _ _ _ _ _ _ a1 a2 ha1 ha2 _ _ _ (.error i : X (V × Int)) hP.out w1' (M.Var.mono (b := B) (cs := #[.int .i64 6]) (by (repeat (first | (with_reducible assumption) | (with_reducible apply M.var_set45) | (with_reducible refine M.var_alloc' _ _ _ ?_; first | rfl | (simp [go_sem]; done)) | (with_reducible refine M.Var.alloc ?_ _) | (with_reducible refine M.Var.drewN ?_ _) | (with_reducible refine M.Var.drew ?_) | (with_reducible refine M.Var.far ?_ _ _ ?hFar; case hFar => (first | omega | ((try simp [go_sem]) <;> omega))) | fail))) hb) (M.Var.mono (b := w.heap.size) (cs := #[.int .i64 a1, .int .i64 a2]) (by (repeat (first | (with_reducible assumption) | (with_reducible apply M.var_set45) | (with_reducible refine M.var_alloc' _ _ _ ?_; first | rfl | (simp [go_sem]; done)) | (with_reducible refine M.Var.alloc ?_ _) | (with_reducible refine M.Var.drewN ?_ _) | (with_reducible refine M.Var.drew ?_) | (with_reducible refine M.Var.far ?_ _ _ ?hFar; case hFar => (first | omega | ((try simp [go_sem]) <;> omega))) | fail))) hb) (M.Var.mono (b := wc.heap.size + 1 + 1) (cs := #[.int .i64 0, .int .i64 0]) (by (repeat (first | (with_reducible assumption) | (with_reducible apply M.var_set45) | (with_reducible refine M.var_alloc' _ _ _ ?_; first | rfl | (simp [go_sem]; done)) | (with_reducible refine M.Var.alloc ?_ _) | (with_reducible refine M.Var.drewN ?_ _) | (with_reducible refine M.Var.drew ?_) | (with_reducible refine M.Var.far ?_ _ _ ?hFar; case hFar => (first | omega | ((try simp [go_sem]) <;> omega))) | fail))) hb) (M.Var.mono (b := wc.heap.size + 1 + 1 + 1) (cs := #[.int .i64 0]) (by (repeat (first | (with_reducible assumption) | (with_reducible apply M.var_set45) | (with_reducible refine M.var_alloc' _ _ _ ?_; first | rfl | (simp [go_sem]; done)) | (with_reducible refine M.Var.alloc ?_ _) | (with_reducible refine M.Var.drewN ?_ _) | (with_reducible refine M.Var.drew ?_) | (with_reducible refine M.Var.far ?_ _ _ ?hFar; case hFar => (first | omega | ((try simp [go_sem]) <;> omega))) | fail))) hb) (by omega)).mono fun e w' h => h
          rintro en w26 ⟨rfl, hb⟩
          have G26 : Below w.heap.size w w26 := Below.trans (M.below_sets_own ([]) (by have G := HGc.out; (repeat (with_reducible refine M.Below.drewN ?_ _)); go_grown) (by intro u hu; (try simp only [List.mem_append] at hu); (repeat' (obtain hu | hu := (hu : _ ∨ _))); all_goals (first | rw [M.usBx_block hu] | rw [M.usV_block hu] | rw [M.usI_block hu] | rw [M.usHt_block hu] | rw [M.usBd_block hu] | rw [M.usB_block hu] | rw [M.cell_block1 hu] | (exfalso; simp at hu; done)); all_goals ((try simp [go_sem]) <;> omega))) (hb.mono (by go_size))
          have VV26 : M.Var w26 (w.heap.size) #[.int .i64 a1, .int .i64 a2] ∧ M.Var w26 (w.heap.size + 1) #[.int .i64 b1, .int .i64 b2] ∧ M.Var w26 (w.heap.size + 1 + 1) #[.int .i64 k] ∧ M.Var w26 (w.heap.size + 1 + 1 + 1) #[.int .i64 n] ∧ M.Var w26 (B) #[.int .i64 6] ∧ M.Var w26 (wc.heap.size) #[.int .i64 0] ∧ M.Var w26 (wc.heap.size + 1) #[.int .i64 0, .int .i64 0] ∧ M.Var w26 (wc.heap.size + 1 + 1) #[.int .i64 0, .int .i64 0] ∧ M.Var w26 (wc.heap.size + 1 + 1 + 1) #[.int .i64 0] := by refine ⟨?_, ?_, ?_, ?_, ?_, ?_, ?_, ?_, ?_⟩ <;> exact M.Var.mono' (u := M.sets _ ([])) (by (try simp only [M.sets_append]); exact (M.var_sets_far ([]) (by (repeat (first | (with_reducible assumption) | (with_reducible apply M.var_set45) | (with_reducible refine M.var_alloc' _ _ _ ?_; first | rfl | (simp [go_sem]; done)) | (with_reducible refine M.Var.alloc ?_ _) | (with_reducible refine M.Var.drewN ?_ _) | (with_reducible refine M.Var.drew ?_) | (with_reducible refine M.Var.far ?_ _ _ ?hFar; case hFar => (first | omega | ((try simp [go_sem]) <;> omega))) | fail))) (by intro u hu; all_goals (first | rw [M.usBx_block hu] | rw [M.usV_block hu] | rw [M.usI_block hu] | rw [M.usHt_block hu] | rw [M.usBd_block hu] | rw [M.usB_block hu] | rw [M.cell_block1 hu] | (exfalso; simp at hu; done)); all_goals ((try simp [go_sem]) <;> omega)))) (M.sets_size _ _) hb
          obtain ⟨V26_a, V26_b, V26_k, V26_n, V26_o, V26_c, V26_w, V26_v, V26_y⟩ := VV26
          have q26_a_0 : w26.cell? ⟨w.heap.size, 0, none⟩ = some (.int .i64 a1) := V26_a.c 0 _ rfl
          have q26_a_1 : w26.cell? ⟨w.heap.size, 1, none⟩ = some (.int .i64 a2) := V26_a.c 1 _ rfl
          have f26_a := V26_a.2.2; have L26_a := V26_a.lt; have N26_a := Nat.ne_of_gt L26_a; have M26_a := Nat.ne_of_lt L26_a
          have HV26_a := Lib.hid V26_a
          have q26_b_0 : w26.cell? ⟨w.heap.size + 1, 0, none⟩ = some (.int .i64 b1) := V26_b.c 0 _ rfl
          have q26_b_1 : w26.cell? ⟨w.heap.size + 1, 1, none⟩ = some (.int .i64 b2) := V26_b.c 1 _ rfl
          have f26_b := V26_b.2.2; have L26_b := V26_b.lt; have N26_b := Nat.ne_of_gt L26_b; have M26_b := Nat.ne_of_lt L26_b
          have HV26_b := Lib.hid V26_b
          have q26_k_0 : w26.cell? ⟨w.heap.size + 1 + 1, 0, none⟩ = some (.int .i64 k) := V26_k.c 0 _ rfl
          have f26_k := V26_k.2.2; have L26_k := V26_k.lt; have N26_k := Nat.ne_of_gt L26_k; have M26_k := Nat.ne_of_lt L26_k
          have HV26_k := Lib.hid V26_k
          have q26_n_0 : w26.cell? ⟨w.heap.size + 1 + 1 + 1, 0, none⟩ = some (.int .i64 n) := V26_n.c 0 _ rfl
          have f26_n := V26_n.2.2; have L26_n := V26_n.lt; have N26_n := Nat.ne_of_gt L26_n; have M26_n := Nat.ne_of_lt L26_n
          have HV26_n := Lib.hid V26_n
          have q26_o_0 : w26.cell? ⟨B, 0, none⟩ = some (.int .i64 6) := V26_o.c 0 _ rfl
          have f26_o := V26_o.2.2; have L26_o := V26_o.lt; have N26_o := Nat.ne_of_gt L26_o; have M26_o := Nat.ne_of_lt L26_o
          have HV26_o := Lib.hid V26_o
          have q26_c_0 : w26.cell? ⟨wc.heap.size, 0, none⟩ = some (.int .i64 0) := V26_c.c 0 _ rfl
          have f26_c := V26_c.2.2; have L26_c := V26_c.lt; have N26_c := Nat.ne_of_gt L26_c; have M26_c := Nat.ne_of_lt L26_c
          have HV26_c := Lib.hid V26_c
          have q26_w_0 : w26.cell? ⟨wc.heap.size + 1, 0, none⟩ = some (.int .i64 0) := V26_w.c 0 _ rfl
          have q26_w_1 : w26.cell? ⟨wc.heap.size + 1, 1, none⟩ = some (.int .i64 0) := V26_w.c 1 _ rfl
          have f26_w := V26_w.2.2; have L26_w := V26_w.lt; have N26_w := Nat.ne_of_gt L26_w; have M26_w := Nat.ne_of_lt L26_w
          have HV26_w := Lib.hid V26_w
          have q26_v_0 : w26.cell? ⟨wc.heap.size + 1 + 1, 0, none⟩ = some (.int .i64 0) := V26_v.c 0 _ rfl
          have q26_v_1 : w26.cell? ⟨wc.heap.size + 1 + 1, 1, none⟩ = some (.int .i64 0) := V26_v.c 1 _ rfl
          have f26_v := V26_v.2.2; have L26_v := V26_v.lt; have N26_v := Nat.ne_of_gt L26_v; have M26_v := Nat.ne_of_lt L26_v
          have HV26_v := Lib.hid V26_v
          have q26_y_0 : w26.cell? ⟨wc.heap.size + 1 + 1 + 1, 0, none⟩ = some (.int .i64 0) := V26_y.c 0 _ rfl
          have f26_y := V26_y.2.2; have L26_y := V26_y.lt; have N26_y := Nat.ne_of_gt L26_y; have M26_y := Nat.ne_of_lt L26_y
          have HV26_y := Lib.hid V26_y
          have S26 := G26.size; clear hb
          go_wp2_with fail
          (with_reducible refine (K1.out _ _ (M.pcell_var (by (repeat (first | (with_reducible assumption) | (with_reducible apply M.var_set45) | (with_reducible refine M.var_alloc' _ _ _ ?_; first | rfl | (simp [go_sem]; done)) | (with_reducible refine M.Var.alloc ?_ _) | (with_reducible refine M.Var.drewN ?_ _) | (with_reducible refine M.Var.drew ?_) | (with_reducible refine M.Var.far ?_ _ _ ?hFar; case hFar => (first | omega | ((try simp [go_sem]) <;> omega))) | fail)) : M.Var _ (wc.heap.size) #[.int .i64 0]))).mono ?_); rintro en w27 ⟨⟨u1, u2, u3, rfl⟩, hb⟩
          have G27 : Below w.heap.size w w27 := Below.trans (M.below_sets_own ([(⟨wc.heap.size, 0, none⟩, .int .i64 i)]) (by have G := HGc.out; (repeat (with_reducible refine M.Below.drewN ?_ _)); go_grown) (by intro u hu; rw [M.cell_block1 hu]; dsimp only; omega)) (hb.mono (by go_size))
          have VV27 : M.Var w27 (w.heap.size) #[.int .i64 a1, .int .i64 a2] ∧ M.Var w27 (w.heap.size + 1) #[.int .i64 b1, .int .i64 b2] ∧ M.Var w27 (w.heap.size + 1 + 1) #[.int .i64 k] ∧ M.Var w27 (w.heap.size + 1 + 1 + 1) #[.int .i64 n] ∧ M.Var w27 (B) #[.int .i64 6] ∧ M.Var w27 (wc.heap.size + 1) #[.int .i64 0, .int .i64 0] ∧ M.Var w27 (wc.heap.size + 1 + 1) #[.int .i64 0, .int .i64 0] ∧ M.Var w27 (wc.heap.size + 1 + 1 + 1) #[.int .i64 0] := by refine ⟨?_, ?_, ?_, ?_, ?_, ?_, ?_, ?_⟩ <;> exact M.Var.mono' (u := M.sets _ ([(⟨wc.heap.size, 0, none⟩, .int .i64 i)])) (by (try simp only [M.sets_append]); exact (M.var_sets_far ([(⟨wc.heap.size, 0, none⟩, .int .i64 i)]) (by (repeat (first | (with_reducible assumption) | (with_reducible apply M.var_set45) | (with_reducible refine M.var_alloc' _ _ _ ?_; first | rfl | (simp [go_sem]; done)) | (with_reducible refine M.Var.alloc ?_ _) | (with_reducible refine M.Var.drewN ?_ _) | (with_reducible refine M.Var.drew ?_) | (with_reducible refine M.Var.far ?_ _ _ ?hFar; case hFar => (first | omega | ((try simp [go_sem]) <;> omega))) | fail))) (by intro u hu; all_goals (first | rw [M.usBx_block hu] | rw [M.usV_block hu] | rw [M.usI_block hu] | rw [M.usHt_block hu] | rw [M.usBd_block hu] | rw [M.usB_block hu] | rw [M.cell_block1 hu] | (exfalso; simp at hu; done)); all_goals ((try simp [go_sem]) <;> omega)))) (M.sets_size _ _) hb
          obtain ⟨V27_a, V27_b, V27_k, V27_n, V27_o, V27_w, V27_v, V27_y⟩ := VV27
          have V27_c : M.Var w27 (wc.heap.size) #[.int .i64 i] := M.Var.mono' (u := M.sets _ ([(⟨wc.heap.size, 0, none⟩, .int .i64 i)])) (by (try simp only [M.sets_append]); exact (M.var_setI (by (repeat (first | (with_reducible assumption) | (with_reducible apply M.var_set45) | (with_reducible refine M.var_alloc' _ _ _ ?_; first | rfl | (simp [go_sem]; done)) | (with_reducible refine M.Var.alloc ?_ _) | (with_reducible refine M.Var.drewN ?_ _) | (with_reducible refine M.Var.drew ?_) | (with_reducible refine M.Var.far ?_ _ _ ?hFar; case hFar => (first | omega | ((try simp [go_sem]) <;> omega))) | fail)) : M.Var _ (wc.heap.size) #[.int .i64 0]) _)) (M.sets_size _ _) hb
          have q27_a_0 : w27.cell? ⟨w.heap.size, 0, none⟩ = some (.int .i64 a1) := V27_a.c 0 _ rfl
          have q27_a_1 : w27.cell? ⟨w.heap.size, 1, none⟩ = some (.int .i64 a2) := V27_a.c 1 _ rfl
          have f27_a := V27_a.2.2; have L27_a := V27_a.lt; have N27_a := Nat.ne_of_gt L27_a; have M27_a := Nat.ne_of_lt L27_a
          have HV27_a := Lib.hid V27_a
          have q27_b_0 : w27.cell? ⟨w.heap.size + 1, 0, none⟩ = some (.int .i64 b1) := V27_b.c 0 _ rfl
          have q27_b_1 : w27.cell? ⟨w.heap.size + 1, 1, none⟩ = some (.int .i64 b2) := V27_b.c 1 _ rfl
          have f27_b := V27_b.2.2; have L27_b := V27_b.lt; have N27_b := Nat.ne_of_gt L27_b; have M27_b := Nat.ne_of_lt L27_b
          have HV27_b := Lib.hid V27_b
          have q27_k_0 : w27.cell? ⟨w.heap.size + 1 + 1, 0, none⟩ = some (.int .i64 k) := V27_k.c 0 _ rfl
          have f27_k := V27_k.2.2; have L27_k := V27_k.lt; have N27_k := Nat.ne_of_gt L27_k; have M27_k := Nat.ne_of_lt L27_k
          have HV27_k := Lib.hid V27_k
          have q27_n_0 : w27.cell? ⟨w.heap.size + 1 + 1 + 1, 0, none⟩ = some (.int .i64 n) := V27_n.c 0 _ rfl
          have f27_n := V27_n.2.2; have L27_n := V27_n.lt; have N27_n := Nat.ne_of_gt L27_n; have M27_n := Nat.ne_of_lt L27_n
          have HV27_n := Lib.hid V27_n
          have q27_o_0 : w27.cell? ⟨B, 0, none⟩ = some (.int .i64 6) := V27_o.c 0 _ rfl
          have f27_o := V27_o.2.2; have L27_o := V27_o.lt; have N27_o := Nat.ne_of_gt L27_o; have M27_o := Nat.ne_of_lt L27_o
          have HV27_o := Lib.hid V27_o
          have q27_c_0 : w27.cell? ⟨wc.heap.size, 0, none⟩ = some (.int .i64 i) := V27_c.c 0 _ rfl
          have f27_c := V27_c.2.2; have L27_c := V27_c.lt; have N27_c := Nat.ne_of_gt L27_c; have M27_c := Nat.ne_of_lt L27_c
          have HV27_c := Lib.hid V27_c
          have q27_w_0 : w27.cell? ⟨wc.heap.size + 1, 0, none⟩ = some (.int .i64 0) := V27_w.c 0 _ rfl
          have q27_w_1 : w27.cell? ⟨wc.heap.size + 1, 1, none⟩ = some (.int .i64 0) := V27_w.c 1 _ rfl
          have f27_w := V27_w.2.2; have L27_w := V27_w.lt; have N27_w := Nat.ne_of_gt L27_w; have M27_w := Nat.ne_of_lt L27_w
          have HV27_w := Lib.hid V27_w
          have q27_v_0 : w27.cell? ⟨wc.heap.size + 1 + 1, 0, none⟩ = some (.int .i64 0) := V27_v.c 0 _ rfl
          have q27_v_1 : w27.cell? ⟨wc.heap.size + 1 + 1, 1, none⟩ = some (.int .i64 0) := V27_v.c 1 _ rfl
          have f27_v := V27_v.2.2; have L27_v := V27_v.lt; have N27_v := Nat.ne_of_gt L27_v; have M27_v := Nat.ne_of_lt L27_v
          have HV27_v := Lib.hid V27_v
          have q27_y_0 : w27.cell? ⟨wc.heap.size + 1 + 1 + 1, 0, none⟩ = some (.int .i64 0) := V27_y.c 0 _ rfl
          have f27_y := V27_y.2.2; have L27_y := V27_y.lt; have N27_y := Nat.ne_of_gt L27_y; have M27_y := Nat.ne_of_lt L27_y
          have HV27_y := Lib.hid V27_y
          have S27 := G27.size; clear hb
          go_wp2_with fail
          go_roundg gf
          case measure => omega
          case rel => refine ⟨w27.heap.size, 7, by omega, by omega, rfl, by omega, ?_, ?_, ?_, ?_, ?_, by have G := G27; (repeat (with_reducible refine M.Below.drewN ?_ _)); go_grown⟩ <;> ((repeat (first | (with_reducible assumption) | (with_reducible apply M.var_setV) | (with_reducible apply M.var_setI) | (with_reducible apply M.var_setB) | (with_reducible apply M.var_setHt) | (with_reducible apply M.var_setBd) | (with_reducible apply M.var_set2) | (with_reducible apply M.var_set3) | (with_reducible apply M.var_set4) | (with_reducible apply M.var_set45) | (with_reducible apply M.var_set67) | (with_reducible apply M.var_setF) | (with_reducible refine M.var_alloc' _ _ _ ?_; first | rfl | (focus (simp [go_sem]; done))) | (with_reducible refine M.Var.alloc ?_ _) | (with_reducible refine M.Var.drewN ?_ _) | (with_reducible refine M.Var.drew ?_) | (with_reducible refine M.Var.far ?_ _ _ ?hFar; case hFar => (first | omega | ((try simp [go_sem]) <;> omega))) | fail)))
        · skip
          have K1 := Lib.hid (fun pb w hp => (refUnit_x pb 0 a1 a2 ha1 ha2 w hp).mono fun en w' h => M.relVI_ok hP h)
          replace hP := Lib.hid hP
          have qc_o_0 : wc.cell? ⟨B, 0, none⟩ = some (.int .i64 6) := Vc_o.c 0 _ rfl
          have fc_o := Vc_o.2.2; have Lc_o := Vc_o.lt; have Nc_o := Nat.ne_of_gt Lc_o; have Mc_o := Nat.ne_of_lt Lc_o
          have qc_a_0 : wc.cell? ⟨w.heap.size, 0, none⟩ = some (.int .i64 a1) := Vc_a.c 0 _ rfl
          have qc_a_1 : wc.cell? ⟨w.heap.size, 1, none⟩ = some (.int .i64 a2) := Vc_a.c 1 _ rfl
          have fc_a := Vc_a.2.2; have Lc_a := Vc_a.lt; have Nc_a := Nat.ne_of_gt Lc_a; have Mc_a := Nat.ne_of_lt Lc_a
          have qc_b_0 : wc.cell? ⟨w.heap.size + 1, 0, none⟩ = some (.int .i64 b1) := Vc_b.c 0 _ rfl
          have qc_b_1 : wc.cell? ⟨w.heap.size + 1, 1, none⟩ = some (.int .i64 b2) := Vc_b.c 1 _ rfl
          have fc_b := Vc_b.2.2; have Lc_b := Vc_b.lt; have Nc_b := Nat.ne_of_gt Lc_b; have Mc_b := Nat.ne_of_lt Lc_b
          have qc_k_0 : wc.cell? ⟨w.heap.size + 1 + 1, 0, none⟩ = some (.int .i64 k) := Vc_k.c 0 _ rfl
          have fc_k := Vc_k.2.2; have Lc_k := Vc_k.lt; have Nc_k := Nat.ne_of_gt Lc_k; have Mc_k := Nat.ne_of_lt Lc_k
          have qc_n_0 : wc.cell? ⟨w.heap.size + 1 + 1 + 1, 0, none⟩ = some (.int .i64 n) := Vc_n.c 0 _ rfl
          have fc_n := Vc_n.2.2; have Lc_n := Vc_n.lt; have Nc_n := Nat.ne_of_gt Lc_n; have Mc_n := Nat.ne_of_lt Lc_n
          go_wp2_with fail
          refine (try_c 110 #[.pointer (some ⟨B, 0, none⟩), .pointer (some ⟨w.heap.size, 0, none⟩), .pointer (some ⟨w.heap.size + 1, 0, none⟩), .pointer (some ⟨wc.heap.size + 1 + 1, 0, none⟩), .pointer (some ⟨w.heap.size + 1 + 1, 0, none⟩), .pointer (some ⟨wc.heap.size + 1 + 1 + 1, 0, none⟩), .pointer (some ⟨w.heap.size + 1 + 1 + 1, 0, none⟩)] _ (0) (usV (wc.heap.size + 1 + 1) (fstX (.ok ((x1, x2), y1))) ++ usI (wc.heap.size + 1 + 1 + 1) (sndX (.ok ((x1, x2), y1)))) (fun _ => rfl) ?_ ?_).mono ?_
          · intro u hu; (try simp only [List.mem_append] at hu); (repeat' (obtain hu | hu := (hu : _ ∨ _))); all_goals (first | rw [M.usBx_block hu] | rw [M.usV_block hu] | rw [M.usI_block hu] | rw [M.usHt_block hu] | rw [M.usBd_block hu] | rw [M.usB_block hu] | rw [M.cell_block1 hu] | (exfalso; simp at hu; done)); all_goals ((try simp [go_sem]) <;> omega)
          · intro w1' hb; exact (cloVT6 _ _ _ _ _ _ _ a1 a2 ha1 ha2 _ _ _ ((.ok ((x1, x2), y1)) : X (V × Int)) hP.out w1' (M.Var.mono (b := B) (cs := #[.int .i64 6]) (by (repeat (first | (with_reducible assumption) | (with_reducible apply M.var_set45) | (with_reducible refine M.var_alloc' _ _ _ ?_; first | rfl | (simp [go_sem]; done)) | (with_reducible refine M.Var.alloc ?_ _) | (with_reducible refine M.Var.drewN ?_ _) | (with_reducible refine M.Var.drew ?_) | (with_reducible refine M.Var.far ?_ _ _ ?hFar; case hFar => (first | omega | ((try simp [go_sem]) <;> omega))) | fail))) hb) (M.Var.mono (b := w.heap.size) (cs := #[.int .i64 a1, .int .i64 a2]) (by (repeat (first | (with_reducible assumption) | (with_reducible apply M.var_set45) | (with_reducible refine M.var_alloc' _ _ _ ?_; first | rfl | (simp [go_sem]; done)) | (with_reducible refine M.Var.alloc ?_ _) | (with_reducible refine M.Var.drewN ?_ _) | (with_reducible refine M.Var.drew ?_) | (with_reducible refine M.Var.far ?_ _ _ ?hFar; case hFar => (first | omega | ((try simp [go_sem]) <;> omega))) | fail))) hb) (M.Var.mono (b := wc.heap.size + 1 + 1) (cs := #[.int .i64 0, .int .i64 0]) (by (repeat (first | (with_reducible assumption) | (with_reducible apply M.var_set45) | (with_reducible refine M.var_alloc' _ _ _ ?_; first | rfl | (simp [go_sem]; done)) | (with_reducible refine M.Var.alloc ?_ _) | (with_reducible refine M.Var.drewN ?_ _) | (with_reducible refine M.Var.drew ?_) | (with_reducible refine M.Var.far ?_ _ _ ?hFar; case hFar => (first | omega | ((try simp [go_sem]) <;> omega))) | fail))) hb) (M.Var.mono (b := wc.heap.size + 1 + 1 + 1) (cs := #[.int .i64 0]) (by (repeat (first | (with_reducible assumption) | (with_reducible apply M.var_set45) | (with_reducible refine M.var_alloc' _ _ _ ?_; first | rfl | (simp [go_sem]; done)) | (with_reducible refine M.Var.alloc ?_ _) | (with_reducible refine M.Var.drewN ?_ _) | (with_reducible refine M.Var.drew ?_) | (with_reducible refine M.Var.far ?_ _ _ ?hFar; case hFar => (first | omega | ((try simp [go_sem]) <;> omega))) | fail))) hb) (by omega)).mono fun e w' h => h
          rintro en w28 ⟨rfl, hb⟩
          have G28 : Below w.heap.size w w28 := Below.trans (M.below_sets_own (usV (wc.heap.size + 1 + 1) (fstX (.ok ((x1, x2), y1))) ++ usI (wc.heap.size + 1 + 1 + 1) (sndX (.ok ((x1, x2), y1)))) (by have G := HGc.out; (repeat (with_reducible refine M.Below.drewN ?_ _)); go_grown) (by intro u hu; (try simp only [List.mem_append] at hu); (repeat' (obtain hu | hu := (hu : _ ∨ _))); all_goals (first | rw [M.usBx_block hu] | rw [M.usV_block hu] | rw [M.usI_block hu] | rw [M.usHt_block hu] | rw [M.usBd_block hu] | rw [M.usB_block hu] | rw [M.cell_block1 hu] | (exfalso; simp at hu; done)); all_goals ((try simp [go_sem]) <;> omega))) (hb.mono (by go_size))
          have VV28 : M.Var w28 (w.heap.size) #[.int .i64 a1, .int .i64 a2] ∧ M.Var w28 (w.heap.size + 1) #[.int .i64 b1, .int .i64 b2] ∧ M.Var w28 (w.heap.size + 1 + 1) #[.int .i64 k] ∧ M.Var w28 (w.heap.size + 1 + 1 + 1) #[.int .i64 n] ∧ M.Var w28 (B) #[.int .i64 6] ∧ M.Var w28 (wc.heap.size) #[.int .i64 0] ∧ M.Var w28 (wc.heap.size + 1) #[.int .i64 0, .int .i64 0] := by refine ⟨?_, ?_, ?_, ?_, ?_, ?_, ?_⟩ <;> exact M.Var.mono' (u := M.sets _ (usV (wc.heap.size + 1 + 1) (fstX (.ok ((x1, x2), y1))) ++ usI (wc.heap.size + 1 + 1 + 1) (sndX (.ok ((x1, x2), y1))))) (by (try simp only [M.sets_append]); exact (M.var_sets_far (usI (wc.heap.size + 1 + 1 + 1) (sndX (.ok ((x1, x2), y1)))) (M.var_sets_far (usV (wc.heap.size + 1 + 1) (fstX (.ok ((x1, x2), y1)))) (by (repeat (first | (with_reducible assumption) | (with_reducible apply M.var_set45) | (with_reducible refine M.var_alloc' _ _ _ ?_; first | rfl | (simp [go_sem]; done)) | (with_reducible refine M.Var.alloc ?_ _) | (with_reducible refine M.Var.drewN ?_ _) | (with_reducible refine M.Var.drew ?_) | (with_reducible refine M.Var.far ?_ _ _ ?hFar; case hFar => (first | omega | ((try simp [go_sem]) <;> omega))) | fail))) (by intro u hu; all_goals (first | rw [M.usBx_block hu] | rw [M.usV_block hu] | rw [M.usI_block hu] | rw [M.usHt_block hu] | rw [M.usBd_block hu] | rw [M.usB_block hu] | rw [M.cell_block1 hu] | (exfalso; simp at hu; done)); all_goals ((try simp [go_sem]) <;> omega))) (by intro u hu; all_goals (first | rw [M.usBx_block hu] | rw [M.usV_block hu] | rw [M.usI_block hu] | rw [M.usHt_block hu] | rw [M.usBd_block hu] | rw [M.usB_block hu] | rw [M.cell_block1 hu] | (exfalso; simp at hu; done)); all_goals ((try simp [go_sem]) <;> omega)))) (M.sets_size _ _) hb
          obtain ⟨V28_a, V28_b, V28_k, V28_n, V28_o, V28_c, V28_w⟩ := VV28
          have V28_v : M.Var w28 (wc.heap.size + 1 + 1) #[.int .i64 x1, .int .i64 x2] := M.Var.mono' (u := M.sets _ (usV (wc.heap.size + 1 + 1) (fstX (.ok ((x1, x2), y1))) ++ usI (wc.heap.size + 1 + 1 + 1) (sndX (.ok ((x1, x2), y1))))) (by (try simp only [M.sets_append]); exact (M.var_sets_far (usI (wc.heap.size + 1 + 1 + 1) (sndX (.ok ((x1, x2), y1)))) (M.var_setV (by (repeat (first | (with_reducible assumption) | (with_reducible apply M.var_set45) | (with_reducible refine M.var_alloc' _ _ _ ?_; first | rfl | (simp [go_sem]; done)) | (with_reducible refine M.Var.alloc ?_ _) | (with_reducible refine M.Var.drewN ?_ _) | (with_reducible refine M.Var.drew ?_) | (with_reducible refine M.Var.far ?_ _ _ ?hFar; case hFar => (first | omega | ((try simp [go_sem]) <;> omega))) | fail)) : M.Var _ (wc.heap.size + 1 + 1) #[.int .i64 0, .int .i64 0]) _ _) (by intro u hu; all_goals (first | rw [M.usBx_block hu] | rw [M.usV_block hu] | rw [M.usI_block hu] | rw [M.usHt_block hu] | rw [M.usBd_block hu] | rw [M.usB_block hu] | rw [M.cell_block1 hu] | (exfalso; simp at hu; done)); all_goals ((try simp [go_sem]) <;> omega)))) (M.sets_size _ _) hb
          have V28_y : M.Var w28 (wc.heap.size + 1 + 1 + 1) #[.int .i64 y1] := M.Var.mono' (u := M.sets _ (usV (wc.heap.size + 1 + 1) (fstX (.ok ((x1, x2), y1))) ++ usI (wc.heap.size + 1 + 1 + 1) (sndX (.ok ((x1, x2), y1))))) (by (try simp only [M.sets_append]); exact (M.var_setI (M.var_sets_far (usV (wc.heap.size + 1 + 1) (fstX (.ok ((x1, x2), y1)))) (by (repeat (first | (with_reducible assumption) | (with_reducible apply M.var_set45) | (with_reducible refine M.var_alloc' _ _ _ ?_; first | rfl | (simp [go_sem]; done)) | (with_reducible refine M.Var.alloc ?_ _) | (with_reducible refine M.Var.drewN ?_ _) | (with_reducible refine M.Var.drew ?_) | (with_reducible refine M.Var.far ?_ _ _ ?hFar; case hFar => (first | omega | ((try simp [go_sem]) <;> omega))) | fail)) : M.Var _ (wc.heap.size + 1 + 1 + 1) #[.int .i64 0]) (by intro u hu; all_goals (first | rw [M.usBx_block hu] | rw [M.usV_block hu] | rw [M.usI_block hu] | rw [M.usHt_block hu] | rw [M.usBd_block hu] | rw [M.usB_block hu] | rw [M.cell_block1 hu] | (exfalso; simp at hu; done)); all_goals ((try simp [go_sem]) <;> omega))) _)) (M.sets_size _ _) hb
          have q28_a_0 : w28.cell? ⟨w.heap.size, 0, none⟩ = some (.int .i64 a1) := V28_a.c 0 _ rfl
          have q28_a_1 : w28.cell? ⟨w.heap.size, 1, none⟩ = some (.int .i64 a2) := V28_a.c 1 _ rfl
          have f28_a := V28_a.2.2; have L28_a := V28_a.lt; have N28_a := Nat.ne_of_gt L28_a; have M28_a := Nat.ne_of_lt L28_a
          have HV28_a := Lib.hid V28_a
          have q28_b_0 : w28.cell? ⟨w.heap.size + 1, 0, none⟩ = some (.int .i64 b1) := V28_b.c 0 _ rfl
          have q28_b_1 : w28.cell? ⟨w.heap.size + 1, 1, none⟩ = some (.int .i64 b2) := V28_b.c 1 _ rfl
          have f28_b := V28_b.2.2; have L28_b := V28_b.lt; have N28_b := Nat.ne_of_gt L28_b; have M28_b := Nat.ne_of_lt L28_b
          have HV28_b := Lib.hid V28_b
          have q28_k_0 : w28.cell? ⟨w.heap.size + 1 + 1, 0, none⟩ = some (.int .i64 k) := V28_k.c 0 _ rfl
          have f28_k := V28_k.2.2; have L28_k := V28_k.lt; have N28_k := Nat.ne_of_gt L28_k; have M28_k := Nat.ne_of_lt L28_k
          have HV28_k := Lib.hid V28_k
          have q28_n_0 : w28.cell? ⟨w.heap.size + 1 + 1 + 1, 0, none⟩ = some (.int .i64 n) := V28_n.c 0 _ rfl
          have f28_n := V28_n.2.2; have L28_n := V28_n.lt; have N28_n := Nat.ne_of_gt L28_n; have M28_n := Nat.ne_of_lt L28_n
          have HV28_n := Lib.hid V28_n
          have q28_o_0 : w28.cell? ⟨B, 0, none⟩ = some (.int .i64 6) := V28_o.c 0 _ rfl
          have f28_o := V28_o.2.2; have L28_o := V28_o.lt; have N28_o := Nat.ne_of_gt L28_o; have M28_o := Nat.ne_of_lt L28_o
          have HV28_o := Lib.hid V28_o
          have q28_c_0 : w28.cell? ⟨wc.heap.size, 0, none⟩ = some (.int .i64 0) := V28_c.c 0 _ rfl
          have f28_c := V28_c.2.2; have L28_c := V28_c.lt; have N28_c := Nat.ne_of_gt L28_c; have M28_c := Nat.ne_of_lt L28_c
          have HV28_c := Lib.hid V28_c
          have q28_w_0 : w28.cell? ⟨wc.heap.size + 1, 0, none⟩ = some (.int .i64 0) := V28_w.c 0 _ rfl
          have q28_w_1 : w28.cell? ⟨wc.heap.size + 1, 1, none⟩ = some (.int .i64 0) := V28_w.c 1 _ rfl
          have f28_w := V28_w.2.2; have L28_w := V28_w.lt; have N28_w := Nat.ne_of_gt L28_w; have M28_w := Nat.ne_of_lt L28_w
          have HV28_w := Lib.hid V28_w
          have q28_v_0 : w28.cell? ⟨wc.heap.size + 1 + 1, 0, none⟩ = some (.int .i64 x1) := V28_v.c 0 _ rfl
          have q28_v_1 : w28.cell? ⟨wc.heap.size + 1 + 1, 1, none⟩ = some (.int .i64 x2) := V28_v.c 1 _ rfl
          have f28_v := V28_v.2.2; have L28_v := V28_v.lt; have N28_v := Nat.ne_of_gt L28_v; have M28_v := Nat.ne_of_lt L28_v
          have HV28_v := Lib.hid V28_v
          have q28_y_0 : w28.cell? ⟨wc.heap.size + 1 + 1 + 1, 0, none⟩ = some (.int .i64 y1) := V28_y.c 0 _ rfl
          have f28_y := V28_y.2.2; have L28_y := V28_y.lt; have N28_y := Nat.ne_of_gt L28_y; have M28_y := Nat.ne_of_lt L28_y
          have HV28_y := Lib.hid V28_y
          have S28 := G28.size; clear hb
          go_wp2_with fail
          (with_reducible refine (K1.out _ _ (M.pcell_var (by (repeat (first | (with_reducible assumption) | (with_reducible apply M.var_set45) | (with_reducible refine M.var_alloc' _ _ _ ?_; first | rfl | (simp [go_sem]; done)) | (with_reducible refine M.Var.alloc ?_ _) | (with_reducible refine M.Var.drewN ?_ _) | (with_reducible refine M.Var.drew ?_) | (with_reducible refine M.Var.far ?_ _ _ ?hFar; case hFar => (first | omega | ((try simp [go_sem]) <;> omega))) | fail)) : M.Var _ (wc.heap.size) #[.int .i64 0]))).mono ?_); rintro en w29 ⟨rfl, hb⟩
          have G29 : Below w.heap.size w w29 := Below.trans (M.below_sets_own ([(⟨wc.heap.size, 0, none⟩, .int .i64 0)]) (by have G := HGc.out; (repeat (with_reducible refine M.Below.drewN ?_ _)); go_grown) (by intro u hu; rw [M.cell_block1 hu]; dsimp only; omega)) (hb.mono (by go_size))
          have VV29 : M.Var w29 (w.heap.size) #[.int .i64 a1, .int .i64 a2] ∧ M.Var w29 (w.heap.size + 1) #[.int .i64 b1, .int .i64 b2] ∧ M.Var w29 (w.heap.size + 1 + 1) #[.int .i64 k] ∧ M.Var w29 (w.heap.size + 1 + 1 + 1) #[.int .i64 n] ∧ M.Var w29 (B) #[.int .i64 6] ∧ M.Var w29 (wc.heap.size + 1) #[.int .i64 0, .int .i64 0] ∧ M.Var w29 (wc.heap.size + 1 + 1) #[.int .i64 x1, .int .i64 x2] ∧ M.Var w29 (wc.heap.size + 1 + 1 + 1) #[.int .i64 y1] := by refine ⟨?_, ?_, ?_, ?_, ?_, ?_, ?_, ?_⟩ <;> exact M.Var.mono' (u := M.sets _ ([(⟨wc.heap.size, 0, none⟩, .int .i64 0)])) (by (try simp only [M.sets_append]); exact (M.var_sets_far ([(⟨wc.heap.size, 0, none⟩, .int .i64 0)]) (by (repeat (first | (with_reducible assumption) | (with_reducible apply M.var_set45) | (with_reducible refine M.var_alloc' _ _ _ ?_; first | rfl | (simp [go_sem]; done)) | (with_reducible refine M.Var.alloc ?_ _) | (with_reducible refine M.Var.drewN ?_ _) | (with_reducible refine M.Var.drew ?_) | (with_reducible refine M.Var.far ?_ _ _ ?hFar; case hFar => (first | omega | ((try simp [go_sem]) <;> omega))) | fail))) (by intro u hu; all_goals (first | rw [M.usBx_block hu] | rw [M.usV_block hu] | rw [M.usI_block hu] | rw [M.usHt_block hu] | rw [M.usBd_block hu] | rw [M.usB_block hu] | rw [M.cell_block1 hu] | (exfalso; simp at hu; done)); all_goals ((try simp [go_sem]) <;> omega)))) (M.sets_size _ _) hb
          obtain ⟨V29_a, V29_b, V29_k, V29_n, V29_o, V29_w, V29_v, V29_y⟩ := VV29
          have V29_c : M.Var w29 (wc.heap.size) #[.int .i64 0] := M.Var.mono' (u := M.sets _ ([(⟨wc.heap.size, 0, none⟩, .int .i64 0)])) (by (try simp only [M.sets_append]); exact (M.var_setI (by (repeat (first | (with_reducible assumption) | (with_reducible apply M.var_set45) | (with_reducible refine M.var_alloc' _ _ _ ?_; first | rfl | (simp [go_sem]; done)) | (with_reducible refine M.Var.alloc ?_ _) | (with_reducible refine M.Var.drewN ?_ _) | (with_reducible refine M.Var.drew ?_) | (with_reducible refine M.Var.far ?_ _ _ ?hFar; case hFar => (first | omega | ((try simp [go_sem]) <;> omega))) | fail)) : M.Var _ (wc.heap.size) #[.int .i64 0]) _)) (M.sets_size _ _) hb
          have q29_a_0 : w29.cell? ⟨w.heap.size, 0, none⟩ = some (.int .i64 a1) := V29_a.c 0 _ rfl
          have q29_a_1 : w29.cell? ⟨w.heap.size, 1, none⟩ = some (.int .i64 a2) := V29_a.c 1 _ rfl
          have f29_a := V29_a.2.2; have L29_a := V29_a.lt; have N29_a := Nat.ne_of_gt L29_a; have M29_a := Nat.ne_of_lt L29_a
          have HV29_a := Lib.hid V29_a
          have q29_b_0 : w29.cell? ⟨w.heap.size + 1, 0, none⟩ = some (.int .i64 b1) := V29_b.c 0 _ rfl
          have q29_b_1 : w29.cell? ⟨w.heap.size + 1, 1, none⟩ = some (.int .i64 b2) := V29_b.c 1 _ rfl
          have f29_b := V29_b.2.2; have L29_b := V29_b.lt; have N29_b := Nat.ne_of_gt L29_b; have M29_b := Nat.ne_of_lt L29_b
          have HV29_b := Lib.hid V29_b
          have q29_k_0 : w29.cell? ⟨w.heap.size + 1 + 1, 0, none⟩ = some (.int .i64 k) := V29_k.c 0 _ rfl
          have f29_k := V29_k.2.2; have L29_k := V29_k.lt; have N29_k := Nat.ne_of_gt L29_k; have M29_k := Nat.ne_of_lt L29_k
          have HV29_k := Lib.hid V29_k
          have q29_n_0 : w29.cell? ⟨w.heap.size + 1 + 1 + 1, 0, none⟩ = some (.int .i64 n) := V29_n.c 0 _ rfl
          have f29_n := V29_n.2.2; have L29_n := V29_n.lt; have N29_n := Nat.ne_of_gt L29_n; have M29_n := Nat.ne_of_lt L29_n
          have HV29_n := Lib.hid V29_n
          have q29_o_0 : w29.cell? ⟨B, 0, none⟩ = some (.int .i64 6) := V29_o.c 0 _ rfl
          have f29_o := V29_o.2.2; have L29_o := V29_o.lt; have N29_o := Nat.ne_of_gt L29_o; have M29_o := Nat.ne_of_lt L29_o
          have HV29_o := Lib.hid V29_o
          have q29_c_0 : w29.cell? ⟨wc.heap.size, 0, none⟩ = some (.int .i64 0) := V29_c.c 0 _ rfl
          have f29_c := V29_c.2.2; have L29_c := V29_c.lt; have N29_c := Nat.ne_of_gt L29_c; have M29_c := Nat.ne_of_lt L29_c
          have HV29_c := Lib.hid V29_c
          have q29_w_0 : w29.cell? ⟨wc.heap.size + 1, 0, none⟩ = some (.int .i64 0) := V29_w.c 0 _ rfl
          have q29_w_1 : w29.cell? ⟨wc.heap.size + 1, 1, none⟩ = some (.int .i64 0) := V29_w.c 1 _ rfl
          have f29_w := V29_w.2.2; have L29_w := V29_w.lt; have N29_w := Nat.ne_of_gt L29_w; have M29_w := Nat.ne_of_lt L29_w
          have HV29_w := Lib.hid V29_w
          have q29_v_0 : w29.cell? ⟨wc.heap.size + 1 + 1, 0, none⟩ = some (.int .i64 x1) := V29_v.c 0 _ rfl
          have q29_v_1 : w29.cell? ⟨wc.heap.size + 1 + 1, 1, none⟩ = some (.int .i64 x2) := V29_v.c 1 _ rfl
          have f29_v := V29_v.2.2; have L29_v := V29_v.lt; have N29_v := Nat.ne_of_gt L29_v; have M29_v := Nat.ne_of_lt L29_v
          have HV29_v := Lib.hid V29_v
          have q29_y_0 : w29.cell? ⟨wc.heap.size + 1 + 1 + 1, 0, none⟩ = some (.int .i64 y1) := V29_y.c 0 _ rfl
          have f29_y := V29_y.2.2; have L29_y := V29_y.lt; have N29_y := Nat.ne_of_gt L29_y; have M29_y := Nat.ne_of_lt L29_y
          have HV29_y := Lib.hid V29_y
          have S29 := G29.size; clear hb
          go_wp2_with fail
          go_roundg gf
          case measure => omega
          case rel => refine ⟨w29.heap.size, 7, by omega, by omega, rfl, by omega, ?_, ?_, ?_, ?_, ?_, by have G := G29; (repeat (with_reducible refine M.Below.drewN ?_ _)); go_grown⟩ <;> ((repeat (first | (with_reducible assumption) | (with_reducible apply M.var_setV) | (with_reducible apply M.var_setI) | (with_reducible apply M.var_setB) | (with_reducible apply M.var_setHt) | (with_reducible apply M.var_setBd) | (with_reducible apply M.var_set2) | (with_reducible apply M.var_set3) | (with_reducible apply M.var_set4) | (with_reducible apply M.var_set45) | (with_reducible apply M.var_set67) | (with_reducible apply M.var_setF) | (with_reducible refine M.var_alloc' _ _ _ ?_; first | rfl | (focus (simp [go_sem]; done))) | (with_reducible refine M.Var.alloc ?_ _) | (with_reducible refine M.Var.drewN ?_ _) | (with_reducible refine M.Var.drew ?_) | (with_reducible refine M.Var.far ?_ _ _ ?hFar; case hFar => (first | omega | ((try simp [go_sem]) <;> omega))) | fail)))
      · rcases hP : shareV (a1, a2) n with i | ⟨x1, x2⟩
        · have z1 := bne_iff_ne.2 (nz_share _ _ i hP); have z1b := beq_eq_false_iff_ne.2 (nz_share _ _ i hP)
          have K1 := Lib.hid (fun pb w hp => (refShare_x pb 0 a1 a2 n ha1 ha2 hn w hp).mono fun en w' h => M.relV_err hP h)
          replace hP := Lib.hid hP
          have qc_o_0 : wc.cell? ⟨B, 0, none⟩ = some (.int .i64 7) := Vc_o.c 0 _ rfl
          have fc_o := Vc_o.2.2; have Lc_o := Vc_o.lt; have Nc_o := Nat.ne_of_gt Lc_o; have Mc_o := Nat.ne_of_lt Lc_o
          have qc_a_0 : wc.cell? ⟨w.heap.size, 0, none⟩ = some (.int .i64 a1) := Vc_a.c 0 _ rfl
          have qc_a_1 : wc.cell? ⟨w.heap.size, 1, none⟩ = some (.int .i64 a2) := Vc_a.c 1 _ rfl
          have fc_a := Vc_a.2.2; have Lc_a := Vc_a.lt; have Nc_a := Nat.ne_of_gt Lc_a; have Mc_a := Nat.ne_of_lt Lc_a
          have qc_b_0 : wc.cell? ⟨w.heap.size + 1, 0, none⟩ = some (.int .i64 b1) := Vc_b.c 0 _ rfl
          have qc_b_1 : wc.cell? ⟨w.heap.size + 1, 1, none⟩ = some (.int .i64 b2) := Vc_b.c 1 _ rfl
          have fc_b := Vc_b.2.2; have Lc_b := Vc_b.lt; have Nc_b := Nat.ne_of_gt Lc_b; have Mc_b := Nat.ne_of_lt Lc_b
          have qc_k_0 : wc.cell? ⟨w.heap.size + 1 + 1, 0, none⟩ = some (.int .i64 k) := Vc_k.c 0 _ rfl
          have fc_k := Vc_k.2.2; have Lc_k := Vc_k.lt; have Nc_k := Nat.ne_of_gt Lc_k; have Mc_k := Nat.ne_of_lt Lc_k
          have qc_n_0 : wc.cell? ⟨w.heap.size + 1 + 1 + 1, 0, none⟩ = some (.int .i64 n) := Vc_n.c 0 _ rfl
          have fc_n := Vc_n.2.2; have Lc_n := Vc_n.lt; have Nc_n := Nat.ne_of_gt Lc_n; have Mc_n := Nat.ne_of_lt Lc_n
          go_wp2_with fail
          refine (try_c 110 #[.pointer (some ⟨B, 0, none⟩), .pointer (some ⟨w.heap.size, 0, none⟩), .pointer (some ⟨w.heap.size + 1, 0, none⟩), .pointer (some ⟨wc.heap.size + 1 + 1, 0, none⟩), .pointer (some ⟨w.heap.size + 1 + 1, 0, none⟩), .pointer (some ⟨wc.heap.size + 1 + 1 + 1, 0, none⟩), .pointer (some ⟨w.heap.size + 1 + 1 + 1, 0, none⟩)] _ (i) ([]) (fun _ => rfl) ?_ ?_).mono ?_
          · intro u hu; (try simp only [List.mem_append] at hu); (repeat' (obtain hu | hu := (hu : _ ∨ _))); all_goals (first | rw [M.usBx_block hu] | rw [M.usV_block hu] | rw [M.usI_block hu] | rw [M.usHt_block hu] | rw [M.usBd_block hu] | rw [M.usB_block hu] | rw [M.cell_block1 hu] | (exfalso; simp at hu; done)); all_goals ((try simp [go_sem]) <;> omega)
          · intro w1' hb; exact (cloVT7 _ _ _ _ _ _ _ a1 a2 ha1 ha2 n hn _ _ (.error i : X (V)) hP.out w1' (M.Var.mono (b := B) (cs := #[.int .i64 7]) (by (repeat (first | (with_reducible assumption) | (with_reducible apply M.var_set45) | (with_reducible refine M.var_alloc' _ _ _ ?_; first | rfl | (simp [go_sem]; done)) | (with_reducible refine M.Var.alloc ?_ _) | (with_reducible refine M.Var.drewN ?_ _) | (with_reducible refine M.Var.drew ?_) | (with_reducible refine M.Var.far ?_ _ _ ?hFar; case hFar => (first | omega | ((try simp [go_sem]) <;> omega))) | fail))) hb) (M.Var.mono (b := w.heap.size) (cs := #[.int .i64 a1, .int .i64 a2]) (by (repeat (first | (with_reducible assumption) | (with_reducible apply M.var_set45) | (with_reducible refine M.var_alloc' _ _ _ ?_; first | rfl | (simp [go_sem]; done)) | (with_reducible refine M.Var.alloc ?_ _) | (with_reducible refine M.Var.drewN ?_ _) | (with_reducible refine M.Var.drew ?_) | (with_reducible refine M.Var.far ?_ _ _ ?hFar; case hFar => (first | omega | ((try simp [go_sem]) <;> omega))) | fail))) hb) (M.Var.mono (b := w.heap.size + 1 + 1 + 1) (cs := #[.int .i64 n]) (by (repeat (first | (with_reducible assumption) | (with_reducible apply M.var_set45) | (with_reducible refine M.var_alloc' _ _ _ ?_; first | rfl | (simp [go_sem]; done)) | (with_reducible refine M.Var.alloc ?_ _) | (with_reducible refine M.Var.drewN ?_ _) | (with_reducible refine M.Var.drew ?_) | (with_reducible refine M.Var.far ?_ _ _ ?hFar; case hFar => (first | omega | ((try simp [go_sem]) <;> omega))) | fail))) hb) (M.Var.mono (b := wc.heap.size + 1 + 1) (cs := #[.int .i64 0, .int .i64 0]) (by (repeat (first | (with_reducible assumption) | (with_reducible apply M.var_set45) | (with_reducible refine M.var_alloc' _ _ _ ?_; first | rfl | (simp [go_sem]; done)) | (with_reducible refine M.Var.alloc ?_ _) | (with_reducible refine M.Var.drewN ?_ _) | (with_reducible refine M.Var.drew ?_) | (with_reducible refine M.Var.far ?_ _ _ ?hFar; case hFar => (first | omega | ((try simp [go_sem]) <;> omega))) | fail))) hb)).mono fun e w' h => h
          rintro en w30 ⟨rfl, hb⟩
          have G30 : Below w.heap.size w w30 := Below.trans (M.below_sets_own ([]) (by have G := HGc.out; (repeat (with_reducible refine M.Below.drewN ?_ _)); go_grown) (by intro u hu; (try simp only [List.mem_append] at hu); (repeat' (obtain hu | hu := (hu : _ ∨ _))); all_goals (first | rw [M.usBx_block hu] | rw [M.usV_block hu] | rw [M.usI_block hu] | rw [M.usHt_block hu] | rw [M.usBd_block hu] | rw [M.usB_block hu] | rw [M.cell_block1 hu] | (exfalso; simp at hu; done)); all_goals ((try simp [go_sem]) <;> omega))) (hb.mono (by go_size))
          have VV30 : M.Var w30 (w.heap.size) #[.int .i64 a1, .int .i64 a2] ∧ M.Var w30 (w.heap.size + 1) #[.int .i64 b1, .int .i64 b2] ∧ M.Var w30 (w.heap.size + 1 + 1) #[.int .i64 k] ∧ M.Var w30 (w.heap.size + 1 + 1 + 1) #[.int .i64 n] ∧ M.Var w30 (B) #[.int .i64 7] ∧ M.Var w30 (wc.heap.size) #[.int .i64 0] ∧ M.Var w30 (wc.heap.size + 1) #[.int .i64 0, .int .i64 0] ∧ M.Var w30 (wc.heap.size + 1 + 1) #[.int .i64 0, .int .i64 0] ∧ M.Var w30 (wc.heap.size + 1 + 1 + 1) #[.int .i64 0] := by refine ⟨?_, ?_, ?_, ?_, ?_, ?_, ?_, ?_, ?_⟩ <;> exact M.Var.mono' (u := M.sets _ ([])) (by (try simp only [M.sets_append]); exact (M.var_sets_far ([]) (by (repeat (first | (with_reducible assumption) | (with_reducible apply M.var_set45) | (with_reducible refine M.var_alloc' _ _ _ ?_; first | rfl | (simp [go_sem]; done)) | (with_reducible refine M.Var.alloc ?_ _) | (with_reducible refine M.Var.drewN ?_ _) | (with_reducible refine M.Var.drew ?_) | (with_reducible refine M.Var.far ?_ _ _ ?hFar; case hFar => (first | omega | ((try simp [go_sem]) <;> omega))) | fail))) (by intro u hu; all_goals (first | rw [M.usBx_block hu] | rw [M.usV_block hu] | rw [M.usI_block hu] | rw [M.usHt_block hu] | rw [M.usBd_block hu] | rw [M.usB_block hu] | rw [M.cell_block1 hu] | (exfalso; simp at hu; done)); all_goals ((try simp [go_sem]) <;> omega)))) (M.sets_size _ _) hb
          obtain ⟨V30_a, V30_b, V30_k, V30_n, V30_o, V30_c, V30_w, V30_v, V30_y⟩ := VV30
          have q30_a_0 : w30.cell? ⟨w.heap.size, 0, none⟩ = some (.int .i64 a1) := V30_a.c 0 _ rfl
          have q30_a_1 : w30.cell? ⟨w.heap.size, 1, none⟩ = some (.int .i64 a2) := V30_a.c 1 _ rfl
          have f30_a := V30_a.2.2; have L30_a := V30_a.lt; have N30_a := Nat.ne_of_gt L30_a; have M30_a := Nat.ne_of_lt L30_a
          have HV30_a := Lib.hid V30_a
          have q30_b_0 : w30.cell? ⟨w.heap.size + 1, 0, none⟩ = some (.int .i64 b1) := V30_b.c 0 _ rfl
          have q30_b_1 : w30.cell? ⟨w.heap.size + 1, 1, none⟩ = some (.int .i64 b2) := V30_b.c 1 _ rfl
          have f30_b := V30_b.2.2; have L30_b := V30_b.lt; have N30_b := Nat.ne_of_gt L30_b; have M30_b := Nat.ne_of_lt L30_b
          have HV30_b := Lib.hid V30_b
          have q30_k_0 : w30.cell? ⟨w.heap.size + 1 + 1, 0, none⟩ = some (.int .i64 k) := V30_k.c 0 _ rfl
          have f30_k := V30_k.2.2; have L30_k := V30_k.lt; have N30_k := Nat.ne_of_gt L30_k; have M30_k := Nat.ne_of_lt L30_k
          have HV30_k := Lib.hid V30_k
          have q30_n_0 : w30.cell? ⟨w.heap.size + 1 + 1 + 1, 0, none⟩ = some (.int .i64 n) := V30_n.c 0 _ rfl
          have f30_n := V30_n.2.2; have L30_n := V30_n.lt; have N30_n := Nat.ne_of_gt L30_n; have M30_n := Nat.ne_of_lt L30_n
          have HV30_n := Lib.hid V30_n
          have q30_o_0 : w30.cell? ⟨B, 0, none⟩ = some (.int .i64 7) := V30_o.c 0 _ rfl
          have f30_o := V30_o.2.2; have L30_o := V30_o.lt; have N30_o := Nat.ne_of_gt L30_o; have M30_o := Nat.ne_of_lt L30_o
          have HV30_o := Lib.hid V30_o
          have q30_c_0 : w30.cell? ⟨wc.heap.size, 0, none⟩ = some (.int .i64 0) := V30_c.c 0 _ rfl
          have f30_c := V30_c.2.2; have L30_c := V30_c.lt; have N30_c := Nat.ne_of_gt L30_c; have M30_c := Nat.ne_of_lt L30_c
          have HV30_c := Lib.hid V30_c
          have q30_w_0 : w30.cell? ⟨wc.heap.size + 1, 0, none⟩ = some (.int .i64 0) := V30_w.c 0 _ rfl
          have q30_w_1 : w30.cell? ⟨wc.heap.size + 1, 1, none⟩ = some (.int .i64 0) := V30_w.c 1 _ rfl
          have f30_w := V30_w.2.2; have L30_w := V30_w.lt; have N30_w := Nat.ne_of_gt L30_w; have M30_w := Nat.ne_of_lt L30_w
          have HV30_w := Lib.hid V30_w
          have q30_v_0 : w30.cell? ⟨wc.heap.size + 1 + 1, 0, none⟩ = some (.int .i64 0) := V30_v.c 0 _ rfl
          have q30_v_1 : w30.cell? ⟨wc.heap.size + 1 + 1, 1, none⟩ = some (.int .i64 0) := V30_v.c 1 _ rfl
          have f30_v := V30_v.2.2; have L30_v := V30_v.lt; have N30_v := Nat.ne_of_gt L30_v; have M30_v := Nat.ne_of_lt L30_v
          have HV30_v := Lib.hid V30_v
          have q30_y_0 : w30.cell? ⟨wc.heap.size + 1 + 1 + 1, 0, none⟩ = some (.int .i64 0) := V30_y.c 0 _ rfl
          have f30_y := V30_y.2.2; have L30_y := V30_y.lt; have N30_y := Nat.ne_of_gt L30_y; have M30_y := Nat.ne_of_lt L30_y
          have HV30_y := Lib.hid V30_y
          have S30 := G30.size; clear hb
          go_wp2_with fail
          (with_reducible refine (K1.out _ _ (M.pcell_var (by (repeat (first | (with_reducible assumption) | (with_reducible apply M.var_set45) | (with_reducible refine M.var_alloc' _ _ _ ?_; first | rfl | (simp [go_sem]; done)) | (with_reducible refine M.Var.alloc ?_ _) | (with_reducible refine M.Var.drewN ?_ _) | (with_reducible refine M.Var.drew ?_) | (with_reducible refine M.Var.far ?_ _ _ ?hFar; case hFar => (first | omega | ((try simp [go_sem]) <;> omega))) | fail)) : M.Var _ (wc.heap.size) #[.int .i64 0]))).mono ?_); rintro en w31 ⟨⟨u1, u2, rfl⟩, hb⟩
          have G31 : Below w.heap.size w w31 := Below.trans (M.below_sets_own ([(⟨wc.heap.size, 0, none⟩, .int .i64 i)]) (by have G := HGc.out; (repeat (with_reducible refine M.Below.drewN ?_ _)); go_grown) (by intro u hu; rw [M.cell_block1 hu]; dsimp only; omega)) (hb.mono (by go_size))
          have VV31 : M.Var w31 (w.heap.size) #[.int .i64 a1, .int .i64 a2] ∧ M.Var w31 (w.heap.size + 1) #[.int .i64 b1, .int .i64 b2] ∧ M.Var w31 (w.heap.size + 1 + 1) #[.int .i64 k] ∧ M.Var w31 (w.heap.size + 1 + 1 + 1) #[.int .i64 n] ∧ M.Var w31 (B) #[.int .i64 7] ∧ M.Var w31 (wc.heap.size + 1) #[.int .i64 0, .int .i64 0] ∧ M.Var w31 (wc.heap.size + 1 + 1) #[.int .i64 0, .int .i64 0] ∧ M.Var w31 (wc.heap.size + 1 + 1 + 1) #[.int .i64 0] := by refine ⟨?_, ?_, ?_, ?_, ?_, ?_, ?_, ?_⟩ <;> exact M.Var.mono' (u := M.sets _ ([(⟨wc.heap.size, 0, none⟩, .int .i64 i)])) (by (try simp only [M.sets_append]); exact (M.var_sets_far ([(⟨wc.heap.size, 0, none⟩, .int .i64 i)]) (by (repeat (first | (with_reducible assumption) | (with_reducible apply M.var_set45) | (with_reducible refine M.var_alloc' _ _ _ ?_; first | rfl | (simp [go_sem]; done)) | (with_reducible refine M.Var.alloc ?_ _) | (with_reducible refine M.Var.drewN ?_ _) | (with_reducible refine M.Var.drew ?_) | (with_reducible refine M.Var.far ?_ _ _ ?hFar; case hFar => (first | omega | ((try simp [go_sem]) <;> omega))) | fail))) (by intro u hu; all_goals (first | rw [M.usBx_block hu] | rw [M.usV_block hu] | rw [M.usI_block hu] | rw [M.usHt_block hu] | rw [M.usBd_block hu] | rw [M.usB_block hu] | rw [M.cell_block1 hu] | (exfalso; simp at hu; done)); all_goals ((try simp [go_sem]) <;> omega)))) (M.sets_size _ _) hb
          obtain ⟨V31_a, V31_b, V31_k, V31_n, V31_o, V31_w, V31_v, V31_y⟩ := VV31
          have V31_c : M.Var w31 (wc.heap.size) #[.int .i64 i] := M.Var.mono' (u := M.sets _ ([(⟨wc.heap.size, 0, none⟩, .int .i64 i)])) (by (try simp only [M.sets_append]); exact (M.var_setI (by (repeat (first | (with_reducible assumption) | (with_reducible apply M.var_set45) | (with_reducible refine M.var_alloc' _ _ _ ?_; first | rfl | (simp [go_sem]; done)) | (with_reducible refine M.Var.alloc ?_ _) | (with_reducible refine M.Var.drewN ?_ _) | (with_reducible refine M.Var.drew ?_) | (with_reducible refine M.Var.far ?_ _ _ ?hFar; case hFar => (first | omega | ((try simp [go_sem]) <;> omega))) | fail)) : M.Var _ (wc.heap.size) #[.int .i64 0]) _)) (M.sets_size _ _) hb
          have q31_a_0 : w31.cell? ⟨w.heap.size, 0, none⟩ = some (.int .i64 a1) := V31_a.c 0 _ rfl
          have q31_a_1 : w31.cell? ⟨w.heap.size, 1, none⟩ = some (.int .i64 a2) := V31_a.c 1 _ rfl
          have f31_a := V31_a.2.2; have L31_a := V31_a.lt; have N31_a := Nat.ne_of_gt L31_a; have M31_a := Nat.ne_of_lt L31_a
          have HV31_a := Lib.hid V31_a
          have q31_b_0 : w31.cell? ⟨w.heap.size + 1, 0, none⟩ = some (.int .i64 b1) := V31_b.c 0 _ rfl
          have q31_b_1 : w31.cell? ⟨w.heap.size + 1, 1, none⟩ = some (.int .i64 b2) := V31_b.c 1 _ rfl
          have f31_b := V31_b.2.2; have L31_b := V31_b.lt; have N31_b := Nat.ne_of_gt L31_b; have M31_b := Nat.ne_of_lt L31_b
          have HV31_b := Lib.hid V31_b
          have q31_k_0 : w31.cell? ⟨w.heap.size + 1 + 1, 0, none⟩ = some (.int .i64 k) := V31_k.c 0 _ rfl
          have f31_k := V31_k.2.2; have L31_k := V31_k.lt; have N31_k := Nat.ne_of_gt L31_k; have M31_k := Nat.ne_of_lt L31_k
          have HV31_k := Lib.hid V31_k
          have q31_n_0 : w31.cell? ⟨w.heap.size + 1 + 1 + 1, 0, none⟩ = some (.int .i64 n) := V31_n.c 0 _ rfl
          have f31_n := V31_n.2.2; have L31_n := V31_n.lt; have N31_n := Nat.ne_of_gt L31_n; have M31_n := Nat.ne_of_lt L31_n
          have HV31_n := Lib.hid V31_n
          have q31_o_0 : w31.cell? ⟨B, 0, none⟩ = some (.int .i64 7) := V31_o.c 0 _ rfl
          have f31_o := V31_o.2.2; have L31_o := V31_o.lt; have N31_o := Nat.ne_of_gt L31_o; have M31_o := Nat.ne_of_lt L31_o
          have HV31_o := Lib.hid V31_o
          have q31_c_0 : w31.cell? ⟨wc.heap.size, 0, none⟩ = some (.int .i64 i) := V31_c.c 0 _ rfl
          have f31_c := V31_c.2.2; have L31_c := V31_c.lt; have N31_c := Nat.ne_of_gt L31_c; have M31_c := Nat.ne_of_lt L31_c
          have HV31_c := Lib.hid V31_c
          have q31_w_0 : w31.cell? ⟨wc.heap.size + 1, 0, none⟩ = some (.int .i64 0) := V31_w.c 0 _ rfl
          have q31_w_1 : w31.cell? ⟨wc.heap.size + 1, 1, none⟩ = some (.int .i64 0) := V31_w.c 1 _ rfl
          have f31_w := V31_w.2.2; have L31_w := V31_w.lt; have N31_w := Nat.ne_of_gt L31_w; have M31_w := Nat.ne_of_lt L31_w
          have HV31_w := Lib.hid V31_w
          have q31_v_0 : w31.cell? ⟨wc.heap.size + 1 + 1, 0, none⟩ = some (.int .i64 0) := V31_v.c 0 _ rfl
          have q31_v_1 : w31.cell? ⟨wc.heap.size + 1 + 1, 1, none⟩ = some (.int .i64 0) := V31_v.c 1 _ rfl
          have f31_v := V31_v.2.2; have L31_v := V31_v.lt; have N31_v := Nat.ne_of_gt L31_v; have M31_v := Nat.ne_of_lt L31_v
          have HV31_v := Lib.hid V31_v
          have q31_y_0 : w31.cell? ⟨wc.heap.size + 1 + 1 + 1, 0, none⟩ = some (.int .i64 0) := V31_y.c 0 _ rfl
          have f31_y := V31_y.2.2; have L31_y := V31_y.lt; have N31_y := Nat.ne_of_gt L31_y; have M31_y := Nat.ne_of_lt L31_y
          have HV31_y := Lib.hid V31_y
          have S31 := G31.size; clear hb
          go_wp2_with fail
          go_roundg gf
          case measure => omega
          case rel => refine ⟨w31.heap.size, 8, by omega, by omega, rfl, by omega, ?_, ?_, ?_, ?_, ?_, by have G := G31; (repeat (with_reducible refine M.Below.drewN ?_ _)); go_grown⟩ <;> ((repeat (first | (with_reducible assumption) | (with_reducible apply M.var_setV) | (with_reducible apply M.var_setI) | (with_reducible apply M.var_setB) | (with_reducible apply M.var_setHt) | (with_reducible apply M.var_setBd) | (with_reducible apply M.var_set2) | (with_reducible apply M.var_set3) | (with_reducible apply M.var_set4) | (with_reducible apply M.var_set45) | (with_reducible apply M.var_set67) | (with_reducible apply M.var_setF) | (with_reducible refine M.var_alloc' _ _ _ ?_; first | rfl | (focus (simp [go_sem]; done))) | (with_reducible refine M.Var.alloc ?_ _) | (with_reducible refine M.Var.drewN ?_ _) | (with_reducible refine M.Var.drew ?_) | (with_reducible refine M.Var.far ?_ _ _ ?hFar; case hFar => (first | omega | ((try simp [go_sem]) <;> omega))) | fail)))
        · skip
          have K1 := Lib.hid (fun pb w hp => (refShare_x pb 0 a1 a2 n ha1 ha2 hn w hp).mono fun en w' h => M.relV_ok hP h)
          replace hP := Lib.hid hP
          have qc_o_0 : wc.cell? ⟨B, 0, none⟩ = some (.int .i64 7) := Vc_o.c 0 _ rfl
          have fc_o := Vc_o.2.2; have Lc_o := Vc_o.lt; have Nc_o := Nat.ne_of_gt Lc_o; have Mc_o := Nat.ne_of_lt Lc_o
          have qc_a_0 : wc.cell? ⟨w.heap.size, 0, none⟩ = some (.int .i64 a1) := Vc_a.c 0 _ rfl
          have qc_a_1 : wc.cell? ⟨w.heap.size, 1, none⟩ = some (.int .i64 a2) := Vc_a.c 1 _ rfl
          have fc_a := Vc_a.2.2; have Lc_a := Vc_a.lt; have Nc_a := Nat.ne_of_gt Lc_a; have Mc_a := Nat.ne_of_lt Lc_a
          have qc_b_0 : wc.cell? ⟨w.heap.size + 1, 0, none⟩ = some (.int .i64 b1) := Vc_b.c 0 _ rfl
          have qc_b_1 : wc.cell? ⟨w.heap.size + 1, 1, none⟩ = some (.int .i64 b2) := Vc_b.c 1 _ rfl
          have fc_b := Vc_b.2.2; have Lc_b := Vc_b.lt; have Nc_b := Nat.ne_of_gt Lc_b; have Mc_b := Nat.ne_of_lt Lc_b
          have qc_k_0 : wc.cell? ⟨w.heap.size + 1 + 1, 0, none⟩ = some (.int .i64 k) := Vc_k.c 0 _ rfl
          have fc_k := Vc_k.2.2; have Lc_k := Vc_k.lt; have Nc_k := Nat.ne_of_gt Lc_k; have Mc_k := Nat.ne_of_lt Lc_k
          have qc_n_0 : wc.cell? ⟨w.heap.size + 1 + 1 + 1, 0, none⟩ = some (.int .i64 n) := Vc_n.c 0 _ rfl
          have fc_n := Vc_n.2.2; have Lc_n := Vc_n.lt; have Nc_n := Nat.ne_of_gt Lc_n; have Mc_n := Nat.ne_of_lt Lc_n
          go_wp2_with fail
          refine (try_c 110 #[.pointer (some ⟨B, 0, none⟩), .pointer (some ⟨w.heap.size, 0, none⟩), .pointer (some ⟨w.heap.size + 1, 0, none⟩), .pointer (some ⟨wc.heap.size + 1 + 1, 0, none⟩), .pointer (some ⟨w.heap.size + 1 + 1, 0, none⟩), .pointer (some ⟨wc.heap.size + 1 + 1 + 1, 0, none⟩), .pointer (some ⟨w.heap.size + 1 + 1 + 1, 0, none⟩)] _ (0) (usV (wc.heap.size + 1 + 1) (.ok (x1, x2))) (fun _ => rfl) ?_ ?_).mono ?_
          · intro u hu; (try simp only [List.mem_append] at hu); (repeat' (obtain hu | hu := (hu : _ ∨ _))); all_goals (first | rw [M.usBx_block hu] | rw [M.usV_block hu] | rw [M.usI_block hu] | rw [M.usHt_block hu] | rw [M.usBd_block hu] | rw [M.usB_block hu] | rw [M.cell_block1 hu] | (exfalso; simp at hu; done)); all_goals ((try simp [go_sem]) <;> omega)
          · intro w1' hb; exact (cloVT7 _ _ _ _ _ _ _ a1 a2 ha1 ha2 n hn _ _ ((.ok (x1, x2)) : X (V)) hP.out w1' (M.Var.mono (b := B) (cs := #[.int .i64 7]) (by (repeat (first | (with_reducible assumption) | (with_reducible apply M.var_set45) | (with_reducible refine M.var_alloc' _ _ _ ?_; first | rfl | (simp [go_sem]; done)) | (with_reducible refine M.Var.alloc ?_ _) | (with_reducible refine M.Var.drewN ?_ _) | (with_reducible refine M.Var.drew ?_) | (with_reducible refine M.Var.far ?_ _ _ ?hFar; case hFar => (first | omega | ((try simp [go_sem]) <;> omega))) | fail))) hb) (M.Var.mono (b := w.heap.size) (cs := #[.int .i64 a1, .int .i64 a2]) (by (repeat (first | (with_reducible assumption) | (with_reducible apply M.var_set45) | (with_reducible refine M.var_alloc' _ _ _ ?_; first | rfl | (simp [go_sem]; done)) | (with_reducible refine M.Var.alloc ?_ _) | (with_reducible refine M.Var.drewN ?_ _) | (with_reducible refine M.Var.drew ?_) | (with_reducible refine M.Var.far ?_ _ _ ?hFar; case hFar => (first | omega | ((try simp [go_sem]) <;> omega))) | fail))) hb) (M.Var.mono (b := w.heap.size + 1 + 1 + 1) (cs := #[.int .i64 n]) (by (repeat (first | (with_reducible assumption) | (with_reducible apply M.var_set45) | (with_reducible refine M.var_alloc' _ _ _ ?_; first | rfl | (simp [go_sem]; done)) | (with_reducible refine M.Var.alloc ?_ _) | (with_reducible refine M.Var.drewN ?_ _) | (with_reducible refine M.Var.drew ?_) | (with_reducible refine M.Var.far ?_ _ _ ?hFar; case hFar => (first | omega | ((try simp [go_sem]) <;> omega))) | fail))) hb) (M.Var.mono (b := wc.heap.size + 1 + 1) (cs := #[.int .i64 0, .int .i64 0]) (by (repeat (first | (with_reducible assumption) | (with_reducible apply M.var_set45) | (with_reducible refine M.var_alloc' _ _ _ ?_; first | rfl | (simp [go_sem]; done)) | (with_reducible refine M.Var.alloc ?_ _) | (with_reducible refine M.Var.drewN ?_ _) | (with_reducible refine M.Var.drew ?_) | (with_reducible refine M.Var.far ?_ _ _ ?hFar; case hFar => (first | omega | ((try simp [go_sem]) <;> omega))) | fail))) hb)).mono fun e w' h => h
          rintro en w32 ⟨rfl, hb⟩
          have G32 : Below w.heap.size w w32 := Below.trans (M.below_sets_own (usV (wc.heap.size + 1 + 1) (.ok (x1, x2))) (by have G := HGc.out; (repeat (with_reducible refine M.Below.drewN ?_ _)); go_grown) (by intro u hu; (try simp only [List.mem_append] at hu); (repeat' (obtain hu | hu := (hu : _ ∨ _))); all_goals (first | rw [M.usBx_block hu] | rw [M.usV_block hu] | rw [M.usI_block hu] | rw [M.usHt_block hu] | rw [M.usBd_block hu] | rw [M.usB_block hu] | rw [M.cell_block1 hu] | (exfalso; simp at hu; done)); all_goals ((try simp [go_sem]) <;> omega))) (hb.mono (by go_size))
          have VV32 : M.Var w32 (w.heap.size) #[.int .i64 a1, .int .i64 a2] ∧ M.Var w32 (w.heap.size + 1) #[.int .i64 b1, .int .i64 b2] ∧ M.Var w32 (w.heap.size + 1 + 1) #[.int .i64 k] ∧ M.Var w32 (w.heap.size + 1 + 1 + 1) #[.int .i64 n] ∧ M.Var w32 (B) #[.int .i64 7] ∧ M.Var w32 (wc.heap.size) #[.int .i64 0] ∧ M.Var w32 (wc.heap.size + 1) #[.int .i64 0, .int .i64 0] ∧ M.Var w32 (wc.heap.size + 1 + 1 + 1) #[.int .i64 0] := by refine ⟨?_, ?_, ?_, ?_, ?_, ?_, ?_, ?_⟩ <;> exact M.Var.mono' (u := M.sets _ (usV (wc.heap.size + 1 + 1) (.ok (x1, x2)))) (by (try simp only [M.sets_append]); exact (M.var_sets_far (usV (wc.heap.size + 1 + 1) (.ok (x1, x2))) (by (repeat (first | (with_reducible assumption) | (with_reducible apply M.var_set45) | (with_reducible refine M.var_alloc' _ _ _ ?_; first | rfl | (simp [go_sem]; done)) | (with_reducible refine M.Var.alloc ?_ _) | (with_reducible refine M.Var.drewN ?_ _) | (with_reducible refine M.Var.drew ?_) | (with_reducible refine M.Var.far ?_ _ _ ?hFar; case hFar => (first | omega | ((try simp [go_sem]) <;> omega))) | fail))) (by intro u hu; all_goals (first | rw [M.usBx_block hu] | rw [M.usV_block hu] | rw [M.usI_block hu] | rw [M.usHt_block hu] | rw [M.usBd_block hu] | rw [M.usB_block hu] | rw [M.cell_block1 hu] | (exfalso; simp at hu; done)); all_goals ((try simp [go_sem]) <;> omega)))) (M.sets_size _ _) hb
          obtain ⟨V32_a, V32_b, V32_k, V32_n, V32_o, V32_c, V32_w, V32_y⟩ := VV32
          have V32_v : M.Var w32 (wc.heap.size + 1 + 1) #[.int .i64 x1, .int .i64 x2] := M.Var.mono' (u := M.sets _ (usV (wc.heap.size + 1 + 1) (.ok (x1, x2)))) (by (try simp only [M.sets_append]); exact (M.var_setV (by (repeat (first | (with_reducible assumption) | (with_reducible apply M.var_set45) | (with_reducible refine M.var_alloc' _ _ _ ?_; first | rfl | (simp [go_sem]; done)) | (with_reducible refine M.Var.alloc ?_ _) | (with_reducible refine M.Var.drewN ?_ _) | (with_reducible refine M.Var.drew ?_) | (with_reducible refine M.Var.far ?_ _ _ ?hFar; case hFar => (first | omega | ((try simp [go_sem]) <;> omega))) | fail)) : M.Var _ (wc.heap.size + 1 + 1) #[.int .i64 0, .int .i64 0]) _ _)) (M.sets_size _ _) hb
          have q32_a_0 : w32.cell? ⟨w.heap.size, 0, none⟩ = some (.int .i64 a1) := V32_a.c 0 _ rfl
          have q32_a_1 : w32.cell? ⟨w.heap.size, 1, none⟩ = some (.int .i64 a2) := V32_a.c 1 _ rfl
          have f32_a := V32_a.2.2; have L32_a := V32_a.lt; have N32_a := Nat.ne_of_gt L32_a; have M32_a := Nat.ne_of_lt L32_a
          have HV32_a := Lib.hid V32_a
          have q32_b_0 : w32.cell? ⟨w.heap.size + 1, 0, none⟩ = some (.int .i64 b1) := V32_b.c 0 _ rfl
          have q32_b_1 : w32.cell? ⟨w.heap.size + 1, 1, none⟩ = some (.int .i64 b2) := V32_b.c 1 _ rfl
          have f32_b := V32_b.2.2; have L32_b := V32_b.lt; have N32_b := Nat.ne_of_gt L32_b; have M32_b := Nat.ne_of_lt L32_b
          have HV32_b := Lib.hid V32_b
          have q32_k_0 : w32.cell? ⟨w.heap.size + 1 + 1, 0, none⟩ = some (.int .i64 k) := V32_k.c 0 _ rfl
          have f32_k := V32_k.2.2; have L32_k := V32_k.lt; have N32_k := Nat.ne_of_gt L32_k; have M32_k := Nat.ne_of_lt L32_k
          have HV32_k := Lib.hid V32_k
          have q32_n_0 : w32.cell? ⟨w.heap.size + 1 + 1 + 1, 0, none⟩ = some (.int .i64 n) := V32_n.c 0 _ rfl
          have f32_n := V32_n.2.2; have L32_n := V32_n.lt; have N32_n := Nat.ne_of_gt L32_n; have M32_n := Nat.ne_of_lt L32_n
          have HV32_n := Lib.hid V32_n
          have q32_o_0 : w32.cell? ⟨B, 0, none⟩ = some (.int .i64 7) := V32_o.c 0 _ rfl
          have f32_o := V32_o.2.2; have L32_o := V32_o.lt; have N32_o := Nat.ne_of_gt L32_o; have M32_o := Nat.ne_of_lt L32_o
          have HV32_o := Lib.hid V32_o
          have q32_c_0 : w32.cell? ⟨wc.heap.size, 0, none⟩ = some (.int .i64 0) := V32_c.c 0 _ rfl
          have f32_c := V32_c.2.2; have L32_c := V32_c.lt; have N32_c := Nat.ne_of_gt L32_c; have M32_c := Nat.ne_of_lt L32_c
          have HV32_c := Lib.hid V32_c
          have q32_w_0 : w32.cell? ⟨wc.heap.size + 1, 0, none⟩ = some (.int .i64 0) := V32_w.c 0 _ rfl
          have q32_w_1 : w32.cell? ⟨wc.heap.size + 1, 1, none⟩ = some (.int .i64 0) := V32_w.c 1 _ rfl
          have f32_w := V32_w.2.2; have L32_w := V32_w.lt; have N32_w := Nat.ne_of_gt L32_w; have M32_w := Nat.ne_of_lt L32_w
          have HV32_w := Lib.hid V32_w
          have q32_v_0 : w32.cell? ⟨wc.heap.size + 1 + 1, 0, none⟩ = some (.int .i64 x1) := V32_v.c 0 _ rfl
          have q32_v_1 : w32.cell? ⟨wc.heap.size + 1 + 1, 1, none⟩ = some (.int .i64 x2) := V32_v.c 1 _ rfl
          have f32_v := V32_v.2.2; have L32_v := V32_v.lt; have N32_v := Nat.ne_of_gt L32_v; have M32_v := Nat.ne_of_lt L32_v
          have HV32_v := Lib.hid V32_v
          have q32_y_0 : w32.cell? ⟨wc.heap.size + 1 + 1 + 1, 0, none⟩ = some (.int .i64 0) := V32_y.c 0 _ rfl
          have f32_y := V32_y.2.2; have L32_y := V32_y.lt; have N32_y := Nat.ne_of_gt L32_y; have M32_y := Nat.ne_of_lt L32_y
          have HV32_y := Lib.hid V32_y
          have S32 := G32.size; clear hb
          go_wp2_with fail
          (with_reducible refine (K1.out _ _ (M.pcell_var (by (repeat (first | (with_reducible assumption) | (with_reducible apply M.var_set45) | (with_reducible refine M.var_alloc' _ _ _ ?_; first | rfl | (simp [go_sem]; done)) | (with_reducible refine M.Var.alloc ?_ _) | (with_reducible refine M.Var.drewN ?_ _) | (with_reducible refine M.Var.drew ?_) | (with_reducible refine M.Var.far ?_ _ _ ?hFar; case hFar => (first | omega | ((try simp [go_sem]) <;> omega))) | fail)) : M.Var _ (wc.heap.size) #[.int .i64 0]))).mono ?_); rintro en w33 ⟨rfl, hb⟩
          have G33 : Below w.heap.size w w33 := Below.trans (M.below_sets_own ([(⟨wc.heap.size, 0, none⟩, .int .i64 0)]) (by have G := HGc.out; (repeat (with_reducible refine M.Below.drewN ?_ _)); go_grown) (by intro u hu; rw [M.cell_block1 hu]; dsimp only; omega)) (hb.mono (by go_size))
          have VV33 : M.Var w33 (w.heap.size) #[.int .i64 a1, .int .i64 a2] ∧ M.Var w33 (w.heap.size + 1) #[.int .i64 b1, .int .i64 b2] ∧ M.Var w33 (w.heap.size + 1 + 1) #[.int .i64 k] ∧ M.Var w33 (w.heap.size + 1 + 1 + 1) #[.int .i64 n] ∧ M.Var w33 (B) #[.int .i64 7] ∧ M.Var w33 (wc.heap.size + 1) #[.int .i64 0, .int .i64 0] ∧ M.Var w33 (wc.heap.size + 1 + 1) #[.int .i64 x1, .int .i64 x2] ∧ M.Var w33 (wc.heap.size + 1 + 1 + 1) #[.int .i64 0] := by refine ⟨?_, ?_, ?_, ?_, ?_, ?_, ?_, ?_⟩ <;> exact M.Var.mono' (u := M.sets _ ([(⟨wc.heap.size, 0, none⟩, .int .i64 0)])) (by (try simp only [M.sets_append]); exact (M.var_sets_far ([(⟨wc.heap.size, 0, none⟩, .int .i64 0)]) (by (repeat (first | (with_reducible assumption) | (with_reducible apply M.var_set45) | (with_reducible refine M.var_alloc' _ _ _ ?_; first | rfl | (simp [go_sem]; done)) | (with_reducible refine M.Var.alloc ?_ _) | (with_reducible refine M.Var.drewN ?_ _) | (with_reducible refine M.Var.drew ?_) | (with_reducible refine M.Var.far ?_ _ _ ?hFar; case hFar => (first | omega | ((try simp [go_sem]) <;> omega))) | fail))) (by intro u hu; all_goals (first | rw [M.usBx_block hu] | rw [M.usV_block hu] | rw [M.usI_block hu] | rw [M.usHt_block hu] | rw [M.usBd_block hu] | rw [M.usB_block hu] | rw [M.cell_block1 hu] | (exfalso; simp at hu; done)); all_goals ((try simp [go_sem]) <;> omega)))) (M.sets_size _ _) hb
          obtain ⟨V33_a, V33_b, V33_k, V33_n, V33_o, V33_w, V33_v, V33_y⟩ := VV33
          have V33_c : M.Var w33 (wc.heap.size) #[.int .i64 0] := M.Var.mono' (u := M.sets _ ([(⟨wc.heap.size, 0, none⟩, .int .i64 0)])) (by (try simp only [M.sets_append]); exact (M.var_setI (by (repeat (first | (with_reducible assumption) | (with_reducible apply M.var_set45) | (with_reducible refine M.var_alloc' _ _ _ ?_; first | rfl | (simp [go_sem]; done)) | (with_reducible refine M.Var.alloc ?_ _) | (with_reducible refine M.Var.drewN ?_ _) | (with_reducible refine M.Var.drew ?_) | (with_reducible refine M.Var.far ?_ _ _ ?hFar; case hFar => (first | omega | ((try simp [go_sem]) <;> omega))) | fail)) : M.Var _ (wc.heap.size) #[.int .i64 0]) _)) (M.sets_size _ _) hb
          have q33_a_0 : w33.cell? ⟨w.heap.size, 0, none⟩ = some (.int .i64 a1) := V33_a.c 0 _ rfl
          have q33_a_1 : w33.cell? ⟨w.heap.size, 1, none⟩ = some (.int .i64 a2) := V33_a.c 1 _ rfl
          have f33_a := V33_a.2.2; have L33_a := V33_a.lt; have N33_a := Nat.ne_of_gt L33_a; have M33_a := Nat.ne_of_lt L33_a
          have HV33_a := Lib.hid V33_a
          have q33_b_0 : w33.cell? ⟨w.heap.size + 1, 0, none⟩ = some (.int .i64 b1) := V33_b.c 0 _ rfl
          have q33_b_1 : w33.cell? ⟨w.heap.size + 1, 1, none⟩ = some (.int .i64 b2) := V33_b.c 1 _ rfl
          have f33_b := V33_b.2.2; have L33_b := V33_b.lt; have N33_b := Nat.ne_of_gt L33_b; have M33_b := Nat.ne_of_lt L33_b
          have HV33_b := Lib.hid V33_b
          have q33_k_0 : w33.cell? ⟨w.heap.size + 1 + 1, 0, none⟩ = some (.int .i64 k) := V33_k.c 0 _ rfl
          have f33_k := V33_k.2.2; have L33_k := V33_k.lt; have N33_k := Nat.ne_of_gt L33_k; have M33_k := Nat.ne_of_lt L33_k
          have HV33_k := Lib.hid V33_k
          have q33_n_0 : w33.cell? ⟨w.heap.size + 1 + 1 + 1, 0, none⟩ = some (.int .i64 n) := V33_n.c 0 _ rfl
          have f33_n := V33_n.2.2; have L33_n := V33_n.lt; have N33_n := Nat.ne_of_gt L33_n; have M33_n := Nat.ne_of_lt L33_n
          have HV33_n := Lib.hid V33_n
          have q33_o_0 : w33.cell? ⟨B, 0, none⟩ = some (.int .i64 7) := V33_o.c 0 _ rfl
          have f33_o := V33_o.2.2; have L33_o := V33_o.lt; have N33_o := Nat.ne_of_gt L33_o; have M33_o := Nat.ne_of_lt L33_o
          have HV33_o := Lib.hid V33_o
          have q33_c_0 : w33.cell? ⟨wc.heap.size, 0, none⟩ = some (.int .i64 0) := V33_c.c 0 _ rfl
          have f33_c := V33_c.2.2; have L33_c := V33_c.lt; have N33_c := Nat.ne_of_gt L33_c; have M33_c := Nat.ne_of_lt L33_c
          have HV33_c := Lib.hid V33_c
          have q33_w_0 : w33.cell? ⟨wc.heap.size + 1, 0, none⟩ = some (.int .i64 0) := V33_w.c 0 _ rfl
          have q33_w_1 : w33.cell? ⟨wc.heap.size + 1, 1, none⟩ = some (.int .i64 0) := V33_w.c 1 _ rfl
          have f33_w := V33_w.2.2; have L33_w := V33_w.lt; have N33_w := Nat.ne_of_gt L33_w; have M33_w := Nat.ne_of_lt L33_w
          have HV33_w := Lib.hid V33_w
          have q33_v_0 : w33.cell? ⟨wc.heap.size + 1 + 1, 0, none⟩ = some (.int .i64 x1) := V33_v.c 0 _ rfl
          have q33_v_1 : w33.cell? ⟨wc.heap.size + 1 + 1, 1, none⟩ = some (.int .i64 x2) := V33_v.c 1 _ rfl
          have f33_v := V33_v.2.2; have L33_v := V33_v.lt; have N33_v := Nat.ne_of_gt L33_v; have M33_v := Nat.ne_of_lt L33_v
          have HV33_v := Lib.hid V33_v
          have q33_y_0 : w33.cell? ⟨wc.heap.size + 1 + 1 + 1, 0, none⟩ = some (.int .i64 0) := V33_y.c 0 _ rfl
          have f33_y := V33_y.2.2; have L33_y := V33_y.lt; have N33_y := Nat.ne_of_gt L33_y; have M33_y := Nat.ne_of_lt L33_y
          have HV33_y := Lib.hid V33_y
          have S33 := G33.size; clear hb
          go_wp2_with fail
          go_roundg gf
          case measure => omega
          case rel => refine ⟨w33.heap.size, 8, by omega, by omega, rfl, by omega, ?_, ?_, ?_, ?_, ?_, by have G := G33; (repeat (with_reducible refine M.Below.drewN ?_ _)); go_grown⟩ <;> ((repeat (first | (with_reducible assumption) | (with_reducible apply M.var_setV) | (with_reducible apply M.var_setI) | (with_reducible apply M.var_setB) | (with_reducible apply M.var_setHt) | (with_reducible apply M.var_setBd) | (with_reducible apply M.var_set2) | (with_reducible apply M.var_set3) | (with_reducible apply M.var_set4) | (with_reducible apply M.var_set45) | (with_reducible apply M.var_set67) | (with_reducible apply M.var_setF) | (with_reducible refine M.var_alloc' _ _ _ ?_; first | rfl | (focus (simp [go_sem]; done))) | (with_reducible refine M.Var.alloc ?_ _) | (with_reducible refine M.Var.drewN ?_ _) | (with_reducible refine M.Var.drew ?_) | (with_reducible refine M.Var.far ?_ _ _ ?hFar; case hFar => (first | omega | ((try simp [go_sem]) <;> omega))) | fail)))

theorem lifted (os : Os) (started : os.Started) (H : Type) (enc : TypeId × Value → H) :
    ReturnsInHanded {} Try.checked os 28 .any (Rows.vecTellsSpec.pre6 enc Try.prog Try.f28 Rows.vecTellsRow.domain false) (Rows.vecTellsSpec.post enc Try.prog Try.f28 false true false false) := by
  refine returnsInHanded_of_change (C := Try.checked) own started (by kernel_rfl) Try.func28
    (ChangeSpec.witness6 (enc := enc) (C := Try.checked) false ⟨#[], #[.agg #[.int .i64 0, .int .i64 0], .agg #[.int .i64 0, .int .i64 0], .int .i64 0, .int .i64 0], []⟩ 8 (by kernel_rfl) (by kernel_rfl) (by kernel_rfl) (by kernel_rfl)) ?_
  intro W base args ds gs before hval0 hW hcnd _
  have hval : ∀ (j : Nat) t v, Try.f28.params[j]? = some t → args[j]? = some v → Value.okWide Try.prog W .any base t v := hval0
  have hW' := hW
  obtain ⟨p, q, hA0, hV, rfl, hfz, hnd⟩ := hW
  have hA : DataW.TrodAll enc Try.prog W 0 (fun _ => true) true Try.f28.params.toList args.toList ds p := hA0
  rw [Try.params28] at hA hval
  obtain ⟨v0, vs0, d0, ds0, p0, q0, hargs, rfl, rfl, h0, r0⟩ := trodAll_cons hA
  obtain ⟨v1, vs1, d1, ds1, p1, q1, rfl, rfl, rfl, h1, r1⟩ := trodAll_cons r0
  obtain ⟨v2, vs2, d2, ds2, p2, q2, rfl, rfl, rfl, h2, r2⟩ := trodAll_cons r1
  obtain ⟨v3, vs3, d3, ds3, p3, q3, rfl, rfl, rfl, h3, r3⟩ := trodAll_cons r2
  obtain ⟨rfl, rfl, rfl⟩ := trodAll_nil r3
  obtain rfl : args = #[v0, v1, v2, v3] := by cases args; simp_all
  obtain ⟨rfl, rfl⟩ := trodVars_none hV
  obtain ⟨a1, a2, rfl, rfl, rfl, wa1, wa2⟩ := open_vec (hval 0 24 v0 rfl rfl) h0
  obtain ⟨b1, b2, rfl, rfl, rfl, wb1, wb2⟩ := open_vec (hval 1 24 v1 rfl rfl) h1
  obtain ⟨k, rfl, rfl, rfl, wk⟩ := open_int Try.underlying22 (hval 2 22 v2 rfl rfl) h2
  obtain ⟨n, rfl, rfl, rfl, wn⟩ := open_int Try.underlying3 (hval 3 3 v3 rfl rfl) h3
  clear hA0 hval0
  simp only [List.append_nil] at hW'
  refine (walk W a1 a2 (i64_wf wa1) (i64_wf wa2) b1 b2 (i64_wf wb1) (i64_wf wb2) k (i64_wf wk) n (i64_wf wn)).mono fun e W' ⟨he, hg⟩ => ?_
  subst he
  exact ⟨_, rfl, post_below (pa := []) (pv := []) hW' (fun _ _ _ => (trodAll_cons_mk (shut_bool Try.underlying4 _) trodAll_mk0)) (fun sp hsp => (trodAll_cons_mk (shut_vec wa1 wa2) (trodAll_cons_mk (shut_vec wb1 wb2) (trodAll_cons_mk (shut_int Try.underlying22 wk) (trodAll_cons_mk (shut_int Try.underlying3 wn) trodAll_mk0))))) (fun _ _ => rfl) rfl
    hg (ok_one (by kernel_rfl) rfl (okWide_bool_mk Try.underlying4 _))⟩

theorem closed : joinedFacts Try.prog 28 Try.f28 Rows.vecTellsSpec Rows.vecTellsRow = true := by
  unfold joinedFacts
  rw [fact_laid, fact_maps, fact_keys, fact_heard, fact_stops, fact_knobs, fact_enter, fact_lifts, fact_make]
  kernel_rfl

theorem over : Rows.vecTellsRow.holds Try.pinned (OpenSpec.ofChange Rows.vecTellsSpec) :=
  OpenClaim.holds_of_wide 28 Try.f28 rfl rfl rfl rfl rfl rfl rfl ⟨rfl, rfl, rfl, rfl, rfl⟩ rfl rfl rfl rfl rfl (by kernel_rfl) Try.func28 closed
    (of_decide_eq_true (by kernel_rfl)) (by unfold Func.isWrapper; first | (rw [if_pos (by decide +kernel)]; kernel_rfl) | (rw [if_neg (by decide +kernel)]; exact ⟨rfl, rfl⟩))
    (fun os started H enc _ => lifted os started H enc)

/-- The statement. -/
theorem proved : Rows.VecTellsSaid :=
  over
#print axioms proved
end Go.Proofs.Ytaagpkacningdaa.vecTells
