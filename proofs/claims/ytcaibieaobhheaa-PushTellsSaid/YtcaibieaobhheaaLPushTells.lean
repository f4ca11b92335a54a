/- For every two bodies, contact, length and push PushTells returns true: what becomes of them, or the panic's error, is the reference's. -/
import Derived.Test.YtcaibieaobhheaaRows
import Derived.WalkKit
import Derived.ProofKit
import Derived.OpenShut
import Derived.Test.YtcaibieaobhheaaFacts
import Derived.Test.YtcaibieaobhheaaArgs
import Derived.Test.YtcaibieaobhheaaClo11b
import Derived.Test.YtcaibieaobhheaaRefPush2
import Derived.Test.YtcaibieaobhheaaRefPush3
import Derived.Test.YtcaibieaobhheaaPushAlive
import Derived.Deep.RegionHeld2
import Derived.Deep.DrawnRows
namespace Go.Proofs.Ytcaibieaobhheaa.pushTells
open Go.ChangeShapes Go.WideShapes Go.ChangeAt Go.RowKit M
set_option maxRecDepth 100000
set_option maxHeartbeats 8000000
set_option linter.unusedVariables false
set_option linter.unusedSimpArgs false
attribute [local go_sem ↓] Go.wp_at_zero Go.wp_at_succ
theorem own : ownKnob Try.prog.godebug = none := by kernel_rfl

/-- The walk: the Go text returns true; of what was there nothing turns. -/
theorem walk (w : World) (a : Bd) (ha : a.ok) (b : Bd) (hb : b.ok) (h : Ht) (hh : h.ok) (l : Int) (hl : I64 l) (j1 j2 : Int) (hj1 : I64 j1) (hj2 : I64 j2) :
    Calls Try.prog 8 #[.agg #[.int .i64 a.shape, .int .i64 a.sx, .int .i64 a.sy, .int .i64 a.mass, .int .i64 a.px, .int .i64 a.py, .int .i64 a.mx, .int .i64 a.my], .agg #[.int .i64 b.shape, .int .i64 b.sx, .int .i64 b.sy, .int .i64 b.mass, .int .i64 b.px, .int .i64 b.py, .int .i64 b.mx, .int .i64 b.my], .agg #[.int .i64 h.nx, .int .i64 h.ny, .int .i64 h.d], .int .i64 l, .agg #[.int .i64 j1, .int .i64 j2]] w fun e w' => e = .returned (.bool true) ∧ Bw w w' := by
  have c0 := Lib.hid alive11_c
  have hB := hb
  go_enter Try.func8, Try.ntmps8
  go_wp2_with fail
  (with_reducible refine (c0.out _).mono ?_); rintro en w1 ⟨rfl, hb⟩
  have G1 : Below w.heap.size w w1 := Below.trans (by (repeat (with_reducible refine M.Below.drewN ?_ _)); go_grown) (hb.mono (by go_size))
  have V1_a : M.Var w1 (w.heap.size) #[.int .i64 a.shape, .int .i64 a.sx, .int .i64 a.sy, .int .i64 a.mass, .int .i64 a.px, .int .i64 a.py, .int .i64 a.mx, .int .i64 a.my] := M.Var.mono (by (repeat (first | (with_reducible assumption) | (with_reducible apply M.var_set45) | (with_reducible refine M.var_alloc' _ _ _ ?_; first | rfl | (simp [go_sem]; done)) | (with_reducible refine M.Var.alloc ?_ _) | (with_reducible refine M.Var.drewN ?_ _) | (with_reducible refine M.Var.drew ?_) | (with_reducible refine M.Var.far ?_ _ _ ?hFar; case hFar => (first | omega | ((try simp [go_sem]) <;> omega))) | fail))) hb
  have V1_b : M.Var w1 (w.heap.size + 1) #[.int .i64 b.shape, .int .i64 b.sx, .int .i64 b.sy, .int .i64 b.mass, .int .i64 b.px, .int .i64 b.py, .int .i64 b.mx, .int .i64 b.my] := M.Var.mono (by (repeat (first | (with_reducible assumption) | (with_reducible apply M.var_set45) | (with_reducible refine M.var_alloc' _ _ _ ?_; first | rfl | (simp [go_sem]; done)) | (with_reducible refine M.Var.alloc ?_ _) | (with_reducible refine M.Var.drewN ?_ _) | (with_reducible refine M.Var.drew ?_) | (with_reducible refine M.Var.far ?_ _ _ ?hFar; case hFar => (first | omega | ((try simp [go_sem]) <;> omega))) | fail))) hb
  have V1_h : M.Var w1 (w.heap.size + 1 + 1) #[.int .i64 h.nx, .int .i64 h.ny, .int .i64 h.d] := M.Var.mono (by (repeat (first | (with_reducible assumption) | (with_reducible apply M.var_set45) | (with_reducible refine M.var_alloc' _ _ _ ?_; first | rfl | (simp [go_sem]; done)) | (with_reducible refine M.Var.alloc ?_ _) | (with_reducible refine M.Var.drewN ?_ _) | (with_reducible refine M.Var.drew ?_) | (with_reducible refine M.Var.far ?_ _ _ ?hFar; case hFar => (first | omega | ((try simp [go_sem]) <;> omega))) | fail))) hb
  have V1_l : M.Var w1 (w.heap.size + 1 + 1 + 1) #[.int .i64 l] := M.Var.mono (by (repeat (first | (with_reducible assumption) | (with_reducible apply M.var_set45) | (with_reducible refine M.var_alloc' _ _ _ ?_; first | rfl | (simp [go_sem]; done)) | (with_reducible refine M.Var.alloc ?_ _) | (with_reducible refine M.Var.drewN ?_ _) | (with_reducible refine M.Var.drew ?_) | (with_reducible refine M.Var.far ?_ _ _ ?hFar; case hFar => (first | omega | ((try simp [go_sem]) <;> omega))) | fail))) hb
  have V1_j : M.Var w1 (w.heap.size + 1 + 1 + 1 + 1) #[.int .i64 j1, .int .i64 j2] := M.Var.mono (by (repeat (first | (with_reducible assumption) | (with_reducible apply M.var_set45) | (with_reducible refine M.var_alloc' _ _ _ ?_; first | rfl | (simp [go_sem]; done)) | (with_reducible refine M.Var.alloc ?_ _) | (with_reducible refine M.Var.drewN ?_ _) | (with_reducible refine M.Var.drew ?_) | (with_reducible refine M.Var.far ?_ _ _ ?hFar; case hFar => (first | omega | ((try simp [go_sem]) <;> omega))) | fail))) hb
  have q1_a_0 : w1.cell? ⟨w.heap.size, 0, none⟩ = some (.int .i64 a.shape) := V1_a.c 0 _ rfl
  have q1_a_1 : w1.cell? ⟨w.heap.size, 1, none⟩ = some (.int .i64 a.sx) := V1_a.c 1 _ rfl
  have q1_a_2 : w1.cell? ⟨w.heap.size, 2, none⟩ = some (.int .i64 a.sy) := V1_a.c 2 _ rfl
  have q1_a_3 : w1.cell? ⟨w.heap.size, 3, none⟩ = some (.int .i64 a.mass) := V1_a.c 3 _ rfl
  have q1_a_4 : w1.cell? ⟨w.heap.size, 4, none⟩ = some (.int .i64 a.px) := V1_a.c 4 _ rfl
  have q1_a_5 : w1.cell? ⟨w.heap.size, 5, none⟩ = some (.int .i64 a.py) := V1_a.c 5 _ rfl
  have q1_a_6 : w1.cell? ⟨w.heap.size, 6, none⟩ = some (.int .i64 a.mx) := V1_a.c 6 _ rfl
  have q1_a_7 : w1.cell? ⟨w.heap.size, 7, none⟩ = some (.int .i64 a.my) := V1_a.c 7 _ rfl
  have f1_a := V1_a.2.2; have L1_a := V1_a.lt; have N1_a := Nat.ne_of_gt L1_a; have M1_a := Nat.ne_of_lt L1_a
  have HV1_a := Lib.hid V1_a
  have q1_b_0 : w1.cell? ⟨w.heap.size + 1, 0, none⟩ = some (.int .i64 b.shape) := V1_b.c 0 _ rfl
  have q1_b_1 : w1.cell? ⟨w.heap.size + 1, 1, none⟩ = some (.int .i64 b.sx) := V1_b.c 1 _ rfl
  have q1_b_2 : w1.cell? ⟨w.heap.size + 1, 2, none⟩ = some (.int .i64 b.sy) := V1_b.c 2 _ rfl
  have q1_b_3 : w1.cell? ⟨w.heap.size + 1, 3, none⟩ = some (.int .i64 b.mass) := V1_b.c 3 _ rfl
  have q1_b_4 : w1.cell? ⟨w.heap.size + 1, 4, none⟩ = some (.int .i64 b.px) := V1_b.c 4 _ rfl
  have q1_b_5 : w1.cell? ⟨w.heap.size + 1, 5, none⟩ = some (.int .i64 b.py) := V1_b.c 5 _ rfl
  have q1_b_6 : w1.cell? ⟨w.heap.size + 1, 6, none⟩ = some (.int .i64 b.mx) := V1_b.c 6 _ rfl
  have q1_b_7 : w1.cell? ⟨w.heap.size + 1, 7, none⟩ = some (.int .i64 b.my) := V1_b.c 7 _ rfl
  have f1_b := V1_b.2.2; have L1_b := V1_b.lt; have N1_b := Nat.ne_of_gt L1_b; have M1_b := Nat.ne_of_lt L1_b
  have HV1_b := Lib.hid V1_b
  have q1_h_0 : w1.cell? ⟨w.heap.size + 1 + 1, 0, none⟩ = some (.int .i64 h.nx) := V1_h.c 0 _ rfl
  have q1_h_1 : w1.cell? ⟨w.heap.size + 1 + 1, 1, none⟩ = some (.int .i64 h.ny) := V1_h.c 1 _ rfl
  have q1_h_2 : w1.cell? ⟨w.heap.size + 1 + 1, 2, none⟩ = some (.int .i64 h.d) := V1_h.c 2 _ rfl
  have f1_h := V1_h.2.2; have L1_h := V1_h.lt; have N1_h := Nat.ne_of_gt L1_h; have M1_h := Nat.ne_of_lt L1_h
  have HV1_h := Lib.hid V1_h
  have q1_l_0 : w1.cell? ⟨w.heap.size + 1 + 1 + 1, 0, none⟩ = some (.int .i64 l) := V1_l.c 0 _ rfl
  have f1_l := V1_l.2.2; have L1_l := V1_l.lt; have N1_l := Nat.ne_of_gt L1_l; have M1_l := Nat.ne_of_lt L1_l
  have HV1_l := Lib.hid V1_l
  have q1_j_0 : w1.cell? ⟨w.heap.size + 1 + 1 + 1 + 1, 0, none⟩ = some (.int .i64 j1) := V1_j.c 0 _ rfl
  have q1_j_1 : w1.cell? ⟨w.heap.size + 1 + 1 + 1 + 1, 1, none⟩ = some (.int .i64 j2) := V1_j.c 1 _ rfl
  have f1_j := V1_j.2.2; have L1_j := V1_j.lt; have N1_j := Nat.ne_of_gt L1_j; have M1_j := Nat.ne_of_lt L1_j
  have HV1_j := Lib.hid V1_j
  have S1 := G1.size; clear hb
  go_wp2_with fail
  go_loopg [11] 3 (fun gf s11 wx => ∃ (B : Nat) (op : Int), op + (gf : Int) = 3 ∧ 0 ≤ op ∧ s11 = .pointer (some ⟨B, 0, none⟩) ∧ w.heap.size + 1 + 1 + 1 + 1 < B ∧ M.Var wx B #[.int .i64 op] ∧ M.Var wx (w.heap.size) #[.int .i64 a.shape, .int .i64 a.sx, .int .i64 a.sy, .int .i64 a.mass, .int .i64 a.px, .int .i64 a.py, .int .i64 a.mx, .int .i64 a.my] ∧ M.Var wx (w.heap.size + 1) #[.int .i64 b.shape, .int .i64 b.sx, .int .i64 b.sy, .int .i64 b.mass, .int .i64 b.px, .int .i64 b.py, .int .i64 b.mx, .int .i64 b.my] ∧ M.Var wx (w.heap.size + 1 + 1) #[.int .i64 h.nx, .int .i64 h.ny, .int .i64 h.d] ∧ M.Var wx (w.heap.size + 1 + 1 + 1) #[.int .i64 l] ∧ M.Var wx (w.heap.size + 1 + 1 + 1 + 1) #[.int .i64 j1, .int .i64 j2] ∧ Bw w wx)
  case atStart => exact ⟨w1.heap.size, 0, by omega, by omega, rfl, by omega, by (repeat (first | (with_reducible assumption) | (with_reducible apply M.var_setBd) | (with_reducible apply M.var_setI) | (with_reducible refine M.var_alloc' _ _ _ ?_; first | rfl | (focus (simp [go_sem]; done))) | (with_reducible refine M.Var.alloc ?_ _) | (with_reducible refine M.Var.drewN ?_ _) | (with_reducible refine M.Var.drew ?_) | (with_reducible refine M.Var.far ?_ _ _ ?hFar; case hFar => (first | omega | ((try simp [go_sem]) <;> omega))) | fail)), by (repeat (first | (with_reducible assumption) | (with_reducible apply M.var_setBd) | (with_reducible apply M.var_setI) | (with_reducible refine M.var_alloc' _ _ _ ?_; first | rfl | (focus (simp [go_sem]; done))) | (with_reducible refine M.Var.alloc ?_ _) | (with_reducible refine M.Var.drewN ?_ _) | (with_reducible refine M.Var.drew ?_) | (with_reducible refine M.Var.far ?_ _ _ ?hFar; case hFar => (first | omega | ((try simp [go_sem]) <;> omega))) | fail)), by (repeat (first | (with_reducible assumption) | (with_reducible apply M.var_setBd) | (with_reducible apply M.var_setI) | (with_reducible refine M.var_alloc' _ _ _ ?_; first | rfl | (focus (simp [go_sem]; done))) | (with_reducible refine M.Var.alloc ?_ _) | (with_reducible refine M.Var.drewN ?_ _) | (with_reducible refine M.Var.drew ?_) | (with_reducible refine M.Var.far ?_ _ _ ?hFar; case hFar => (first | omega | ((try simp [go_sem]) <;> omega))) | fail)), by (repeat (first | (with_reducible assumption) | (with_reducible apply M.var_setBd) | (with_reducible apply M.var_setI) | (with_reducible refine M.var_alloc' _ _ _ ?_; first | rfl | (focus (simp [go_sem]; done))) | (with_reducible refine M.Var.alloc ?_ _) | (with_reducible refine M.Var.drewN ?_ _) | (with_reducible refine M.Var.drew ?_) | (with_reducible refine M.Var.far ?_ _ _ ?hFar; case hFar => (first | omega | ((try simp [go_sem]) <;> omega))) | fail)), by (repeat (first | (with_reducible assumption) | (with_reducible apply M.var_setBd) | (with_reducible apply M.var_setI) | (with_reducible refine M.var_alloc' _ _ _ ?_; first | rfl | (focus (simp [go_sem]; done))) | (with_reducible refine M.Var.alloc ?_ _) | (with_reducible refine M.Var.drewN ?_ _) | (with_reducible refine M.Var.drew ?_) | (with_reducible refine M.Var.far ?_ _ _ ?hFar; case hFar => (first | omega | ((try simp [go_sem]) <;> omega))) | fail)), by (repeat (first | (with_reducible assumption) | (with_reducible apply M.var_setBd) | (with_reducible apply M.var_setI) | (with_reducible refine M.var_alloc' _ _ _ ?_; first | rfl | (focus (simp [go_sem]; done))) | (with_reducible refine M.Var.alloc ?_ _) | (with_reducible refine M.Var.drewN ?_ _) | (with_reducible refine M.Var.drew ?_) | (with_reducible refine M.Var.far ?_ _ _ ?hFar; case hFar => (first | omega | ((try simp [go_sem]) <;> omega))) | fail)), by have G := G1; (repeat (with_reducible refine M.Below.drewN ?_ _)); go_grown⟩
  case round =>
    obtain ⟨B, op, hop, hop0, rfl, hBB, Vc_o, Vc_a, Vc_b, Vc_h, Vc_l, Vc_j, hbr⟩ := hrel
    clear G1 S1 V1_a V1_b V1_h V1_l V1_j
    obtain ⟨wc, rfl⟩ : ∃ wc, wc = wr := ⟨_, rfl⟩
    have HGc := Lib.hid hbr
    have Sc := hbr.size
    clear hbr
    cases gk with
    | zero =>
      obtain rfl : op = 3 := by omega
      have qc_o_0 : wc.cell? ⟨B, 0, none⟩ = some (.int .i64 3) := Vc_o.c 0 _ rfl
      have fc_o := Vc_o.2.2; have Lc_o := Vc_o.lt; have Nc_o := Nat.ne_of_gt Lc_o; have Mc_o := Nat.ne_of_lt Lc_o
      go_wp2_with fail
      go_ret
      exact ⟨rfl, HGc.out⟩
    | succ gf =>
      have ho : op = 0 ∨ op = 1 ∨ op = 2 := by omega
      clear hop0
      rcases ho with rfl | rfl | rfl
      · rcases hP : applyX a b (j1, j2) with i | ⟨x1, x2⟩
        · skip
          have z1 := bne_iff_ne.2 (nz_apply _ _ _ i hP); have z1b := beq_eq_false_iff_ne.2 (nz_apply _ _ _ i hP)
          have K1 := Lib.hid (fun pb w hp => (refApply_x pb 0 a b j1 j2 ha hB hj1 hj2 w hp).mono fun en w' h => M.relBB_err hP h)
          replace hP := Lib.hid hP
          have qc_o_0 : wc.cell? ⟨B, 0, none⟩ = some (.int .i64 0) := Vc_o.c 0 _ rfl
          have fc_o := Vc_o.2.2; have Lc_o := Vc_o.lt; have Nc_o := Nat.ne_of_gt Lc_o; have Mc_o := Nat.ne_of_lt Lc_o
          have qc_a_0 : wc.cell? ⟨w.heap.size, 0, none⟩ = some (.int .i64 a.shape) := Vc_a.c 0 _ rfl
          have qc_a_1 : wc.cell? ⟨w.heap.size, 1, none⟩ = some (.int .i64 a.sx) := Vc_a.c 1 _ rfl
          have qc_a_2 : wc.cell? ⟨w.heap.size, 2, none⟩ = some (.int .i64 a.sy) := Vc_a.c 2 _ rfl
          have qc_a_3 : wc.cell? ⟨w.heap.size, 3, none⟩ = some (.int .i64 a.mass) := Vc_a.c 3 _ rfl
          have qc_a_4 : wc.cell? ⟨w.heap.size, 4, none⟩ = some (.int .i64 a.px) := Vc_a.c 4 _ rfl
          have qc_a_5 : wc.cell? ⟨w.heap.size, 5, none⟩ = some (.int .i64 a.py) := Vc_a.c 5 _ rfl
          have qc_a_6 : wc.cell? ⟨w.heap.size, 6, none⟩ = some (.int .i64 a.mx) := Vc_a.c 6 _ rfl
          have qc_a_7 : wc.cell? ⟨w.heap.size, 7, none⟩ = some (.int .i64 a.my) := Vc_a.c 7 _ rfl
          have fc_a := Vc_a.2.2; have Lc_a := Vc_a.lt; have Nc_a := Nat.ne_of_gt Lc_a; have Mc_a := Nat.ne_of_lt Lc_a
          have qc_b_0 : wc.cell? ⟨w.heap.size + 1, 0, none⟩ = some (.int .i64 b.shape) := Vc_b.c 0 _ rfl
          have qc_b_1 : wc.cell? ⟨w.heap.size + 1, 1, none⟩ = some (.int .i64 b.sx) := Vc_b.c 1 _ rfl
          have qc_b_2 : wc.cell? ⟨w.heap.size + 1, 2, none⟩ = some (.int .i64 b.sy) := Vc_b.c 2 _ rfl
          have qc_b_3 : wc.cell? ⟨w.heap.size + 1, 3, none⟩ = some (.int .i64 b.mass) := Vc_b.c 3 _ rfl
          have qc_b_4 : wc.cell? ⟨w.heap.size + 1, 4, none⟩ = some (.int .i64 b.px) := Vc_b.c 4 _ rfl
          have qc_b_5 : wc.cell? ⟨w.heap.size + 1, 5, none⟩ = some (.int .i64 b.py) := Vc_b.c 5 _ rfl
          have qc_b_6 : wc.cell? ⟨w.heap.size + 1, 6, none⟩ = some (.int .i64 b.mx) := Vc_b.c 6 _ rfl
          have qc_b_7 : wc.cell? ⟨w.heap.size + 1, 7, none⟩ = some (.int .i64 b.my) := Vc_b.c 7 _ rfl
          have fc_b := Vc_b.2.2; have Lc_b := Vc_b.lt; have Nc_b := Nat.ne_of_gt Lc_b; have Mc_b := Nat.ne_of_lt Lc_b
          have qc_h_0 : wc.cell? ⟨w.heap.size + 1 + 1, 0, none⟩ = some (.int .i64 h.nx) := Vc_h.c 0 _ rfl
          have qc_h_1 : wc.cell? ⟨w.heap.size + 1 + 1, 1, none⟩ = some (.int .i64 h.ny) := Vc_h.c 1 _ rfl
          have qc_h_2 : wc.cell? ⟨w.heap.size + 1 + 1, 2, none⟩ = some (.int .i64 h.d) := Vc_h.c 2 _ rfl
          have fc_h := Vc_h.2.2; have Lc_h := Vc_h.lt; have Nc_h := Nat.ne_of_gt Lc_h; have Mc_h := Nat.ne_of_lt Lc_h
          have qc_l_0 : wc.cell? ⟨w.heap.size + 1 + 1 + 1, 0, none⟩ = some (.int .i64 l) := Vc_l.c 0 _ rfl
          have fc_l := Vc_l.2.2; have Lc_l := Vc_l.lt; have Nc_l := Nat.ne_of_gt Lc_l; have Mc_l := Nat.ne_of_lt Lc_l
          have qc_j_0 : wc.cell? ⟨w.heap.size + 1 + 1 + 1 + 1, 0, none⟩ = some (.int .i64 j1) := Vc_j.c 0 _ rfl
          have qc_j_1 : wc.cell? ⟨w.heap.size + 1 + 1 + 1 + 1, 1, none⟩ = some (.int .i64 j2) := Vc_j.c 1 _ rfl
          have fc_j := Vc_j.2.2; have Lc_j := Vc_j.lt; have Nc_j := Nat.ne_of_gt Lc_j; have Mc_j := Nat.ne_of_lt Lc_j
          go_wp2_with fail
          refine (try_c 30 #[.pointer (some ⟨B, 0, none⟩), .pointer (some ⟨w.heap.size, 0, none⟩), .pointer (some ⟨w.heap.size + 1, 0, none⟩), .pointer (some ⟨w.heap.size + 1 + 1 + 1 + 1, 0, none⟩), .pointer (some ⟨wc.heap.size + 1, 0, none⟩), .pointer (some ⟨wc.heap.size + 1 + 1, 0, none⟩), .pointer (some ⟨w.heap.size + 1 + 1, 0, none⟩), .pointer (some ⟨w.heap.size + 1 + 1 + 1, 0, none⟩)] _ (i) ([]) (fun _ => rfl) ?_ ?_).mono ?_
          · intro u hu; (try simp only [List.mem_append] at hu); (repeat' (obtain hu | hu := (hu : _ ∨ _))); all_goals (first | with_reducible rw [M.cell_block1 hu] | with_reducible rw [M.usBx_block hu] | with_reducible rw [M.usV_block hu] | with_reducible rw [M.usI_block hu] | with_reducible rw [M.usHt_block hu] | with_reducible rw [M.usBd_block hu] | with_reducible rw [M.usB_block hu] | rw [M.cell_block1 hu] | (exfalso; simp at hu; done)); all_goals ((try simp [go_sem]) <;> omega)
          · intro w1' hb; exact (cloT0 _ _ _ _ _ _ _ _ a ha b hB j1 j2 hj1 hj2 _ _ _ _ _ _ _ _ _ _ _ _ _ _ _ _ (.error i) hP.out w1' (M.Var.mono (b := B) (cs := #[.int .i64 0]) (by (repeat (first | (with_reducible assumption) | (with_reducible apply M.var_set45) | (with_reducible refine M.var_alloc' _ _ _ ?_; first | rfl | (simp [go_sem]; done)) | (with_reducible refine M.Var.alloc ?_ _) | (with_reducible refine M.Var.drewN ?_ _) | (with_reducible refine M.Var.drew ?_) | (with_reducible refine M.Var.far ?_ _ _ ?hFar; case hFar => (first | omega | ((try simp [go_sem]) <;> omega))) | fail))) hb) (M.Var.mono (b := w.heap.size) (cs := #[.int .i64 a.shape, .int .i64 a.sx, .int .i64 a.sy, .int .i64 a.mass, .int .i64 a.px, .int .i64 a.py, .int .i64 a.mx, .int .i64 a.my]) (by (repeat (first | (with_reducible assumption) | (with_reducible apply M.var_set45) | (with_reducible refine M.var_alloc' _ _ _ ?_; first | rfl | (simp [go_sem]; done)) | (with_reducible refine M.Var.alloc ?_ _) | (with_reducible refine M.Var.drewN ?_ _) | (with_reducible refine M.Var.drew ?_) | (with_reducible refine M.Var.far ?_ _ _ ?hFar; case hFar => (first | omega | ((try simp [go_sem]) <;> omega))) | fail))) hb) (M.Var.mono (b := w.heap.size + 1) (cs := #[.int .i64 b.shape, .int .i64 b.sx, .int .i64 b.sy, .int .i64 b.mass, .int .i64 b.px, .int .i64 b.py, .int .i64 b.mx, .int .i64 b.my]) (by (repeat (first | (with_reducible assumption) | (with_reducible apply M.var_set45) | (with_reducible refine M.var_alloc' _ _ _ ?_; first | rfl | (simp [go_sem]; done)) | (with_reducible refine M.Var.alloc ?_ _) | (with_reducible refine M.Var.drewN ?_ _) | (with_reducible refine M.Var.drew ?_) | (with_reducible refine M.Var.far ?_ _ _ ?hFar; case hFar => (first | omega | ((try simp [go_sem]) <;> omega))) | fail))) hb) (M.Var.mono (b := w.heap.size + 1 + 1 + 1 + 1) (cs := #[.int .i64 j1, .int .i64 j2]) (by (repeat (first | (with_reducible assumption) | (with_reducible apply M.var_set45) | (with_reducible refine M.var_alloc' _ _ _ ?_; first | rfl | (simp [go_sem]; done)) | (with_reducible refine M.Var.alloc ?_ _) | (with_reducible refine M.Var.drewN ?_ _) | (with_reducible refine M.Var.drew ?_) | (with_reducible refine M.Var.far ?_ _ _ ?hFar; case hFar => (first | omega | ((try simp [go_sem]) <;> omega))) | fail))) hb) (M.Var.mono (b := wc.heap.size + 1) (cs := #[.int .i64 0, .int .i64 0, .int .i64 0, .int .i64 0, .int .i64 0, .int .i64 0, .int .i64 0, .int .i64 0]) (by (repeat (first | (with_reducible assumption) | (with_reducible apply M.var_set45) | (with_reducible refine M.var_alloc' _ _ _ ?_; first | rfl | (simp [go_sem]; done)) | (with_reducible refine M.Var.alloc ?_ _) | (with_reducible refine M.Var.drewN ?_ _) | (with_reducible refine M.Var.drew ?_) | (with_reducible refine M.Var.far ?_ _ _ ?hFar; case hFar => (first | omega | ((try simp [go_sem]) <;> omega))) | fail))) hb) (M.Var.mono (b := wc.heap.size + 1 + 1) (cs := #[.int .i64 0, .int .i64 0, .int .i64 0, .int .i64 0, .int .i64 0, .int .i64 0, .int .i64 0, .int .i64 0]) (by (repeat (first | (with_reducible assumption) | (with_reducible apply M.var_set45) | (with_reducible refine M.var_alloc' _ _ _ ?_; first | rfl | (simp [go_sem]; done)) | (with_reducible refine M.Var.alloc ?_ _) | (with_reducible refine M.Var.drewN ?_ _) | (with_reducible refine M.Var.drew ?_) | (with_reducible refine M.Var.far ?_ _ _ ?hFar; case hFar => (first | omega | ((try simp [go_sem]) <;> omega))) | fail))) hb) (by omega)).mono fun e w' h => h
          rintro en w2 ⟨rfl, hb⟩
          have G2 : Below w.heap.size w w2 := by refine Below.trans ?_ (hb.mono (by go_size)); exact M.below_sets_own _ (by have G := HGc.out; (repeat (with_reducible refine M.Below.drewN ?_ _)); go_grown) (by intro u hu; (try simp only [List.mem_append] at hu); (repeat' (obtain hu | hu := (hu : _ ∨ _))); all_goals (first | with_reducible rw [M.cell_block1 hu] | with_reducible rw [M.usBx_block hu] | with_reducible rw [M.usV_block hu] | with_reducible rw [M.usI_block hu] | with_reducible rw [M.usHt_block hu] | with_reducible rw [M.usBd_block hu] | with_reducible rw [M.usB_block hu] | rw [M.cell_block1 hu] | (exfalso; simp at hu; done)); all_goals ((try simp [go_sem]) <;> omega))
          have VV2 : M.Var w2 (w.heap.size) #[.int .i64 a.shape, .int .i64 a.sx, .int .i64 a.sy, .int .i64 a.mass, .int .i64 a.px, .int .i64 a.py, .int .i64 a.mx, .int .i64 a.my] ∧ M.Var w2 (w.heap.size + 1) #[.int .i64 b.shape, .int .i64 b.sx, .int .i64 b.sy, .int .i64 b.mass, .int .i64 b.px, .int .i64 b.py, .int .i64 b.mx, .int .i64 b.my] ∧ M.Var w2 (w.heap.size + 1 + 1) #[.int .i64 h.nx, .int .i64 h.ny, .int .i64 h.d] ∧ M.Var w2 (w.heap.size + 1 + 1 + 1) #[.int .i64 l] ∧ M.Var w2 (w.heap.size + 1 + 1 + 1 + 1) #[.int .i64 j1, .int .i64 j2] ∧ M.Var w2 (B) #[.int .i64 0] ∧ M.Var w2 (wc.heap.size) #[.int .i64 0] ∧ M.Var w2 (wc.heap.size + 1) #[.int .i64 0, .int .i64 0, .int .i64 0, .int .i64 0, .int .i64 0, .int .i64 0, .int .i64 0, .int .i64 0] ∧ M.Var w2 (wc.heap.size + 1 + 1) #[.int .i64 0, .int .i64 0, .int .i64 0, .int .i64 0, .int .i64 0, .int .i64 0, .int .i64 0, .int .i64 0] ∧ M.Var w2 (wc.heap.size + 1 + 1 + 1) #[.int .i64 0, .int .i64 0, .int .i64 0, .int .i64 0, .int .i64 0, .int .i64 0, .int .i64 0, .int .i64 0] ∧ M.Var w2 (wc.heap.size + 1 + 1 + 1 + 1) #[.int .i64 0, .int .i64 0, .int .i64 0, .int .i64 0, .int .i64 0, .int .i64 0, .int .i64 0, .int .i64 0] := by refine ⟨?_, ?_, ?_, ?_, ?_, ?_, ?_, ?_, ?_, ?_, ?_⟩ <;> (refine M.Var.mono' ?_ (M.sets_size _ _) hb; (try simp only [M.sets_append]); exact (M.var_sets_far _ (by (repeat (first | (with_reducible assumption) | (with_reducible apply M.var_set45) | (with_reducible refine M.var_alloc' _ _ _ ?_; first | rfl | (simp [go_sem]; done)) | (with_reducible refine M.Var.alloc ?_ _) | (with_reducible refine M.Var.drewN ?_ _) | (with_reducible refine M.Var.drew ?_) | (with_reducible refine M.Var.far ?_ _ _ ?hFar; case hFar => (first | omega | ((try simp [go_sem]) <;> omega))) | fail))) (by intro u hu; all_goals (first | with_reducible rw [M.cell_block1 hu] | with_reducible rw [M.usBx_block hu] | with_reducible rw [M.usV_block hu] | with_reducible rw [M.usI_block hu] | with_reducible rw [M.usHt_block hu] | with_reducible rw [M.usBd_block hu] | with_reducible rw [M.usB_block hu] | rw [M.cell_block1 hu] | (exfalso; simp at hu; done)); all_goals ((try simp [go_sem]) <;> omega))))
          obtain ⟨V2_a, V2_b, V2_h, V2_l, V2_j, V2_o, V2_c, V2_x, V2_y, V2_u, V2_v⟩ := VV2
          have q2_a_0 : w2.cell? ⟨w.heap.size, 0, none⟩ = some (.int .i64 a.shape) := V2_a.c 0 _ rfl
          have q2_a_1 : w2.cell? ⟨w.heap.size, 1, none⟩ = some (.int .i64 a.sx) := V2_a.c 1 _ rfl
          have q2_a_2 : w2.cell? ⟨w.heap.size, 2, none⟩ = some (.int .i64 a.sy) := V2_a.c 2 _ rfl
          have q2_a_3 : w2.cell? ⟨w.heap.size, 3, none⟩ = some (.int .i64 a.mass) := V2_a.c 3 _ rfl
          have q2_a_4 : w2.cell? ⟨w.heap.size, 4, none⟩ = some (.int .i64 a.px) := V2_a.c 4 _ rfl
          have q2_a_5 : w2.cell? ⟨w.heap.size, 5, none⟩ = some (.int .i64 a.py) := V2_a.c 5 _ rfl
          have q2_a_6 : w2.cell? ⟨w.heap.size, 6, none⟩ = some (.int .i64 a.mx) := V2_a.c 6 _ rfl
          have q2_a_7 : w2.cell? ⟨w.heap.size, 7, none⟩ = some (.int .i64 a.my) := V2_a.c 7 _ rfl
          have f2_a := V2_a.2.2; have L2_a := V2_a.lt; have N2_a := Nat.ne_of_gt L2_a; have M2_a := Nat.ne_of_lt L2_a
          have HV2_a := Lib.hid V2_a
          have q2_b_0 : w2.cell? ⟨w.heap.size + 1, 0, none⟩ = some (.int .i64 b.shape) := V2_b.c 0 _ rfl
          have q2_b_1 : w2.cell? ⟨w.heap.size + 1, 1, none⟩ = some (.int .i64 b.sx) := V2_b.c 1 _ rfl
          have q2_b_2 : w2.cell? ⟨w.heap.size + 1, 2, none⟩ = some (.int .i64 b.sy) := V2_b.c 2 _ rfl
          have q2_b_3 : w2.cell? ⟨w.heap.size + 1, 3, none⟩ = some (.int .i64 b.mass) := V2_b.c 3 _ rfl
          have q2_b_4 : w2.cell? ⟨w.heap.size + 1, 4, none⟩ = some (.int .i64 b.px) := V2_b.c 4 _ rfl
          have q2_b_5 : w2.cell? ⟨w.heap.size + 1, 5, none⟩ = some (.int .i64 b.py) := V2_b.c 5 _ rfl
          have q2_b_6 : w2.cell? ⟨w.heap.size + 1, 6, none⟩ = some (.int .i64 b.mx) := V2_b.c 6 _ rfl
          have q2_b_7 : w2.cell? ⟨w.heap.size + 1, 7, none⟩ = some (.int .i64 b.my) := V2_b.c 7 _ rfl
          have f2_b := V2_b.2.2; have L2_b := V2_b.lt; have N2_b := Nat.ne_of_gt L2_b; have M2_b := Nat.ne_of_lt L2_b
          have HV2_b := Lib.hid V2_b
          have q2_h_0 : w2.cell? ⟨w.heap.size + 1 + 1, 0, none⟩ = some (.int .i64 h.nx) := V2_h.c 0 _ rfl
          have q2_h_1 : w2.cell? ⟨w.heap.size + 1 + 1, 1, none⟩ = some (.int .i64 h.ny) := V2_h.c 1 _ rfl
          have q2_h_2 : w2.cell? ⟨w.heap.size + 1 + 1, 2, none⟩ = some (.int .i64 h.d) := V2_h.c 2 _ rfl
          have f2_h := V2_h.2.2; have L2_h := V2_h.lt; have N2_h := Nat.ne_of_gt L2_h; have M2_h := Nat.ne_of_lt L2_h
          have HV2_h := Lib.hid V2_h
          have q2_l_0 : w2.cell? ⟨w.heap.size + 1 + 1 + 1, 0, none⟩ = some (.int .i64 l) := V2_l.c 0 _ rfl
          have f2_l := V2_l.2.2; have L2_l := V2_l.lt; have N2_l := Nat.ne_of_gt L2_l; have M2_l := Nat.ne_of_lt L2_l
          have HV2_l := Lib.hid V2_l
          have q2_j_0 : w2.cell? ⟨w.heap.size + 1 + 1 + 1 + 1, 0, none⟩ = some (.int .i64 j1) := V2_j.c 0 _ rfl
          have q2_j_1 : w2.cell? ⟨w.heap.size + 1 + 1 + 1 + 1, 1, none⟩ = some (.int .i64 j2) := V2_j.c 1 _ rfl
          have f2_j := V2_j.2.2; have L2_j := V2_j.lt; have N2_j := Nat.ne_of_gt L2_j; have M2_j := Nat.ne_of_lt L2_j
          have HV2_j := Lib.hid V2_j
          have q2_o_0 : w2.cell? ⟨B, 0, none⟩ = some (.int .i64 0) := V2_o.c 0 _ rfl
          have f2_o := V2_o.2.2; have L2_o := V2_o.lt; have N2_o := Nat.ne_of_gt L2_o; have M2_o := Nat.ne_of_lt L2_o
          have HV2_o := Lib.hid V2_o
          have q2_c_0 : w2.cell? ⟨wc.heap.size, 0, none⟩ = some (.int .i64 0) := V2_c.c 0 _ rfl
          have f2_c := V2_c.2.2; have L2_c := V2_c.lt; have N2_c := Nat.ne_of_gt L2_c; have M2_c := Nat.ne_of_lt L2_c
          have HV2_c := Lib.hid V2_c
          have q2_x_0 : w2.cell? ⟨wc.heap.size + 1, 0, none⟩ = some (.int .i64 0) := V2_x.c 0 _ rfl
          have q2_x_1 : w2.cell? ⟨wc.heap.size + 1, 1, none⟩ = some (.int .i64 0) := V2_x.c 1 _ rfl
          have q2_x_2 : w2.cell? ⟨wc.heap.size + 1, 2, none⟩ = some (.int .i64 0) := V2_x.c 2 _ rfl
          have q2_x_3 : w2.cell? ⟨wc.heap.size + 1, 3, none⟩ = some (.int .i64 0) := V2_x.c 3 _ rfl
          have q2_x_4 : w2.cell? ⟨wc.heap.size + 1, 4, none⟩ = some (.int .i64 0) := V2_x.c 4 _ rfl
          have q2_x_5 : w2.cell? ⟨wc.heap.size + 1, 5, none⟩ = some (.int .i64 0) := V2_x.c 5 _ rfl
          have q2_x_6 : w2.cell? ⟨wc.heap.size + 1, 6, none⟩ = some (.int .i64 0) := V2_x.c 6 _ rfl
          have q2_x_7 : w2.cell? ⟨wc.heap.size + 1, 7, none⟩ = some (.int .i64 0) := V2_x.c 7 _ rfl
          have f2_x := V2_x.2.2; have L2_x := V2_x.lt; have N2_x := Nat.ne_of_gt L2_x; have M2_x := Nat.ne_of_lt L2_x
          have HV2_x := Lib.hid V2_x
          have q2_y_0 : w2.cell? ⟨wc.heap.size + 1 + 1, 0, none⟩ = some (.int .i64 0) := V2_y.c 0 _ rfl
          have q2_y_1 : w2.cell? ⟨wc.heap.size + 1 + 1, 1, none⟩ = some (.int .i64 0) := V2_y.c 1 _ rfl
          have q2_y_2 : w2.cell? ⟨wc.heap.size + 1 + 1, 2, none⟩ = some (.int .i64 0) := V2_y.c 2 _ rfl
          have q2_y_3 : w2.cell? ⟨wc.heap.size + 1 + 1, 3, none⟩ = some (.int .i64 0) := V2_y.c 3 _ rfl
          have q2_y_4 : w2.cell? ⟨wc.heap.size + 1 + 1, 4, none⟩ = some (.int .i64 0) := V2_y.c 4 _ rfl
          have q2_y_5 : w2.cell? ⟨wc.heap.size + 1 + 1, 5, none⟩ = some (.int .i64 0) := V2_y.c 5 _ rfl
          have q2_y_6 : w2.cell? ⟨wc.heap.size + 1 + 1, 6, none⟩ = some (.int .i64 0) := V2_y.c 6 _ rfl
          have q2_y_7 : w2.cell? ⟨wc.heap.size + 1 + 1, 7, none⟩ = some (.int .i64 0) := V2_y.c 7 _ rfl
          have f2_y := V2_y.2.2; have L2_y := V2_y.lt; have N2_y := Nat.ne_of_gt L2_y; have M2_y := Nat.ne_of_lt L2_y
          have HV2_y := Lib.hid V2_y
          have q2_u_0 : w2.cell? ⟨wc.heap.size + 1 + 1 + 1, 0, none⟩ = some (.int .i64 0) := V2_u.c 0 _ rfl
          have q2_u_1 : w2.cell? ⟨wc.heap.size + 1 + 1 + 1, 1, none⟩ = some (.int .i64 0) := V2_u.c 1 _ rfl
          have q2_u_2 : w2.cell? ⟨wc.heap.size + 1 + 1 + 1, 2, none⟩ = some (.int .i64 0) := V2_u.c 2 _ rfl
          have q2_u_3 : w2.cell? ⟨wc.heap.size + 1 + 1 + 1, 3, none⟩ = some (.int .i64 0) := V2_u.c 3 _ rfl
          have q2_u_4 : w2.cell? ⟨wc.heap.size + 1 + 1 + 1, 4, none⟩ = some (.int .i64 0) := V2_u.c 4 _ rfl
          have q2_u_5 : w2.cell? ⟨wc.heap.size + 1 + 1 + 1, 5, none⟩ = some (.int .i64 0) := V2_u.c 5 _ rfl
          have q2_u_6 : w2.cell? ⟨wc.heap.size + 1 + 1 + 1, 6, none⟩ = some (.int .i64 0) := V2_u.c 6 _ rfl
          have q2_u_7 : w2.cell? ⟨wc.heap.size + 1 + 1 + 1, 7, none⟩ = some (.int .i64 0) := V2_u.c 7 _ rfl
          have f2_u := V2_u.2.2; have L2_u := V2_u.lt; have N2_u := Nat.ne_of_gt L2_u; have M2_u := Nat.ne_of_lt L2_u
          have HV2_u := Lib.hid V2_u
          have q2_v_0 : w2.cell? ⟨wc.heap.size + 1 + 1 + 1 + 1, 0, none⟩ = some (.int .i64 0) := V2_v.c 0 _ rfl
          have q2_v_1 : w2.cell? ⟨wc.heap.size + 1 + 1 + 1 + 1, 1, none⟩ = some (.int .i64 0) := V2_v.c 1 _ rfl
          have q2_v_2 : w2.cell? ⟨wc.heap.size + 1 + 1 + 1 + 1, 2, none⟩ = some (.int .i64 0) := V2_v.c 2 _ rfl
          have q2_v_3 : w2.cell? ⟨wc.heap.size + 1 + 1 + 1 + 1, 3, none⟩ = some (.int .i64 0) := V2_v.c 3 _ rfl
          have q2_v_4 : w2.cell? ⟨wc.heap.size + 1 + 1 + 1 + 1, 4, none⟩ = some (.int .i64 0) := V2_v.c 4 _ rfl
          have q2_v_5 : w2.cell? ⟨wc.heap.size + 1 + 1 + 1 + 1, 5, none⟩ = some (.int .i64 0) := V2_v.c 5 _ rfl
          have q2_v_6 : w2.cell? ⟨wc.heap.size + 1 + 1 + 1 + 1, 6, none⟩ = some (.int .i64 0) := V2_v.c 6 _ rfl
          have q2_v_7 : w2.cell? ⟨wc.heap.size + 1 + 1 + 1 + 1, 7, none⟩ = some (.int .i64 0) := V2_v.c 7 _ rfl
          have f2_v := V2_v.2.2; have L2_v := V2_v.lt; have N2_v := Nat.ne_of_gt L2_v; have M2_v := Nat.ne_of_lt L2_v
          have HV2_v := Lib.hid V2_v
          have S2 := G2.size; clear hb
          go_wp2_with fail
          (with_reducible refine (K1.out _ _ (M.pcell_var (by (repeat (first | (with_reducible assumption) | (with_reducible apply M.var_set45) | (with_reducible refine M.var_alloc' _ _ _ ?_; first | rfl | (simp [go_sem]; done)) | (with_reducible refine M.Var.alloc ?_ _) | (with_reducible refine M.Var.drewN ?_ _) | (with_reducible refine M.Var.drew ?_) | (with_reducible refine M.Var.far ?_ _ _ ?hFar; case hFar => (first | omega | ((try simp [go_sem]) <;> omega))) | fail)) : M.Var _ (wc.heap.size) #[.int .i64 0]))).mono ?_); rintro en w3 ⟨⟨u1, u2, rfl⟩, hb⟩
          have G3 : Below w.heap.size w w3 := Below.trans (M.below_sets_own ([(⟨wc.heap.size, 0, none⟩, .int .i64 i)]) (by have G := HGc.out; (repeat (with_reducible refine M.Below.drewN ?_ _)); go_grown) (by intro u hu; rw [M.cell_block1 hu]; dsimp only; omega)) (hb.mono (by go_size))
          have VV3 : M.Var w3 (w.heap.size) #[.int .i64 a.shape, .int .i64 a.sx, .int .i64 a.sy, .int .i64 a.mass, .int .i64 a.px, .int .i64 a.py, .int .i64 a.mx, .int .i64 a.my] ∧ M.Var w3 (w.heap.size + 1) #[.int .i64 b.shape, .int .i64 b.sx, .int .i64 b.sy, .int .i64 b.mass, .int .i64 b.px, .int .i64 b.py, .int .i64 b.mx, .int .i64 b.my] ∧ M.Var w3 (w.heap.size + 1 + 1) #[.int .i64 h.nx, .int .i64 h.ny, .int .i64 h.d] ∧ M.Var w3 (w.heap.size + 1 + 1 + 1) #[.int .i64 l] ∧ M.Var w3 (w.heap.size + 1 + 1 + 1 + 1) #[.int .i64 j1, .int .i64 j2] ∧ M.Var w3 (B) #[.int .i64 0] ∧ M.Var w3 (wc.heap.size + 1) #[.int .i64 0, .int .i64 0, .int .i64 0, .int .i64 0, .int .i64 0, .int .i64 0, .int .i64 0, .int .i64 0] ∧ M.Var w3 (wc.heap.size + 1 + 1) #[.int .i64 0, .int .i64 0, .int .i64 0, .int .i64 0, .int .i64 0, .int .i64 0, .int .i64 0, .int .i64 0] ∧ M.Var w3 (wc.heap.size + 1 + 1 + 1) #[.int .i64 0, .int .i64 0, .int .i64 0, .int .i64 0, .int .i64 0, .int .i64 0, .int .i64 0, .int .i64 0] ∧ M.Var w3 (wc.heap.size + 1 + 1 + 1 + 1) #[.int .i64 0, .int .i64 0, .int .i64 0, .int .i64 0, .int .i64 0, .int .i64 0, .int .i64 0, .int .i64 0] := by refine ⟨?_, ?_, ?_, ?_, ?_, ?_, ?_, ?_, ?_, ?_⟩ <;> (refine M.Var.mono' (u := M.sets _ ([(⟨wc.heap.size, 0, none⟩, .int .i64 i)])) ?_ (M.sets_size _ _) hb; (try simp only [M.sets_append]); exact (M.var_sets_far _ (by (repeat (first | (with_reducible assumption) | (with_reducible apply M.var_set45) | (with_reducible refine M.var_alloc' _ _ _ ?_; first | rfl | (simp [go_sem]; done)) | (with_reducible refine M.Var.alloc ?_ _) | (with_reducible refine M.Var.drewN ?_ _) | (with_reducible refine M.Var.drew ?_) | (with_reducible refine M.Var.far ?_ _ _ ?hFar; case hFar => (first | omega | ((try simp [go_sem]) <;> omega))) | fail))) (by intro u hu; all_goals (first | with_reducible rw [M.cell_block1 hu] | with_reducible rw [M.usBx_block hu] | with_reducible rw [M.usV_block hu] | with_reducible rw [M.usI_block hu] | with_reducible rw [M.usHt_block hu] | with_reducible rw [M.usBd_block hu] | with_reducible rw [M.usB_block hu] | rw [M.cell_block1 hu] | (exfalso; simp at hu; done)); all_goals ((try simp [go_sem]) <;> omega))))
          obtain ⟨V3_a, V3_b, V3_h, V3_l, V3_j, V3_o, V3_x, V3_y, V3_u, V3_v⟩ := VV3
          have V3_c : M.Var w3 (wc.heap.size) #[.int .i64 i] := by refine M.Var.mono' (u := M.sets _ ([(⟨wc.heap.size, 0, none⟩, .int .i64 i)])) ?_ (M.sets_size _ _) hb; (try simp only [M.sets_append]); exact (M.var_setI (by (repeat (first | (with_reducible assumption) | (with_reducible apply M.var_set45) | (with_reducible refine M.var_alloc' _ _ _ ?_; first | rfl | (simp [go_sem]; done)) | (with_reducible refine M.Var.alloc ?_ _) | (with_reducible refine M.Var.drewN ?_ _) | (with_reducible refine M.Var.drew ?_) | (with_reducible refine M.Var.far ?_ _ _ ?hFar; case hFar => (first | omega | ((try simp [go_sem]) <;> omega))) | fail)) : M.Var _ (wc.heap.size) #[.int .i64 0]) _)
          have q3_a_0 : w3.cell? ⟨w.heap.size, 0, none⟩ = some (.int .i64 a.shape) := V3_a.c 0 _ rfl
          have q3_a_1 : w3.cell? ⟨w.heap.size, 1, none⟩ = some (.int .i64 a.sx) := V3_a.c 1 _ rfl
          have q3_a_2 : w3.cell? ⟨w.heap.size, 2, none⟩ = some (.int .i64 a.sy) := V3_a.c 2 _ rfl
          have q3_a_3 : w3.cell? ⟨w.heap.size, 3, none⟩ = some (.int .i64 a.mass) := V3_a.c 3 _ rfl
          have q3_a_4 : w3.cell? ⟨w.heap.size, 4, none⟩ = some (.int .i64 a.px) := V3_a.c 4 _ rfl
          have q3_a_5 : w3.cell? ⟨w.heap.size, 5, none⟩ = some (.int .i64 a.py) := V3_a.c 5 _ rfl
          have q3_a_6 : w3.cell? ⟨w.heap.size, 6, none⟩ = some (.int .i64 a.mx) := V3_a.c 6 _ rfl
          have q3_a_7 : w3.cell? ⟨w.heap.size, 7, none⟩ = some (.int .i64 a.my) := V3_a.c 7 _ rfl
          have f3_a := V3_a.2.2; have L3_a := V3_a.lt; have N3_a := Nat.ne_of_gt L3_a; have M3_a := Nat.ne_of_lt L3_a
          have HV3_a := Lib.hid V3_a
          have q3_b_0 : w3.cell? ⟨w.heap.size + 1, 0, none⟩ = some (.int .i64 b.shape) := V3_b.c 0 _ rfl
          have q3_b_1 : w3.cell? ⟨w.heap.size + 1, 1, none⟩ = some (.int .i64 b.sx) := V3_b.c 1 _ rfl
          have q3_b_2 : w3.cell? ⟨w.heap.size + 1, 2, none⟩ = some (.int .i64 b.sy) := V3_b.c 2 _ rfl
          have q3_b_3 : w3.cell? ⟨w.heap.size + 1, 3, none⟩ = some (.int .i64 b.mass) := V3_b.c 3 _ rfl
          have q3_b_4 : w3.cell? ⟨w.heap.size + 1, 4, none⟩ = some (.int .i64 b.px) := V3_b.c 4 _ rfl
          have q3_b_5 : w3.cell? ⟨w.heap.size + 1, 5, none⟩ = some (.int .i64 b.py) := V3_b.c 5 _ rfl
          have q3_b_6 : w3.cell? ⟨w.heap.size + 1, 6, none⟩ = some (.int .i64 b.mx) := V3_b.c 6 _ rfl
          have q3_b_7 : w3.cell? ⟨w.heap.size + 1, 7, none⟩ = some (.int .i64 b.my) := V3_b.c 7 _ rfl
          have f3_b := V3_b.2.2; have L3_b := V3_b.lt; have N3_b := Nat.ne_of_gt L3_b; have M3_b := Nat.ne_of_lt L3_b
          have HV3_b := Lib.hid V3_b
          have q3_h_0 : w3.cell? ⟨w.heap.size + 1 + 1, 0, none⟩ = some (.int .i64 h.nx) := V3_h.c 0 _ rfl
          have q3_h_1 : w3.cell? ⟨w.heap.size + 1 + 1, 1, none⟩ = some (.int .i64 h.ny) := V3_h.c 1 _ rfl
          have q3_h_2 : w3.cell? ⟨w.heap.size + 1 + 1, 2, none⟩ = some (.int .i64 h.d) := V3_h.c 2 _ rfl
          have f3_h := V3_h.2.2; have L3_h := V3_h.lt; have N3_h := Nat.ne_of_gt L3_h; have M3_h := Nat.ne_of_lt L3_h
          have HV3_h := Lib.hid V3_h
          have q3_l_0 : w3.cell? ⟨w.heap.size + 1 + 1 + 1, 0, none⟩ = some (.int .i64 l) := V3_l.c 0 _ rfl
          have f3_l := V3_l.2.2; have L3_l := V3_l.lt; have N3_l := Nat.ne_of_gt L3_l; have M3_l := Nat.ne_of_lt L3_l
          have HV3_l := Lib.hid V3_l
          have q3_j_0 : w3.cell? ⟨w.heap.size + 1 + 1 + 1 + 1, 0, none⟩ = some (.int .i64 j1) := V3_j.c 0 _ rfl
          have q3_j_1 : w3.cell? ⟨w.heap.size + 1 + 1 + 1 + 1, 1, none⟩ = some (.int .i64 j2) := V3_j.c 1 _ rfl
          have f3_j := V3_j.2.2; have L3_j := V3_j.lt; have N3_j := Nat.ne_of_gt L3_j; have M3_j := Nat.ne_of_lt L3_j
          have HV3_j := Lib.hid V3_j
          have q3_o_0 : w3.cell? ⟨B, 0, none⟩ = some (.int .i64 0) := V3_o.c 0 _ rfl
          have f3_o := V3_o.2.2; have L3_o := V3_o.lt; have N3_o := Nat.ne_of_gt L3_o; have M3_o := Nat.ne_of_lt L3_o
          have HV3_o := Lib.hid V3_o
          have q3_c_0 : w3.cell? ⟨wc.heap.size, 0, none⟩ = some (.int .i64 i) := V3_c.c 0 _ rfl
          have f3_c := V3_c.2.2; have L3_c := V3_c.lt; have N3_c := Nat.ne_of_gt L3_c; have M3_c := Nat.ne_of_lt L3_c
          have HV3_c := Lib.hid V3_c
          have q3_x_0 : w3.cell? ⟨wc.heap.size + 1, 0, none⟩ = some (.int .i64 0) := V3_x.c 0 _ rfl
          have q3_x_1 : w3.cell? ⟨wc.heap.size + 1, 1, none⟩ = some (.int .i64 0) := V3_x.c 1 _ rfl
          have q3_x_2 : w3.cell? ⟨wc.heap.size + 1, 2, none⟩ = some (.int .i64 0) := V3_x.c 2 _ rfl
          have q3_x_3 : w3.cell? ⟨wc.heap.size + 1, 3, none⟩ = some (.int .i64 0) := V3_x.c 3 _ rfl
          have q3_x_4 : w3.cell? ⟨wc.heap.size + 1, 4, none⟩ = some (.int .i64 0) := V3_x.c 4 _ rfl
          have q3_x_5 : w3.cell? ⟨wc.heap.size + 1, 5, none⟩ = some (.int .i64 0) := V3_x.c 5 _ rfl
          have q3_x_6 : w3.cell? ⟨wc.heap.size + 1, 6, none⟩ = some (.int .i64 0) := V3_x.c 6 _ rfl
          have q3_x_7 : w3.cell? ⟨wc.heap.size + 1, 7, none⟩ = some (.int .i64 0) := V3_x.c 7 _ rfl
          have f3_x := V3_x.2.2; have L3_x := V3_x.lt; have N3_x := Nat.ne_of_gt L3_x; have M3_x := Nat.ne_of_lt L3_x
          have HV3_x := Lib.hid V3_x
          have q3_y_0 : w3.cell? ⟨wc.heap.size + 1 + 1, 0, none⟩ = some (.int .i64 0) := V3_y.c 0 _ rfl
          have q3_y_1 : w3.cell? ⟨wc.heap.size + 1 + 1, 1, none⟩ = some (.int .i64 0) := V3_y.c 1 _ rfl
          have q3_y_2 : w3.cell? ⟨wc.heap.size + 1 + 1, 2, none⟩ = some (.int .i64 0) := V3_y.c 2 _ rfl
          have q3_y_3 : w3.cell? ⟨wc.heap.size + 1 + 1, 3, none⟩ = some (.int .i64 0) := V3_y.c 3 _ rfl
          have q3_y_4 : w3.cell? ⟨wc.heap.size + 1 + 1, 4, none⟩ = some (.int .i64 0) := V3_y.c 4 _ rfl
          have q3_y_5 : w3.cell? ⟨wc.heap.size + 1 + 1, 5, none⟩ = some (.int .i64 0) := V3_y.c 5 _ rfl
          have q3_y_6 : w3.cell? ⟨wc.heap.size + 1 + 1, 6, none⟩ = some (.int .i64 0) := V3_y.c 6 _ rfl
          have q3_y_7 : w3.cell? ⟨wc.heap.size + 1 + 1, 7, none⟩ = some (.int .i64 0) := V3_y.c 7 _ rfl
          have f3_y := V3_y.2.2; have L3_y := V3_y.lt; have N3_y := Nat.ne_of_gt L3_y; have M3_y := Nat.ne_of_lt L3_y
          have HV3_y := Lib.hid V3_y
          have q3_u_0 : w3.cell? ⟨wc.heap.size + 1 + 1 + 1, 0, none⟩ = some (.int .i64 0) := V3_u.c 0 _ rfl
          have q3_u_1 : w3.cell? ⟨wc.heap.size + 1 + 1 + 1, 1, none⟩ = some (.int .i64 0) := V3_u.c 1 _ rfl
          have q3_u_2 : w3.cell? ⟨wc.heap.size + 1 + 1 + 1, 2, none⟩ = some (.int .i64 0) := V3_u.c 2 _ rfl
          have q3_u_3 : w3.cell? ⟨wc.heap.size + 1 + 1 + 1, 3, none⟩ = some (.int .i64 0) := V3_u.c 3 _ rfl
          have q3_u_4 : w3.cell? ⟨wc.heap.size + 1 + 1 + 1, 4, none⟩ = some (.int .i64 0) := V3_u.c 4 _ rfl
          have q3_u_5 : w3.cell? ⟨wc.heap.size + 1 + 1 + 1, 5, none⟩ = some (.int .i64 0) := V3_u.c 5 _ rfl
          have q3_u_6 : w3.cell? ⟨wc.heap.size + 1 + 1 + 1, 6, none⟩ = some (.int .i64 0) := V3_u.c 6 _ rfl
          have q3_u_7 : w3.cell? ⟨wc.heap.size + 1 + 1 + 1, 7, none⟩ = some (.int .i64 0) := V3_u.c 7 _ rfl
          have f3_u := V3_u.2.2; have L3_u := V3_u.lt; have N3_u := Nat.ne_of_gt L3_u; have M3_u := Nat.ne_of_lt L3_u
          have HV3_u := Lib.hid V3_u
          have q3_v_0 : w3.cell? ⟨wc.heap.size + 1 + 1 + 1 + 1, 0, none⟩ = some (.int .i64 0) := V3_v.c 0 _ rfl
          have q3_v_1 : w3.cell? ⟨wc.heap.size + 1 + 1 + 1 + 1, 1, none⟩ = some (.int .i64 0) := V3_v.c 1 _ rfl
          have q3_v_2 : w3.cell? ⟨wc.heap.size + 1 + 1 + 1 + 1, 2, none⟩ = some (.int .i64 0) := V3_v.c 2 _ rfl
          have q3_v_3 : w3.cell? ⟨wc.heap.size + 1 + 1 + 1 + 1, 3, none⟩ = some (.int .i64 0) := V3_v.c 3 _ rfl
          have q3_v_4 : w3.cell? ⟨wc.heap.size + 1 + 1 + 1 + 1, 4, none⟩ = some (.int .i64 0) := V3_v.c 4 _ rfl
          have q3_v_5 : w3.cell? ⟨wc.heap.size + 1 + 1 + 1 + 1, 5, none⟩ = some (.int .i64 0) := V3_v.c 5 _ rfl
          have q3_v_6 : w3.cell? ⟨wc.heap.size + 1 + 1 + 1 + 1, 6, none⟩ = some (.int .i64 0) := V3_v.c 6 _ rfl
          have q3_v_7 : w3.cell? ⟨wc.heap.size + 1 + 1 + 1 + 1, 7, none⟩ = some (.int .i64 0) := V3_v.c 7 _ rfl
          have f3_v := V3_v.2.2; have L3_v := V3_v.lt; have N3_v := Nat.ne_of_gt L3_v; have M3_v := Nat.ne_of_lt L3_v
          have HV3_v := Lib.hid V3_v
          have S3 := G3.size; clear hb
          go_wp2_with fail
          go_roundg gf
          case measure => omega
          case rel => refine ⟨w3.heap.size, 1, by omega, by omega, rfl, by omega, ?_, ?_, ?_, ?_, ?_, ?_, by have G := G3; (repeat (with_reducible refine M.Below.drewN ?_ _)); go_grown⟩ <;> ((repeat (first | (with_reducible assumption) | (with_reducible apply M.var_setBd) | (with_reducible apply M.var_setI) | (with_reducible refine M.var_alloc' _ _ _ ?_; first | rfl | (focus (simp [go_sem]; done))) | (with_reducible refine M.Var.alloc ?_ _) | (with_reducible refine M.Var.drewN ?_ _) | (with_reducible refine M.Var.drew ?_) | (with_reducible refine M.Var.far ?_ _ _ ?hFar; case hFar => (first | omega | ((try simp [go_sem]) <;> omega))) | fail)))
        · skip
          have K1 := Lib.hid (fun pb w hp => (refApply_x pb 0 a b j1 j2 ha hB hj1 hj2 w hp).mono fun en w' h => M.relBB_ok hP h)
          replace hP := Lib.hid hP
          have qc_o_0 : wc.cell? ⟨B, 0, none⟩ = some (.int .i64 0) := Vc_o.c 0 _ rfl
          have fc_o := Vc_o.2.2; have Lc_o := Vc_o.lt; have Nc_o := Nat.ne_of_gt Lc_o; have Mc_o := Nat.ne_of_lt Lc_o
          have qc_a_0 : wc.cell? ⟨w.heap.size, 0, none⟩ = some (.int .i64 a.shape) := Vc_a.c 0 _ rfl
          have qc_a_1 : wc.cell? ⟨w.heap.size, 1, none⟩ = some (.int .i64 a.sx) := Vc_a.c 1 _ rfl
          have qc_a_2 : wc.cell? ⟨w.heap.size, 2, none⟩ = some (.int .i64 a.sy) := Vc_a.c 2 _ rfl
          have qc_a_3 : wc.cell? ⟨w.heap.size, 3, none⟩ = some (.int .i64 a.mass) := Vc_a.c 3 _ rfl
          have qc_a_4 : wc.cell? ⟨w.heap.size, 4, none⟩ = some (.int .i64 a.px) := Vc_a.c 4 _ rfl
          have qc_a_5 : wc.cell? ⟨w.heap.size, 5, none⟩ = some (.int .i64 a.py) := Vc_a.c 5 _ rfl
          have qc_a_6 : wc.cell? ⟨w.heap.size, 6, none⟩ = some (.int .i64 a.mx) := Vc_a.c 6 _ rfl
          have qc_a_7 : wc.cell? ⟨w.heap.size, 7, none⟩ = some (.int .i64 a.my) := Vc_a.c 7 _ rfl
          have fc_a := Vc_a.2.2; have Lc_a := Vc_a.lt; have Nc_a := Nat.ne_of_gt Lc_a; have Mc_a := Nat.ne_of_lt Lc_a
          have qc_b_0 : wc.cell? ⟨w.heap.size + 1, 0, none⟩ = some (.int .i64 b.shape) := Vc_b.c 0 _ rfl
          have qc_b_1 : wc.cell? ⟨w.heap.size + 1, 1, none⟩ = some (.int .i64 b.sx) := Vc_b.c 1 _ rfl
          have qc_b_2 : wc.cell? ⟨w.heap.size + 1, 2, none⟩ = some (.int .i64 b.sy) := Vc_b.c 2 _ rfl
          have qc_b_3 : wc.cell? ⟨w.heap.size + 1, 3, none⟩ = some (.int .i64 b.mass) := Vc_b.c 3 _ rfl
          have qc_b_4 : wc.cell? ⟨w.heap.size + 1, 4, none⟩ = some (.int .i64 b.px) := Vc_b.c 4 _ rfl
          have qc_b_5 : wc.cell? ⟨w.heap.size + 1, 5, none⟩ = some (.int .i64 b.py) := Vc_b.c 5 _ rfl
          have qc_b_6 : wc.cell? ⟨w.heap.size + 1, 6, none⟩ = some (.int .i64 b.mx) := Vc_b.c 6 _ rfl
          have qc_b_7 : wc.cell? ⟨w.heap.size + 1, 7, none⟩ = some (.int .i64 b.my) := Vc_b.c 7 _ rfl
          have fc_b := Vc_b.2.2; have Lc_b := Vc_b.lt; have Nc_b := Nat.ne_of_gt Lc_b; have Mc_b := Nat.ne_of_lt Lc_b
          have qc_h_0 : wc.cell? ⟨w.heap.size + 1 + 1, 0, none⟩ = some (.int .i64 h.nx) := Vc_h.c 0 _ rfl
          have qc_h_1 : wc.cell? ⟨w.heap.size + 1 + 1, 1, none⟩ = some (.int .i64 h.ny) := Vc_h.c 1 _ rfl
          have qc_h_2 : wc.cell? ⟨w.heap.size + 1 + 1, 2, none⟩ = some (.int .i64 h.d) := Vc_h.c 2 _ rfl
          have fc_h := Vc_h.2.2; have Lc_h := Vc_h.lt; have Nc_h := Nat.ne_of_gt Lc_h; have Mc_h := Nat.ne_of_lt Lc_h
          have qc_l_0 : wc.cell? ⟨w.heap.size + 1 + 1 + 1, 0, none⟩ = some (.int .i64 l) := Vc_l.c 0 _ rfl
          have fc_l := Vc_l.2.2; have Lc_l := Vc_l.lt; have Nc_l := Nat.ne_of_gt Lc_l; have Mc_l := Nat.ne_of_lt Lc_l
          have qc_j_0 : wc.cell? ⟨w.heap.size + 1 + 1 + 1 + 1, 0, none⟩ = some (.int .i64 j1) := Vc_j.c 0 _ rfl
          have qc_j_1 : wc.cell? ⟨w.heap.size + 1 + 1 + 1 + 1, 1, none⟩ = some (.int .i64 j2) := Vc_j.c 1 _ rfl
          have fc_j := Vc_j.2.2; have Lc_j := Vc_j.lt; have Nc_j := Nat.ne_of_gt Lc_j; have Mc_j := Nat.ne_of_lt Lc_j
          go_wp2_with fail
          refine (try_c 30 #[.pointer (some ⟨B, 0, none⟩), .pointer (some ⟨w.heap.size, 0, none⟩), .pointer (some ⟨w.heap.size + 1, 0, none⟩), .pointer (some ⟨w.heap.size + 1 + 1 + 1 + 1, 0, none⟩), .pointer (some ⟨wc.heap.size + 1, 0, none⟩), .pointer (some ⟨wc.heap.size + 1 + 1, 0, none⟩), .pointer (some ⟨w.heap.size + 1 + 1, 0, none⟩), .pointer (some ⟨w.heap.size + 1 + 1 + 1, 0, none⟩)] _ (0) (usBd (wc.heap.size + 1) (.ok x1) ++ usBd (wc.heap.size + 1 + 1) (.ok x2)) (fun _ => rfl) ?_ ?_).mono ?_
          · intro u hu; (try simp only [List.mem_append] at hu); (repeat' (obtain hu | hu := (hu : _ ∨ _))); all_goals (first | with_reducible rw [M.cell_block1 hu] | with_reducible rw [M.usBx_block hu] | with_reducible rw [M.usV_block hu] | with_reducible rw [M.usI_block hu] | with_reducible rw [M.usHt_block hu] | with_reducible rw [M.usBd_block hu] | with_reducible rw [M.usB_block hu] | rw [M.cell_block1 hu] | (exfalso; simp at hu; done)); all_goals ((try simp [go_sem]) <;> omega)
          · intro w1' hb; exact (cloT0 _ _ _ _ _ _ _ _ a ha b hB j1 j2 hj1 hj2 _ _ _ _ _ _ _ _ _ _ _ _ _ _ _ _ (.ok (x1, x2)) hP.out w1' (M.Var.mono (b := B) (cs := #[.int .i64 0]) (by (repeat (first | (with_reducible assumption) | (with_reducible apply M.var_set45) | (with_reducible refine M.var_alloc' _ _ _ ?_; first | rfl | (simp [go_sem]; done)) | (with_reducible refine M.Var.alloc ?_ _) | (with_reducible refine M.Var.drewN ?_ _) | (with_reducible refine M.Var.drew ?_) | (with_reducible refine M.Var.far ?_ _ _ ?hFar; case hFar => (first | omega | ((try simp [go_sem]) <;> omega))) | fail))) hb) (M.Var.mono (b := w.heap.size) (cs := #[.int .i64 a.shape, .int .i64 a.sx, .int .i64 a.sy, .int .i64 a.mass, .int .i64 a.px, .int .i64 a.py, .int .i64 a.mx, .int .i64 a.my]) (by (repeat (first | (with_reducible assumption) | (with_reducible apply M.var_set45) | (with_reducible refine M.var_alloc' _ _ _ ?_; first | rfl | (simp [go_sem]; done)) | (with_reducible refine M.Var.alloc ?_ _) | (with_reducible refine M.Var.drewN ?_ _) | (with_reducible refine M.Var.drew ?_) | (with_reducible refine M.Var.far ?_ _ _ ?hFar; case hFar => (first | omega | ((try simp [go_sem]) <;> omega))) | fail))) hb) (M.Var.mono (b := w.heap.size + 1) (cs := #[.int .i64 b.shape, .int .i64 b.sx, .int .i64 b.sy, .int .i64 b.mass, .int .i64 b.px, .int .i64 b.py, .int .i64 b.mx, .int .i64 b.my]) (by (repeat (first | (with_reducible assumption) | (with_reducible apply M.var_set45) | (with_reducible refine M.var_alloc' _ _ _ ?_; first | rfl | (simp [go_sem]; done)) | (with_reducible refine M.Var.alloc ?_ _) | (with_reducible refine M.Var.drewN ?_ _) | (with_reducible refine M.Var.drew ?_) | (with_reducible refine M.Var.far ?_ _ _ ?hFar; case hFar => (first | omega | ((try simp [go_sem]) <;> omega))) | fail))) hb) (M.Var.mono (b := w.heap.size + 1 + 1 + 1 + 1) (cs := #[.int .i64 j1, .int .i64 j2]) (by (repeat (first | (with_reducible assumption) | (with_reducible apply M.var_set45) | (with_reducible refine M.var_alloc' _ _ _ ?_; first | rfl | (simp [go_sem]; done)) | (with_reducible refine M.Var.alloc ?_ _) | (with_reducible refine M.Var.drewN ?_ _) | (with_reducible refine M.Var.drew ?_) | (with_reducible refine M.Var.far ?_ _ _ ?hFar; case hFar => (first | omega | ((try simp [go_sem]) <;> omega))) | fail))) hb) (M.Var.mono (b := wc.heap.size + 1) (cs := #[.int .i64 0, .int .i64 0, .int .i64 0, .int .i64 0, .int .i64 0, .int .i64 0, .int .i64 0, .int .i64 0]) (by (repeat (first | (with_reducible assumption) | (with_reducible apply M.var_set45) | (with_reducible refine M.var_alloc' _ _ _ ?_; first | rfl | (simp [go_sem]; done)) | (with_reducible refine M.Var.alloc ?_ _) | (with_reducible refine M.Var.drewN ?_ _) | (with_reducible refine M.Var.drew ?_) | (with_reducible refine M.Var.far ?_ _ _ ?hFar; case hFar => (first | omega | ((try simp [go_sem]) <;> omega))) | fail))) hb) (M.Var.mono (b := wc.heap.size + 1 + 1) (cs := #[.int .i64 0, .int .i64 0, .int .i64 0, .int .i64 0, .int .i64 0, .int .i64 0, .int .i64 0, .int .i64 0]) (by (repeat (first | (with_reducible assumption) | (with_reducible apply M.var_set45) | (with_reducible refine M.var_alloc' _ _ _ ?_; first | rfl | (simp [go_sem]; done)) | (with_reducible refine M.Var.alloc ?_ _) | (with_reducible refine M.Var.drewN ?_ _) | (with_reducible refine M.Var.drew ?_) | (with_reducible refine M.Var.far ?_ _ _ ?hFar; case hFar => (first | omega | ((try simp [go_sem]) <;> omega))) | fail))) hb) (by omega)).mono fun e w' h => h
          rintro en w4 ⟨rfl, hb⟩
          have G4 : Below w.heap.size w w4 := by refine Below.trans ?_ (hb.mono (by go_size)); exact M.below_sets_own _ (by have G := HGc.out; (repeat (with_reducible refine M.Below.drewN ?_ _)); go_grown) (by intro u hu; (try simp only [List.mem_append] at hu); (repeat' (obtain hu | hu := (hu : _ ∨ _))); all_goals (first | with_reducible rw [M.cell_block1 hu] | with_reducible rw [M.usBx_block hu] | with_reducible rw [M.usV_block hu] | with_reducible rw [M.usI_block hu] | with_reducible rw [M.usHt_block hu] | with_reducible rw [M.usBd_block hu] | with_reducible rw [M.usB_block hu] | rw [M.cell_block1 hu] | (exfalso; simp at hu; done)); all_goals ((try simp [go_sem]) <;> omega))
          have VV4 : M.Var w4 (w.heap.size) #[.int .i64 a.shape, .int .i64 a.sx, .int .i64 a.sy, .int .i64 a.mass, .int .i64 a.px, .int .i64 a.py, .int .i64 a.mx, .int .i64 a.my] ∧ M.Var w4 (w.heap.size + 1) #[.int .i64 b.shape, .int .i64 b.sx, .int .i64 b.sy, .int .i64 b.mass, .int .i64 b.px, .int .i64 b.py, .int .i64 b.mx, .int .i64 b.my] ∧ M.Var w4 (w.heap.size + 1 + 1) #[.int .i64 h.nx, .int .i64 h.ny, .int .i64 h.d] ∧ M.Var w4 (w.heap.size + 1 + 1 + 1) #[.int .i64 l] ∧ M.Var w4 (w.heap.size + 1 + 1 + 1 + 1) #[.int .i64 j1, .int .i64 j2] ∧ M.Var w4 (B) #[.int .i64 0] ∧ M.Var w4 (wc.heap.size) #[.int .i64 0] ∧ M.Var w4 (wc.heap.size + 1 + 1 + 1) #[.int .i64 0, .int .i64 0, .int .i64 0, .int .i64 0, .int .i64 0, .int .i64 0, .int .i64 0, .int .i64 0] ∧ M.Var w4 (wc.heap.size + 1 + 1 + 1 + 1) #[.int .i64 0, .int .i64 0, .int .i64 0, .int .i64 0, .int .i64 0, .int .i64 0, .int .i64 0, .int .i64 0] := by refine ⟨?_, ?_, ?_, ?_, ?_, ?_, ?_, ?_, ?_⟩ <;> (refine M.Var.mono' ?_ (M.sets_size _ _) hb; (try simp only [M.sets_append]); exact (M.var_sets_far _ (M.var_sets_far _ (by (repeat (first | (with_reducible assumption) | (with_reducible apply M.var_set45) | (with_reducible refine M.var_alloc' _ _ _ ?_; first | rfl | (simp [go_sem]; done)) | (with_reducible refine M.Var.alloc ?_ _) | (with_reducible refine M.Var.drewN ?_ _) | (with_reducible refine M.Var.drew ?_) | (with_reducible refine M.Var.far ?_ _ _ ?hFar; case hFar => (first | omega | ((try simp [go_sem]) <;> omega))) | fail))) (by intro u hu; all_goals (first | with_reducible rw [M.cell_block1 hu] | with_reducible rw [M.usBx_block hu] | with_reducible rw [M.usV_block hu] | with_reducible rw [M.usI_block hu] | with_reducible rw [M.usHt_block hu] | with_reducible rw [M.usBd_block hu] | with_reducible rw [M.usB_block hu] | rw [M.cell_block1 hu] | (exfalso; simp at hu; done)); all_goals ((try simp [go_sem]) <;> omega))) (by intro u hu; all_goals (first | with_reducible rw [M.cell_block1 hu] | with_reducible rw [M.usBx_block hu] | with_reducible rw [M.usV_block hu] | with_reducible rw [M.usI_block hu] | with_reducible rw [M.usHt_block hu] | with_reducible rw [M.usBd_block hu] | with_reducible rw [M.usB_block hu] | rw [M.cell_block1 hu] | (exfalso; simp at hu; done)); all_goals ((try simp [go_sem]) <;> omega))))
          obtain ⟨V4_a, V4_b, V4_h, V4_l, V4_j, V4_o, V4_c, V4_u, V4_v⟩ := VV4
          have V4_x : M.Var w4 (wc.heap.size + 1) #[.int .i64 x1.shape, .int .i64 x1.sx, .int .i64 x1.sy, .int .i64 x1.mass, .int .i64 x1.px, .int .i64 x1.py, .int .i64 x1.mx, .int .i64 x1.my] := by refine M.Var.mono' ?_ (M.sets_size _ _) hb; (try simp only [M.sets_append]); exact (M.var_sets_far _ (M.var_setBd (by (repeat (first | (with_reducible assumption) | (with_reducible apply M.var_set45) | (with_reducible refine M.var_alloc' _ _ _ ?_; first | rfl | (simp [go_sem]; done)) | (with_reducible refine M.Var.alloc ?_ _) | (with_reducible refine M.Var.drewN ?_ _) | (with_reducible refine M.Var.drew ?_) | (with_reducible refine M.Var.far ?_ _ _ ?hFar; case hFar => (first | omega | ((try simp [go_sem]) <;> omega))) | fail)) : M.Var _ (wc.heap.size + 1) #[.int .i64 0, .int .i64 0, .int .i64 0, .int .i64 0, .int .i64 0, .int .i64 0, .int .i64 0, .int .i64 0]) _ _ _ _ _ _ _ _) (by intro u hu; all_goals (first | with_reducible rw [M.cell_block1 hu] | with_reducible rw [M.usBx_block hu] | with_reducible rw [M.usV_block hu] | with_reducible rw [M.usI_block hu] | with_reducible rw [M.usHt_block hu] | with_reducible rw [M.usBd_block hu] | with_reducible rw [M.usB_block hu] | rw [M.cell_block1 hu] | (exfalso; simp at hu; done)); all_goals ((try simp [go_sem]) <;> omega)))
          have V4_y : M.Var w4 (wc.heap.size + 1 + 1) #[.int .i64 x2.shape, .int .i64 x2.sx, .int .i64 x2.sy, .int .i64 x2.mass, .int .i64 x2.px, .int .i64 x2.py, .int .i64 x2.mx, .int .i64 x2.my] := by refine M.Var.mono' ?_ (M.sets_size _ _) hb; (try simp only [M.sets_append]); exact (M.var_setBd (M.var_sets_far _ (by (repeat (first | (with_reducible assumption) | (with_reducible apply M.var_set45) | (with_reducible refine M.var_alloc' _ _ _ ?_; first | rfl | (simp [go_sem]; done)) | (with_reducible refine M.Var.alloc ?_ _) | (with_reducible refine M.Var.drewN ?_ _) | (with_reducible refine M.Var.drew ?_) | (with_reducible refine M.Var.far ?_ _ _ ?hFar; case hFar => (first | omega | ((try simp [go_sem]) <;> omega))) | fail)) : M.Var _ (wc.heap.size + 1 + 1) #[.int .i64 0, .int .i64 0, .int .i64 0, .int .i64 0, .int .i64 0, .int .i64 0, .int .i64 0, .int .i64 0]) (by intro u hu; all_goals (first | with_reducible rw [M.cell_block1 hu] | with_reducible rw [M.usBx_block hu] | with_reducible rw [M.usV_block hu] | with_reducible rw [M.usI_block hu] | with_reducible rw [M.usHt_block hu] | with_reducible rw [M.usBd_block hu] | with_reducible rw [M.usB_block hu] | rw [M.cell_block1 hu] | (exfalso; simp at hu; done)); all_goals ((try simp [go_sem]) <;> omega))) _ _ _ _ _ _ _ _)
          have q4_a_0 : w4.cell? ⟨w.heap.size, 0, none⟩ = some (.int .i64 a.shape) := V4_a.c 0 _ rfl
          have q4_a_1 : w4.cell? ⟨w.heap.size, 1, none⟩ = some (.int .i64 a.sx) := V4_a.c 1 _ rfl
          have q4_a_2 : w4.cell? ⟨w.heap.size, 2, none⟩ = some (.int .i64 a.sy) := V4_a.c 2 _ rfl
          have q4_a_3 : w4.cell? ⟨w.heap.size, 3, none⟩ = some (.int .i64 a.mass) := V4_a.c 3 _ rfl
          have q4_a_4 : w4.cell? ⟨w.heap.size, 4, none⟩ = some (.int .i64 a.px) := V4_a.c 4 _ rfl
          have q4_a_5 : w4.cell? ⟨w.heap.size, 5, none⟩ = some (.int .i64 a.py) := V4_a.c 5 _ rfl
          have q4_a_6 : w4.cell? ⟨w.heap.size, 6, none⟩ = some (.int .i64 a.mx) := V4_a.c 6 _ rfl
          have q4_a_7 : w4.cell? ⟨w.heap.size, 7, none⟩ = some (.int .i64 a.my) := V4_a.c 7 _ rfl
          have f4_a := V4_a.2.2; have L4_a := V4_a.lt; have N4_a := Nat.ne_of_gt L4_a; have M4_a := Nat.ne_of_lt L4_a
          have HV4_a := Lib.hid V4_a
          have q4_b_0 : w4.cell? ⟨w.heap.size + 1, 0, none⟩ = some (.int .i64 b.shape) := V4_b.c 0 _ rfl
          have q4_b_1 : w4.cell? ⟨w.heap.size + 1, 1, none⟩ = some (.int .i64 b.sx) := V4_b.c 1 _ rfl
          have q4_b_2 : w4.cell? ⟨w.heap.size + 1, 2, none⟩ = some (.int .i64 b.sy) := V4_b.c 2 _ rfl
          have q4_b_3 : w4.cell? ⟨w.heap.size + 1, 3, none⟩ = some (.int .i64 b.mass) := V4_b.c 3 _ rfl
          have q4_b_4 : w4.cell? ⟨w.heap.size + 1, 4, none⟩ = some (.int .i64 b.px) := V4_b.c 4 _ rfl
          have q4_b_5 : w4.cell? ⟨w.heap.size + 1, 5, none⟩ = some (.int .i64 b.py) := V4_b.c 5 _ rfl
          have q4_b_6 : w4.cell? ⟨w.heap.size + 1, 6, none⟩ = some (.int .i64 b.mx) := V4_b.c 6 _ rfl
          have q4_b_7 : w4.cell? ⟨w.heap.size + 1, 7, none⟩ = some (.int .i64 b.my) := V4_b.c 7 _ rfl
          have f4_b := V4_b.2.2; have L4_b := V4_b.lt; have N4_b := Nat.ne_of_gt L4_b; have M4_b := Nat.ne_of_lt L4_b
          have HV4_b := Lib.hid V4_b
          have q4_h_0 : w4.cell? ⟨w.heap.size + 1 + 1, 0, none⟩ = some (.int .i64 h.nx) := V4_h.c 0 _ rfl
          have q4_h_1 : w4.cell? ⟨w.heap.size + 1 + 1, 1, none⟩ = some (.int .i64 h.ny) := V4_h.c 1 _ rfl
          have q4_h_2 : w4.cell? ⟨w.heap.size + 1 + 1, 2, none⟩ = some (.int .i64 h.d) := V4_h.c 2 _ rfl
          have f4_h := V4_h.2.2; have L4_h := V4_h.lt; have N4_h := Nat.ne_of_gt L4_h; have M4_h := Nat.ne_of_lt L4_h
          have HV4_h := Lib.hid V4_h
          have q4_l_0 : w4.cell? ⟨w.heap.size + 1 + 1 + 1, 0, none⟩ = some (.int .i64 l) := V4_l.c 0 _ rfl
          have f4_l := V4_l.2.2; have L4_l := V4_l.lt; have N4_l := Nat.ne_of_gt L4_l; have M4_l := Nat.ne_of_lt L4_l
          have HV4_l := Lib.hid V4_l
          have q4_j_0 : w4.cell? ⟨w.heap.size + 1 + 1 + 1 + 1, 0, none⟩ = some (.int .i64 j1) := V4_j.c 0 _ rfl
          have q4_j_1 : w4.cell? ⟨w.heap.size + 1 + 1 + 1 + 1, 1, none⟩ = some (.int .i64 j2) := V4_j.c 1 _ rfl
          have f4_j := V4_j.2.2; have L4_j := V4_j.lt; have N4_j := Nat.ne_of_gt L4_j; have M4_j := Nat.ne_of_lt L4_j
          have HV4_j := Lib.hid V4_j
          have q4_o_0 : w4.cell? ⟨B, 0, none⟩ = some (.int .i64 0) := V4_o.c 0 _ rfl
          have f4_o := V4_o.2.2; have L4_o := V4_o.lt; have N4_o := Nat.ne_of_gt L4_o; have M4_o := Nat.ne_of_lt L4_o
          have HV4_o := Lib.hid V4_o
          have q4_c_0 : w4.cell? ⟨wc.heap.size, 0, none⟩ = some (.int .i64 0) := V4_c.c 0 _ rfl
          have f4_c := V4_c.2.2; have L4_c := V4_c.lt; have N4_c := Nat.ne_of_gt L4_c; have M4_c := Nat.ne_of_lt L4_c
          have HV4_c := Lib.hid V4_c
          have q4_x_0 : w4.cell? ⟨wc.heap.size + 1, 0, none⟩ = some (.int .i64 x1.shape) := V4_x.c 0 _ rfl
          have q4_x_1 : w4.cell? ⟨wc.heap.size + 1, 1, none⟩ = some (.int .i64 x1.sx) := V4_x.c 1 _ rfl
          have q4_x_2 : w4.cell? ⟨wc.heap.size + 1, 2, none⟩ = some (.int .i64 x1.sy) := V4_x.c 2 _ rfl
          have q4_x_3 : w4.cell? ⟨wc.heap.size + 1, 3, none⟩ = some (.int .i64 x1.mass) := V4_x.c 3 _ rfl
          have q4_x_4 : w4.cell? ⟨wc.heap.size + 1, 4, none⟩ = some (.int .i64 x1.px) := V4_x.c 4 _ rfl
          have q4_x_5 : w4.cell? ⟨wc.heap.size + 1, 5, none⟩ = some (.int .i64 x1.py) := V4_x.c 5 _ rfl
          have q4_x_6 : w4.cell? ⟨wc.heap.size + 1, 6, none⟩ = some (.int .i64 x1.mx) := V4_x.c 6 _ rfl
          have q4_x_7 : w4.cell? ⟨wc.heap.size + 1, 7, none⟩ = some (.int .i64 x1.my) := V4_x.c 7 _ rfl
          have f4_x := V4_x.2.2; have L4_x := V4_x.lt; have N4_x := Nat.ne_of_gt L4_x; have M4_x := Nat.ne_of_lt L4_x
          have HV4_x := Lib.hid V4_x
          have q4_y_0 : w4.cell? ⟨wc.heap.size + 1 + 1, 0, none⟩ = some (.int .i64 x2.shape) := V4_y.c 0 _ rfl
          have q4_y_1 : w4.cell? ⟨wc.heap.size + 1 + 1, 1, none⟩ = some (.int .i64 x2.sx) := V4_y.c 1 _ rfl
          have q4_y_2 : w4.cell? ⟨wc.heap.size + 1 + 1, 2, none⟩ = some (.int .i64 x2.sy) := V4_y.c 2 _ rfl
          have q4_y_3 : w4.cell? ⟨wc.heap.size + 1 + 1, 3, none⟩ = some (.int .i64 x2.mass) := V4_y.c 3 _ rfl
          have q4_y_4 : w4.cell? ⟨wc.heap.size + 1 + 1, 4, none⟩ = some (.int .i64 x2.px) := V4_y.c 4 _ rfl
          have q4_y_5 : w4.cell? ⟨wc.heap.size + 1 + 1, 5, none⟩ = some (.int .i64 x2.py) := V4_y.c 5 _ rfl
          have q4_y_6 : w4.cell? ⟨wc.heap.size + 1 + 1, 6, none⟩ = some (.int .i64 x2.mx) := V4_y.c 6 _ rfl
          have q4_y_7 : w4.cell? ⟨wc.heap.size + 1 + 1, 7, none⟩ = some (.int .i64 x2.my) := V4_y.c 7 _ rfl
          have f4_y := V4_y.2.2; have L4_y := V4_y.lt; have N4_y := Nat.ne_of_gt L4_y; have M4_y := Nat.ne_of_lt L4_y
          have HV4_y := Lib.hid V4_y
          have q4_u_0 : w4.cell? ⟨wc.heap.size + 1 + 1 + 1, 0, none⟩ = some (.int .i64 0) := V4_u.c 0 _ rfl
          have q4_u_1 : w4.cell? ⟨wc.heap.size + 1 + 1 + 1, 1, none⟩ = some (.int .i64 0) := V4_u.c 1 _ rfl
          have q4_u_2 : w4.cell? ⟨wc.heap.size + 1 + 1 + 1, 2, none⟩ = some (.int .i64 0) := V4_u.c 2 _ rfl
          have q4_u_3 : w4.cell? ⟨wc.heap.size + 1 + 1 + 1, 3, none⟩ = some (.int .i64 0) := V4_u.c 3 _ rfl
          have q4_u_4 : w4.cell? ⟨wc.heap.size + 1 + 1 + 1, 4, none⟩ = some (.int .i64 0) := V4_u.c 4 _ rfl
          have q4_u_5 : w4.cell? ⟨wc.heap.size + 1 + 1 + 1, 5, none⟩ = some (.int .i64 0) := V4_u.c 5 _ rfl
          have q4_u_6 : w4.cell? ⟨wc.heap.size + 1 + 1 + 1, 6, none⟩ = some (.int .i64 0) := V4_u.c 6 _ rfl
          have q4_u_7 : w4.cell? ⟨wc.heap.size + 1 + 1 + 1, 7, none⟩ = some (.int .i64 0) := V4_u.c 7 _ rfl
          have f4_u := V4_u.2.2; have L4_u := V4_u.lt; have N4_u := Nat.ne_of_gt L4_u; have M4_u := Nat.ne_of_lt L4_u
          have HV4_u := Lib.hid V4_u
          have q4_v_0 : w4.cell? ⟨wc.heap.size + 1 + 1 + 1 + 1, 0, none⟩ = some (.int .i64 0) := V4_v.c 0 _ rfl
          have q4_v_1 : w4.cell? ⟨wc.heap.size + 1 + 1 + 1 + 1, 1, none⟩ = some (.int .i64 0) := V4_v.c 1 _ rfl
          have q4_v_2 : w4.cell? ⟨wc.heap.size + 1 + 1 + 1 + 1, 2, none⟩ = some (.int .i64 0) := V4_v.c 2 _ rfl
          have q4_v_3 : w4.cell? ⟨wc.heap.size + 1 + 1 + 1 + 1, 3, none⟩ = some (.int .i64 0) := V4_v.c 3 _ rfl
          have q4_v_4 : w4.cell? ⟨wc.heap.size + 1 + 1 + 1 + 1, 4, none⟩ = some (.int .i64 0) := V4_v.c 4 _ rfl
          have q4_v_5 : w4.cell? ⟨wc.heap.size + 1 + 1 + 1 + 1, 5, none⟩ = some (.int .i64 0) := V4_v.c 5 _ rfl
          have q4_v_6 : w4.cell? ⟨wc.heap.size + 1 + 1 + 1 + 1, 6, none⟩ = some (.int .i64 0) := V4_v.c 6 _ rfl
          have q4_v_7 : w4.cell? ⟨wc.heap.size + 1 + 1 + 1 + 1, 7, none⟩ = some (.int .i64 0) := V4_v.c 7 _ rfl
          have f4_v := V4_v.2.2; have L4_v := V4_v.lt; have N4_v := Nat.ne_of_gt L4_v; have M4_v := Nat.ne_of_lt L4_v
          have HV4_v := Lib.hid V4_v
          have S4 := G4.size; clear hb
          go_wp2_with fail
          (with_reducible refine (K1.out _ _ (M.pcell_var (by (repeat (first | (with_reducible assumption) | (with_reducible apply M.var_set45) | (with_reducible refine M.var_alloc' _ _ _ ?_; first | rfl | (simp [go_sem]; done)) | (with_reducible refine M.Var.alloc ?_ _) | (with_reducible refine M.Var.drewN ?_ _) | (with_reducible refine M.Var.drew ?_) | (with_reducible refine M.Var.far ?_ _ _ ?hFar; case hFar => (first | omega | ((try simp [go_sem]) <;> omega))) | fail)) : M.Var _ (wc.heap.size) #[.int .i64 0]))).mono ?_); rintro en w5 ⟨rfl, hb⟩
          have G5 : Below w.heap.size w w5 := Below.trans (M.below_sets_own ([(⟨wc.heap.size, 0, none⟩, .int .i64 0)]) (by have G := HGc.out; (repeat (with_reducible refine M.Below.drewN ?_ _)); go_grown) (by intro u hu; rw [M.cell_block1 hu]; dsimp only; omega)) (hb.mono (by go_size))
          have VV5 : M.Var w5 (w.heap.size) #[.int .i64 a.shape, .int .i64 a.sx, .int .i64 a.sy, .int .i64 a.mass, .int .i64 a.px, .int .i64 a.py, .int .i64 a.mx, .int .i64 a.my] ∧ M.Var w5 (w.heap.size + 1) #[.int .i64 b.shape, .int .i64 b.sx, .int .i64 b.sy, .int .i64 b.mass, .int .i64 b.px, .int .i64 b.py, .int .i64 b.mx, .int .i64 b.my] ∧ M.Var w5 (w.heap.size + 1 + 1) #[.int .i64 h.nx, .int .i64 h.ny, .int .i64 h.d] ∧ M.Var w5 (w.heap.size + 1 + 1 + 1) #[.int .i64 l] ∧ M.Var w5 (w.heap.size + 1 + 1 + 1 + 1) #[.int .i64 j1, .int .i64 j2] ∧ M.Var w5 (B) #[.int .i64 0] ∧ M.Var w5 (wc.heap.size + 1) #[.int .i64 x1.shape, .int .i64 x1.sx, .int .i64 x1.sy, .int .i64 x1.mass, .int .i64 x1.px, .int .i64 x1.py, .int .i64 x1.mx, .int .i64 x1.my] ∧ M.Var w5 (wc.heap.size + 1 + 1) #[.int .i64 x2.shape, .int .i64 x2.sx, .int .i64 x2.sy, .int .i64 x2.mass, .int .i64 x2.px, .int .i64 x2.py, .int .i64 x2.mx, .int .i64 x2.my] ∧ M.Var w5 (wc.heap.size + 1 + 1 + 1) #[.int .i64 0, .int .i64 0, .int .i64 0, .int .i64 0, .int .i64 0, .int .i64 0, .int .i64 0, .int .i64 0] ∧ M.Var w5 (wc.heap.size + 1 + 1 + 1 + 1) #[.int .i64 0, .int .i64 0, .int .i64 0, .int .i64 0, .int .i64 0, .int .i64 0, .int .i64 0, .int .i64 0] := by refine ⟨?_, ?_, ?_, ?_, ?_, ?_, ?_, ?_, ?_, ?_⟩ <;> (refine M.Var.mono' (u := M.sets _ ([(⟨wc.heap.size, 0, none⟩, .int .i64 0)])) ?_ (M.sets_size _ _) hb; (try simp only [M.sets_append]); exact (M.var_sets_far _ (by (repeat (first | (with_reducible assumption) | (with_reducible apply M.var_set45) | (with_reducible refine M.var_alloc' _ _ _ ?_; first | rfl | (simp [go_sem]; done)) | (with_reducible refine M.Var.alloc ?_ _) | (with_reducible refine M.Var.drewN ?_ _) | (with_reducible refine M.Var.drew ?_) | (with_reducible refine M.Var.far ?_ _ _ ?hFar; case hFar => (first | omega | ((try simp [go_sem]) <;> omega))) | fail))) (by intro u hu; all_goals (first | with_reducible rw [M.cell_block1 hu] | with_reducible rw [M.usBx_block hu] | with_reducible rw [M.usV_block hu] | with_reducible rw [M.usI_block hu] | with_reducible rw [M.usHt_block hu] | with_reducible rw [M.usBd_block hu] | with_reducible rw [M.usB_block hu] | rw [M.cell_block1 hu] | (exfalso; simp at hu; done)); all_goals ((try simp [go_sem]) <;> omega))))
          obtain ⟨V5_a, V5_b, V5_h, V5_l, V5_j, V5_o, V5_x, V5_y, V5_u, V5_v⟩ := VV5
          have V5_c : M.Var w5 (wc.heap.size) #[.int .i64 0] := by refine M.Var.mono' (u := M.sets _ ([(⟨wc.heap.size, 0, none⟩, .int .i64 0)])) ?_ (M.sets_size _ _) hb; (try simp only [M.sets_append]); exact (M.var_setI (by (repeat (first | (with_reducible assumption) | (with_reducible apply M.var_set45) | (with_reducible refine M.var_alloc' _ _ _ ?_; first | rfl | (simp [go_sem]; done)) | (with_reducible refine M.Var.alloc ?_ _) | (with_reducible refine M.Var.drewN ?_ _) | (with_reducible refine M.Var.drew ?_) | (with_reducible refine M.Var.far ?_ _ _ ?hFar; case hFar => (first | omega | ((try simp [go_sem]) <;> omega))) | fail)) : M.Var _ (wc.heap.size) #[.int .i64 0]) _)
          have q5_a_0 : w5.cell? ⟨w.heap.size, 0, none⟩ = some (.int .i64 a.shape) := V5_a.c 0 _ rfl
          have q5_a_1 : w5.cell? ⟨w.heap.size, 1, none⟩ = some (.int .i64 a.sx) := V5_a.c 1 _ rfl
          have q5_a_2 : w5.cell? ⟨w.heap.size, 2, none⟩ = some (.int .i64 a.sy) := V5_a.c 2 _ rfl
          have q5_a_3 : w5.cell? ⟨w.heap.size, 3, none⟩ = some (.int .i64 a.mass) := V5_a.c 3 _ rfl
          have q5_a_4 : w5.cell? ⟨w.heap.size, 4, none⟩ = some (.int .i64 a.px) := V5_a.c 4 _ rfl
          have q5_a_5 : w5.cell? ⟨w.heap.size, 5, none⟩ = some (.int .i64 a.py) := V5_a.c 5 _ rfl
          have q5_a_6 : w5.cell? ⟨w.heap.size, 6, none⟩ = some (.int .i64 a.mx) := V5_a.c 6 _ rfl
          have q5_a_7 : w5.cell? ⟨w.heap.size, 7, none⟩ = some (.int .i64 a.my) := V5_a.c 7 _ rfl
          have f5_a := V5_a.2.2; have L5_a := V5_a.lt; have N5_a := Nat.ne_of_gt L5_a; have M5_a := Nat.ne_of_lt L5_a
          have HV5_a := Lib.hid V5_a
          have q5_b_0 : w5.cell? ⟨w.heap.size + 1, 0, none⟩ = some (.int .i64 b.shape) := V5_b.c 0 _ rfl
          have q5_b_1 : w5.cell? ⟨w.heap.size + 1, 1, none⟩ = some (.int .i64 b.sx) := V5_b.c 1 _ rfl
          have q5_b_2 : w5.cell? ⟨w.heap.size + 1, 2, none⟩ = some (.int .i64 b.sy) := V5_b.c 2 _ rfl
          have q5_b_3 : w5.cell? ⟨w.heap.size + 1, 3, none⟩ = some (.int .i64 b.mass) := V5_b.c 3 _ rfl
          have q5_b_4 : w5.cell? ⟨w.heap.size + 1, 4, none⟩ = some (.int .i64 b.px) := V5_b.c 4 _ rfl
          have q5_b_5 : w5.cell? ⟨w.heap.size + 1, 5, none⟩ = some (.int .i64 b.py) := V5_b.c 5 _ rfl
          have q5_b_6 : w5.cell? ⟨w.heap.size + 1, 6, none⟩ = some (.int .i64 b.mx) := V5_b.c 6 _ rfl
          have q5_b_7 : w5.cell? ⟨w.heap.size + 1, 7, none⟩ = some (.int .i64 b.my) := V5_b.c 7 _ rfl
          have f5_b := V5_b.2.2; have L5_b := V5_b.lt; have N5_b := Nat.ne_of_gt L5_b; have M5_b := Nat.ne_of_lt L5_b
          have HV5_b := Lib.hid V5_b
          have q5_h_0 : w5.cell? ⟨w.heap.size + 1 + 1, 0, none⟩ = some (.int .i64 h.nx) := V5_h.c 0 _ rfl
          have q5_h_1 : w5.cell? ⟨w.heap.size + 1 + 1, 1, none⟩ = some (.int .i64 h.ny) := V5_h.c 1 _ rfl
          have q5_h_2 : w5.cell? ⟨w.heap.size + 1 + 1, 2, none⟩ = some (.int .i64 h.d) := V5_h.c 2 _ rfl
          have f5_h := V5_h.2.2; have L5_h := V5_h.lt; have N5_h := Nat.ne_of_gt L5_h; have M5_h := Nat.ne_of_lt L5_h
          have HV5_h := Lib.hid V5_h
          have q5_l_0 : w5.cell? ⟨w.heap.size + 1 + 1 + 1, 0, none⟩ = some (.int .i64 l) := V5_l.c 0 _ rfl
          have f5_l := V5_l.2.2; have L5_l := V5_l.lt; have N5_l := Nat.ne_of_gt L5_l; have M5_l := Nat.ne_of_lt L5_l
          have HV5_l := Lib.hid V5_l
          have q5_j_0 : w5.cell? ⟨w.heap.size + 1 + 1 + 1 + 1, 0, none⟩ = some (.int .i64 j1) := V5_j.c 0 _ rfl
          have q5_j_1 : w5.cell? ⟨w.heap.size + 1 + 1 + 1 + 1, 1, none⟩ = some (.int .i64 j2) := V5_j.c 1 _ rfl
          have f5_j := V5_j.2.2; have L5_j := V5_j.lt; have N5_j := Nat.ne_of_gt L5_j; have M5_j := Nat.ne_of_lt L5_j
          have HV5_j := Lib.hid V5_j
          have q5_o_0 : w5.cell? ⟨B, 0, none⟩ = some (.int .i64 0) := V5_o.c 0 _ rfl
          have f5_o := V5_o.2.2; have L5_o := V5_o.lt; have N5_o := Nat.ne_of_gt L5_o; have M5_o := Nat.ne_of_lt L5_o
          have HV5_o := Lib.hid V5_o
          have q5_c_0 : w5.cell? ⟨wc.heap.size, 0, none⟩ = some (.int .i64 0) := V5_c.c 0 _ rfl
          have f5_c := V5_c.2.2; have L5_c := V5_c.lt; have N5_c := Nat.ne_of_gt L5_c; have M5_c := Nat.ne_of_lt L5_c
          have HV5_c := Lib.hid V5_c
          have q5_x_0 : w5.cell? ⟨wc.heap.size + 1, 0, none⟩ = some (.int .i64 x1.shape) := V5_x.c 0 _ rfl
          have q5_x_1 : w5.cell? ⟨wc.heap.size + 1, 1, none⟩ = some (.int .i64 x1.sx) := V5_x.c 1 _ rfl
          have q5_x_2 : w5.cell? ⟨wc.heap.size + 1, 2, none⟩ = some (.int .i64 x1.sy) := V5_x.c 2 _ rfl
          have q5_x_3 : w5.cell? ⟨wc.heap.size + 1, 3, none⟩ = some (.int .i64 x1.mass) := V5_x.c 3 _ rfl
          have q5_x_4 : w5.cell? ⟨wc.heap.size + 1, 4, none⟩ = some (.int .i64 x1.px) := V5_x.c 4 _ rfl
          have q5_x_5 : w5.cell? ⟨wc.heap.size + 1, 5, none⟩ = some (.int .i64 x1.py) := V5_x.c 5 _ rfl
          have q5_x_6 : w5.cell? ⟨wc.heap.size + 1, 6, none⟩ = some (.int .i64 x1.mx) := V5_x.c 6 _ rfl
          have q5_x_7 : w5.cell? ⟨wc.heap.size + 1, 7, none⟩ = some (.int .i64 x1.my) := V5_x.c 7 _ rfl
          have f5_x := V5_x.2.2; have L5_x := V5_x.lt; have N5_x := Nat.ne_of_gt L5_x; have M5_x := Nat.ne_of_lt L5_x
          have HV5_x := Lib.hid V5_x
          have q5_y_0 : w5.cell? ⟨wc.heap.size + 1 + 1, 0, none⟩ = some (.int .i64 x2.shape) := V5_y.c 0 _ rfl
          have q5_y_1 : w5.cell? ⟨wc.heap.size + 1 + 1, 1, none⟩ = some (.int .i64 x2.sx) := V5_y.c 1 _ rfl
          have q5_y_2 : w5.cell? ⟨wc.heap.size + 1 + 1, 2, none⟩ = some (.int .i64 x2.sy) := V5_y.c 2 _ rfl
          have q5_y_3 : w5.cell? ⟨wc.heap.size + 1 + 1, 3, none⟩ = some (.int .i64 x2.mass) := V5_y.c 3 _ rfl
          have q5_y_4 : w5.cell? ⟨wc.heap.size + 1 + 1, 4, none⟩ = some (.int .i64 x2.px) := V5_y.c 4 _ rfl
          have q5_y_5 : w5.cell? ⟨wc.heap.size + 1 + 1, 5, none⟩ = some (.int .i64 x2.py) := V5_y.c 5 _ rfl
          have q5_y_6 : w5.cell? ⟨wc.heap.size + 1 + 1, 6, none⟩ = some (.int .i64 x2.mx) := V5_y.c 6 _ rfl
          have q5_y_7 : w5.cell? ⟨wc.heap.size + 1 + 1, 7, none⟩ = some (.int .i64 x2.my) := V5_y.c 7 _ rfl
          have f5_y := V5_y.2.2; have L5_y := V5_y.lt; have N5_y := Nat.ne_of_gt L5_y; have M5_y := Nat.ne_of_lt L5_y
          have HV5_y := Lib.hid V5_y
          have q5_u_0 : w5.cell? ⟨wc.heap.size + 1 + 1 + 1, 0, none⟩ = some (.int .i64 0) := V5_u.c 0 _ rfl
          have q5_u_1 : w5.cell? ⟨wc.heap.size + 1 + 1 + 1, 1, none⟩ = some (.int .i64 0) := V5_u.c 1 _ rfl
          have q5_u_2 : w5.cell? ⟨wc.heap.size + 1 + 1 + 1, 2, none⟩ = some (.int .i64 0) := V5_u.c 2 _ rfl
          have q5_u_3 : w5.cell? ⟨wc.heap.size + 1 + 1 + 1, 3, none⟩ = some (.int .i64 0) := V5_u.c 3 _ rfl
          have q5_u_4 : w5.cell? ⟨wc.heap.size + 1 + 1 + 1, 4, none⟩ = some (.int .i64 0) := V5_u.c 4 _ rfl
          have q5_u_5 : w5.cell? ⟨wc.heap.size + 1 + 1 + 1, 5, none⟩ = some (.int .i64 0) := V5_u.c 5 _ rfl
          have q5_u_6 : w5.cell? ⟨wc.heap.size + 1 + 1 + 1, 6, none⟩ = some (.int .i64 0) := V5_u.c 6 _ rfl
          have q5_u_7 : w5.cell? ⟨wc.heap.size + 1 + 1 + 1, 7, none⟩ = some (.int .i64 0) := V5_u.c 7 _ rfl
          have f5_u := V5_u.2.2; have L5_u := V5_u.lt; have N5_u := Nat.ne_of_gt L5_u; have M5_u := Nat.ne_of_lt L5_u
          have HV5_u := Lib.hid V5_u
          have q5_v_0 : w5.cell? ⟨wc.heap.size + 1 + 1 + 1 + 1, 0, none⟩ = some (.int .i64 0) := V5_v.c 0 _ rfl
          have q5_v_1 : w5.cell? ⟨wc.heap.size + 1 + 1 + 1 + 1, 1, none⟩ = some (.int .i64 0) := V5_v.c 1 _ rfl
          have q5_v_2 : w5.cell? ⟨wc.heap.size + 1 + 1 + 1 + 1, 2, none⟩ = some (.int .i64 0) := V5_v.c 2 _ rfl
          have q5_v_3 : w5.cell? ⟨wc.heap.size + 1 + 1 + 1 + 1, 3, none⟩ = some (.int .i64 0) := V5_v.c 3 _ rfl
          have q5_v_4 : w5.cell? ⟨wc.heap.size + 1 + 1 + 1 + 1, 4, none⟩ = some (.int .i64 0) := V5_v.c 4 _ rfl
          have q5_v_5 : w5.cell? ⟨wc.heap.size + 1 + 1 + 1 + 1, 5, none⟩ = some (.int .i64 0) := V5_v.c 5 _ rfl
          have q5_v_6 : w5.cell? ⟨wc.heap.size + 1 + 1 + 1 + 1, 6, none⟩ = some (.int .i64 0) := V5_v.c 6 _ rfl
          have q5_v_7 : w5.cell? ⟨wc.heap.size + 1 + 1 + 1 + 1, 7, none⟩ = some (.int .i64 0) := V5_v.c 7 _ rfl
          have f5_v := V5_v.2.2; have L5_v := V5_v.lt; have N5_v := Nat.ne_of_gt L5_v; have M5_v := Nat.ne_of_lt L5_v
          have HV5_v := Lib.hid V5_v
          have S5 := G5.size; clear hb
          go_wp2_with fail
          go_roundg gf
          case measure => omega
          case rel => refine ⟨w5.heap.size, 1, by omega, by omega, rfl, by omega, ?_, ?_, ?_, ?_, ?_, ?_, by have G := G5; (repeat (with_reducible refine M.Below.drewN ?_ _)); go_grown⟩ <;> ((repeat (first | (with_reducible assumption) | (with_reducible apply M.var_setBd) | (with_reducible apply M.var_setI) | (with_reducible refine M.var_alloc' _ _ _ ?_; first | rfl | (focus (simp [go_sem]; done))) | (with_reducible refine M.Var.alloc ?_ _) | (with_reducible refine M.Var.drewN ?_ _) | (with_reducible refine M.Var.drew ?_) | (with_reducible refine M.Var.far ?_ _ _ ?hFar; case hFar => (first | omega | ((try simp [go_sem]) <;> omega))) | fail)))
      · rcases hP : contactX a b h with i | ⟨x1, x2⟩
        · skip
          have z1 := bne_iff_ne.2 (nz_contact _ _ _ i hP); have z1b := beq_eq_false_iff_ne.2 (nz_contact _ _ _ i hP)
          have K1 := Lib.hid (fun pb w hp => (refContact_x pb 0 a b h ha hB hh w hp).mono fun en w' h => M.relBB_err hP h)
          replace hP := Lib.hid hP
          have qc_o_0 : wc.cell? ⟨B, 0, none⟩ = some (.int .i64 1) := Vc_o.c 0 _ rfl
          have fc_o := Vc_o.2.2; have Lc_o := Vc_o.lt; have Nc_o := Nat.ne_of_gt Lc_o; have Mc_o := Nat.ne_of_lt Lc_o
          have qc_a_0 : wc.cell? ⟨w.heap.size, 0, none⟩ = some (.int .i64 a.shape) := Vc_a.c 0 _ rfl
          have qc_a_1 : wc.cell? ⟨w.heap.size, 1, none⟩ = some (.int .i64 a.sx) := Vc_a.c 1 _ rfl
          have qc_a_2 : wc.cell? ⟨w.heap.size, 2, none⟩ = some (.int .i64 a.sy) := Vc_a.c 2 _ rfl
          have qc_a_3 : wc.cell? ⟨w.heap.size, 3, none⟩ = some (.int .i64 a.mass) := Vc_a.c 3 _ rfl
          have qc_a_4 : wc.cell? ⟨w.heap.size, 4, none⟩ = some (.int .i64 a.px) := Vc_a.c 4 _ rfl
          have qc_a_5 : wc.cell? ⟨w.heap.size, 5, none⟩ = some (.int .i64 a.py) := Vc_a.c 5 _ rfl
          have qc_a_6 : wc.cell? ⟨w.heap.size, 6, none⟩ = some (.int .i64 a.mx) := Vc_a.c 6 _ rfl
          have qc_a_7 : wc.cell? ⟨w.heap.size, 7, none⟩ = some (.int .i64 a.my) := Vc_a.c 7 _ rfl
          have fc_a := Vc_a.2.2; have Lc_a := Vc_a.lt; have Nc_a := Nat.ne_of_gt Lc_a; have Mc_a := Nat.ne_of_lt Lc_a
          have qc_b_0 : wc.cell? ⟨w.heap.size + 1, 0, none⟩ = some (.int .i64 b.shape) := Vc_b.c 0 _ rfl
          have qc_b_1 : wc.cell? ⟨w.heap.size + 1, 1, none⟩ = some (.int .i64 b.sx) := Vc_b.c 1 _ rfl
          have qc_b_2 : wc.cell? ⟨w.heap.size + 1, 2, none⟩ = some (.int .i64 b.sy) := Vc_b.c 2 _ rfl
          have qc_b_3 : wc.cell? ⟨w.heap.size + 1, 3, none⟩ = some (.int .i64 b.mass) := Vc_b.c 3 _ rfl
          have qc_b_4 : wc.cell? ⟨w.heap.size + 1, 4, none⟩ = some (.int .i64 b.px) := Vc_b.c 4 _ rfl
          have qc_b_5 : wc.cell? ⟨w.heap.size + 1, 5, none⟩ = some (.int .i64 b.py) := Vc_b.c 5 _ rfl
          have qc_b_6 : wc.cell? ⟨w.heap.size + 1, 6, none⟩ = some (.int .i64 b.mx) := Vc_b.c 6 _ rfl
          have qc_b_7 : wc.cell? ⟨w.heap.size + 1, 7, none⟩ = some (.int .i64 b.my) := Vc_b.c 7 _ rfl
          have fc_b := Vc_b.2.2; have Lc_b := Vc_b.lt; have Nc_b := Nat.ne_of_gt Lc_b; have Mc_b := Nat.ne_of_lt Lc_b
          have qc_h_0 : wc.cell? ⟨w.heap.size + 1 + 1, 0, none⟩ = some (.int .i64 h.nx) := Vc_h.c 0 _ rfl
          have qc_h_1 : wc.cell? ⟨w.heap.size + 1 + 1, 1, none⟩ = some (.int .i64 h.ny) := Vc_h.c 1 _ rfl
          have qc_h_2 : wc.cell? ⟨w.heap.size + 1 + 1, 2, none⟩ = some (.int .i64 h.d) := Vc_h.c 2 _ rfl
          have fc_h := Vc_h.2.2; have Lc_h := Vc_h.lt; have Nc_h := Nat.ne_of_gt Lc_h; have Mc_h := Nat.ne_of_lt Lc_h
          have qc_l_0 : wc.cell? ⟨w.heap.size + 1 + 1 + 1, 0, none⟩ = some (.int .i64 l) := Vc_l.c 0 _ rfl
          have fc_l := Vc_l.2.2; have Lc_l := Vc_l.lt; have Nc_l := Nat.ne_of_gt Lc_l; have Mc_l := Nat.ne_of_lt Lc_l
          have qc_j_0 : wc.cell? ⟨w.heap.size + 1 + 1 + 1 + 1, 0, none⟩ = some (.int .i64 j1) := Vc_j.c 0 _ rfl
          have qc_j_1 : wc.cell? ⟨w.heap.size + 1 + 1 + 1 + 1, 1, none⟩ = some (.int .i64 j2) := Vc_j.c 1 _ rfl
          have fc_j := Vc_j.2.2; have Lc_j := Vc_j.lt; have Nc_j := Nat.ne_of_gt Lc_j; have Mc_j := Nat.ne_of_lt Lc_j
          go_wp2_with fail
          refine (try_c 30 #[.pointer (some ⟨B, 0, none⟩), .pointer (some ⟨w.heap.size, 0, none⟩), .pointer (some ⟨w.heap.size + 1, 0, none⟩), .pointer (some ⟨w.heap.size + 1 + 1 + 1 + 1, 0, none⟩), .pointer (some ⟨wc.heap.size + 1, 0, none⟩), .pointer (some ⟨wc.heap.size + 1 + 1, 0, none⟩), .pointer (some ⟨w.heap.size + 1 + 1, 0, none⟩), .pointer (some ⟨w.heap.size + 1 + 1 + 1, 0, none⟩)] _ (i) ([]) (fun _ => rfl) ?_ ?_).mono ?_
          · intro u hu; (try simp only [List.mem_append] at hu); (repeat' (obtain hu | hu := (hu : _ ∨ _))); all_goals (first | with_reducible rw [M.cell_block1 hu] | with_reducible rw [M.usBx_block hu] | with_reducible rw [M.usV_block hu] | with_reducible rw [M.usI_block hu] | with_reducible rw [M.usHt_block hu] | with_reducible rw [M.usBd_block hu] | with_reducible rw [M.usB_block hu] | rw [M.cell_block1 hu] | (exfalso; simp at hu; done)); all_goals ((try simp [go_sem]) <;> omega)
          · intro w1' hb; exact (cloT1 _ _ _ _ _ _ _ _ a ha b hB h hh _ _ _ _ _ _ _ _ _ _ _ _ _ _ _ _ (.error i) hP.out w1' (M.Var.mono (b := B) (cs := #[.int .i64 1]) (by (repeat (first | (with_reducible assumption) | (with_reducible apply M.var_set45) | (with_reducible refine M.var_alloc' _ _ _ ?_; first | rfl | (simp [go_sem]; done)) | (with_reducible refine M.Var.alloc ?_ _) | (with_reducible refine M.Var.drewN ?_ _) | (with_reducible refine M.Var.drew ?_) | (with_reducible refine M.Var.far ?_ _ _ ?hFar; case hFar => (first | omega | ((try simp [go_sem]) <;> omega))) | fail))) hb) (M.Var.mono (b := w.heap.size) (cs := #[.int .i64 a.shape, .int .i64 a.sx, .int .i64 a.sy, .int .i64 a.mass, .int .i64 a.px, .int .i64 a.py, .int .i64 a.mx, .int .i64 a.my]) (by (repeat (first | (with_reducible assumption) | (with_reducible apply M.var_set45) | (with_reducible refine M.var_alloc' _ _ _ ?_; first | rfl | (simp [go_sem]; done)) | (with_reducible refine M.Var.alloc ?_ _) | (with_reducible refine M.Var.drewN ?_ _) | (with_reducible refine M.Var.drew ?_) | (with_reducible refine M.Var.far ?_ _ _ ?hFar; case hFar => (first | omega | ((try simp [go_sem]) <;> omega))) | fail))) hb) (M.Var.mono (b := w.heap.size + 1) (cs := #[.int .i64 b.shape, .int .i64 b.sx, .int .i64 b.sy, .int .i64 b.mass, .int .i64 b.px, .int .i64 b.py, .int .i64 b.mx, .int .i64 b.my]) (by (repeat (first | (with_reducible assumption) | (with_reducible apply M.var_set45) | (with_reducible refine M.var_alloc' _ _ _ ?_; first | rfl | (simp [go_sem]; done)) | (with_reducible refine M.Var.alloc ?_ _) | (with_reducible refine M.Var.drewN ?_ _) | (with_reducible refine M.Var.drew ?_) | (with_reducible refine M.Var.far ?_ _ _ ?hFar; case hFar => (first | omega | ((try simp [go_sem]) <;> omega))) | fail))) hb) (M.Var.mono (b := w.heap.size + 1 + 1) (cs := #[.int .i64 h.nx, .int .i64 h.ny, .int .i64 h.d]) (by (repeat (first | (with_reducible assumption) | (with_reducible apply M.var_set45) | (with_reducible refine M.var_alloc' _ _ _ ?_; first | rfl | (simp [go_sem]; done)) | (with_reducible refine M.Var.alloc ?_ _) | (with_reducible refine M.Var.drewN ?_ _) | (with_reducible refine M.Var.drew ?_) | (with_reducible refine M.Var.far ?_ _ _ ?hFar; case hFar => (first | omega | ((try simp [go_sem]) <;> omega))) | fail))) hb) (M.Var.mono (b := wc.heap.size + 1) (cs := #[.int .i64 0, .int .i64 0, .int .i64 0, .int .i64 0, .int .i64 0, .int .i64 0, .int .i64 0, .int .i64 0]) (by (repeat (first | (with_reducible assumption) | (with_reducible apply M.var_set45) | (with_reducible refine M.var_alloc' _ _ _ ?_; first | rfl | (simp [go_sem]; done)) | (with_reducible refine M.Var.alloc ?_ _) | (with_reducible refine M.Var.drewN ?_ _) | (with_reducible refine M.Var.drew ?_) | (with_reducible refine M.Var.far ?_ _ _ ?hFar; case hFar => (first | omega | ((try simp [go_sem]) <;> omega))) | fail))) hb) (M.Var.mono (b := wc.heap.size + 1 + 1) (cs := #[.int .i64 0, .int .i64 0, .int .i64 0, .int .i64 0, .int .i64 0, .int .i64 0, .int .i64 0, .int .i64 0]) (by (repeat (first | (with_reducible assumption) | (with_reducible apply M.var_set45) | (with_reducible refine M.var_alloc' _ _ _ ?_; first | rfl | (simp [go_sem]; done)) | (with_reducible refine M.Var.alloc ?_ _) | (with_reducible refine M.Var.drewN ?_ _) | (with_reducible refine M.Var.drew ?_) | (with_reducible refine M.Var.far ?_ _ _ ?hFar; case hFar => (first | omega | ((try simp [go_sem]) <;> omega))) | fail))) hb) (by omega)).mono fun e w' h => h
          rintro en w6 ⟨rfl, hb⟩
          have G6 : Below w.heap.size w w6 := by refine Below.trans ?_ (hb.mono (by go_size)); exact M.below_sets_own _ (by have G := HGc.out; (repeat (with_reducible refine M.Below.drewN ?_ _)); go_grown) (by intro u hu; (try simp only [List.mem_append] at hu); (repeat' (obtain hu | hu := (hu : _ ∨ _))); all_goals (first | with_reducible rw [M.cell_block1 hu] | with_reducible rw [M.usBx_block hu] | with_reducible rw [M.usV_block hu] | with_reducible rw [M.usI_block hu] | with_reducible rw [M.usHt_block hu] | with_reducible rw [M.usBd_block hu] | with_reducible rw [M.usB_block hu] | rw [M.cell_block1 hu] | (exfalso; simp at hu; done)); all_goals ((try simp [go_sem]) <;> omega))
          have VV6 : M.Var w6 (w.heap.size) #[.int .i64 a.shape, .int .i64 a.sx, .int .i64 a.sy, .int .i64 a.mass, .int .i64 a.px, .int .i64 a.py, .int .i64 a.mx, .int .i64 a.my] ∧ M.Var w6 (w.heap.size + 1) #[.int .i64 b.shape, .int .i64 b.sx, .int .i64 b.sy, .int .i64 b.mass, .int .i64 b.px, .int .i64 b.py, .int .i64 b.mx, .int .i64 b.my] ∧ M.Var w6 (w.heap.size + 1 + 1) #[.int .i64 h.nx, .int .i64 h.ny, .int .i64 h.d] ∧ M.Var w6 (w.heap.size + 1 + 1 + 1) #[.int .i64 l] ∧ M.Var w6 (w.heap.size + 1 + 1 + 1 + 1) #[.int .i64 j1, .int .i64 j2] ∧ M.Var w6 (B) #[.int .i64 1] ∧ M.Var w6 (wc.heap.size) #[.int .i64 0] ∧ M.Var w6 (wc.heap.size + 1) #[.int .i64 0, .int .i64 0, .int .i64 0, .int .i64 0, .int .i64 0, .int .i64 0, .int .i64 0, .int .i64 0] ∧ M.Var w6 (wc.heap.size + 1 + 1) #[.int .i64 0, .int .i64 0, .int .i64 0, .int .i64 0, .int .i64 0, .int .i64 0, .int .i64 0, .int .i64 0] ∧ M.Var w6 (wc.heap.size + 1 + 1 + 1) #[.int .i64 0, .int .i64 0, .int .i64 0, .int .i64 0, .int .i64 0, .int .i64 0, .int .i64 0, .int .i64 0] ∧ M.Var w6 (wc.heap.size + 1 + 1 + 1 + 1) #[.int .i64 0, .int .i64 0, .int .i64 0, .int .i64 0, .int .i64 0, .int .i64 0, .int .i64 0, .int .i64 0] := by refine ⟨?_, ?_, ?_, ?_, ?_, ?_, ?_, ?_, ?_, ?_, ?_⟩ <;> (refine M.Var.mono' ?_ (M.sets_size _ _) hb; (try simp only [M.sets_append]); exact (M.var_sets_far _ (by (repeat (first | (with_reducible assumption) | (with_reducible apply M.var_set45) | (with_reducible refine M.var_alloc' _ _ _ ?_; first | rfl | (simp [go_sem]; done)) | (with_reducible refine M.Var.alloc ?_ _) | (with_reducible refine M.Var.drewN ?_ _) | (with_reducible refine M.Var.drew ?_) | (with_reducible refine M.Var.far ?_ _ _ ?hFar; case hFar => (first | omega | ((try simp [go_sem]) <;> omega))) | fail))) (by intro u hu; all_goals (first | with_reducible rw [M.cell_block1 hu] | with_reducible rw [M.usBx_block hu] | with_reducible rw [M.usV_block hu] | with_reducible rw [M.usI_block hu] | with_reducible rw [M.usHt_block hu] | with_reducible rw [M.usBd_block hu] | with_reducible rw [M.usB_block hu] | rw [M.cell_block1 hu] | (exfalso; simp at hu; done)); all_goals ((try simp [go_sem]) <;> omega))))
          obtain ⟨V6_a, V6_b, V6_h, V6_l, V6_j, V6_o, V6_c, V6_x, V6_y, V6_u, V6_v⟩ := VV6
          have q6_a_0 : w6.cell? ⟨w.heap.size, 0, none⟩ = some (.int .i64 a.shape) := V6_a.c 0 _ rfl
          have q6_a_1 : w6.cell? ⟨w.heap.size, 1, none⟩ = some (.int .i64 a.sx) := V6_a.c 1 _ rfl
          have q6_a_2 : w6.cell? ⟨w.heap.size, 2, none⟩ = some (.int .i64 a.sy) := V6_a.c 2 _ rfl
          have q6_a_3 : w6.cell? ⟨w.heap.size, 3, none⟩ = some (.int .i64 a.mass) := V6_a.c 3 _ rfl
          have q6_a_4 : w6.cell? ⟨w.heap.size, 4, none⟩ = some (.int .i64 a.px) := V6_a.c 4 _ rfl
          have q6_a_5 : w6.cell? ⟨w.heap.size, 5, none⟩ = some (.int .i64 a.py) := V6_a.c 5 _ rfl
          have q6_a_6 : w6.cell? ⟨w.heap.size, 6, none⟩ = some (.int .i64 a.mx) := V6_a.c 6 _ rfl
          have q6_a_7 : w6.cell? ⟨w.heap.size, 7, none⟩ = some (.int .i64 a.my) := V6_a.c 7 _ rfl
          have f6_a := V6_a.2.2; have L6_a := V6_a.lt; have N6_a := Nat.ne_of_gt L6_a; have M6_a := Nat.ne_of_lt L6_a
          have HV6_a := Lib.hid V6_a
          have q6_b_0 : w6.cell? ⟨w.heap.size + 1, 0, none⟩ = some (.int .i64 b.shape) := V6_b.c 0 _ rfl
          have q6_b_1 : w6.cell? ⟨w.heap.size + 1, 1, none⟩ = some (.int .i64 b.sx) := V6_b.c 1 _ rfl
          have q6_b_2 : w6.cell? ⟨w.heap.size + 1, 2, none⟩ = some (.int .i64 b.sy) := V6_b.c 2 _ rfl
          have q6_b_3 : w6.cell? ⟨w.heap.size + 1, 3, none⟩ = some (.int .i64 b.mass) := V6_b.c 3 _ rfl
          have q6_b_4 : w6.cell? ⟨w.heap.size + 1, 4, none⟩ = some (.int .i64 b.px) := V6_b.c 4 _ rfl
          have q6_b_5 : w6.cell? ⟨w.heap.size + 1, 5, none⟩ = some (.int .i64 b.py) := V6_b.c 5 _ rfl
          have q6_b_6 : w6.cell? ⟨w.heap.size + 1, 6, none⟩ = some (.int .i64 b.mx) := V6_b.c 6 _ rfl
          have q6_b_7 : w6.cell? ⟨w.heap.size + 1, 7, none⟩ = some (.int .i64 b.my) := V6_b.c 7 _ rfl
          have f6_b := V6_b.2.2; have L6_b := V6_b.lt; have N6_b := Nat.ne_of_gt L6_b; have M6_b := Nat.ne_of_lt L6_b
          have HV6_b := Lib.hid V6_b
          have q6_h_0 : w6.cell? ⟨w.heap.size + 1 + 1, 0, none⟩ = some (.int .i64 h.nx) := V6_h.c 0 _ rfl
          have q6_h_1 : w6.cell? ⟨w.heap.size + 1 + 1, 1, none⟩ = some (.int .i64 h.ny) := V6_h.c 1 _ rfl
          have q6_h_2 : w6.cell? ⟨w.heap.size + 1 + 1, 2, none⟩ = some (.int .i64 h.d) := V6_h.c 2 _ rfl
          have f6_h := V6_h.2.2; have L6_h := V6_h.lt; have N6_h := Nat.ne_of_gt L6_h; have M6_h := Nat.ne_of_lt L6_h
          have HV6_h := Lib.hid V6_h
          have q6_l_0 : w6.cell? ⟨w.heap.size + 1 + 1 + 1, 0, none⟩ = some (.int .i64 l) := V6_l.c 0 _ rfl
          have f6_l := V6_l.2.2; have L6_l := V6_l.lt; have N6_l := Nat.ne_of_gt L6_l; have M6_l := Nat.ne_of_lt L6_l
          have HV6_l := Lib.hid V6_l
          have q6_j_0 : w6.cell? ⟨w.heap.size + 1 + 1 + 1 + 1, 0, none⟩ = some (.int .i64 j1) := V6_j.c 0 _ rfl
          have q6_j_1 : w6.cell? ⟨w.heap.size + 1 + 1 + 1 + 1, 1, none⟩ = some (.int .i64 j2) := V6_j.c 1 _ rfl
          have f6_j := V6_j.2.2; have L6_j := V6_j.lt; have N6_j := Nat.ne_of_gt L6_j; have M6_j := Nat.ne_of_lt L6_j
          have HV6_j := Lib.hid V6_j
          have q6_o_0 : w6.cell? ⟨B, 0, none⟩ = some (.int .i64 1) := V6_o.c 0 _ rfl
          have f6_o := V6_o.2.2; have L6_o := V6_o.lt; have N6_o := Nat.ne_of_gt L6_o; have M6_o := Nat.ne_of_lt L6_o
          have HV6_o := Lib.hid V6_o
          have q6_c_0 : w6.cell? ⟨wc.heap.size, 0, none⟩ = some (.int .i64 0) := V6_c.c 0 _ rfl
          have f6_c := V6_c.2.2; have L6_c := V6_c.lt; have N6_c := Nat.ne_of_gt L6_c; have M6_c := Nat.ne_of_lt L6_c
          have HV6_c := Lib.hid V6_c
          have q6_x_0 : w6.cell? ⟨wc.heap.size + 1, 0, none⟩ = some (.int .i64 0) := V6_x.c 0 _ rfl
          have q6_x_1 : w6.cell? ⟨wc.heap.size + 1, 1, none⟩ = some (.int .i64 0) := V6_x.c 1 _ rfl
          have q6_x_2 : w6.cell? ⟨wc.heap.size + 1, 2, none⟩ = some (.int .i64 0) := V6_x.c 2 _ rfl
          have q6_x_3 : w6.cell? ⟨wc.heap.size + 1, 3, none⟩ = some (.int .i64 0) := V6_x.c 3 _ rfl
          have q6_x_4 : w6.cell? ⟨wc.heap.size + 1, 4, none⟩ = some (.int .i64 0) := V6_x.c 4 _ rfl
          have q6_x_5 : w6.cell? ⟨wc.heap.size + 1, 5, none⟩ = some (.int .i64 0) := V6_x.c 5 _ rfl
          have q6_x_6 : w6.cell? ⟨wc.heap.size + 1, 6, none⟩ = some (.int .i64 0) := V6_x.c 6 _ rfl
          have q6_x_7 : w6.cell? ⟨wc.heap.size + 1, 7, none⟩ = some (.int .i64 0) := V6_x.c 7 _ rfl
          have f6_x := V6_x.2.2; have L6_x := V6_x.lt; have N6_x := Nat.ne_of_gt L6_x; have M6_x := Nat.ne_of_lt L6_x
          have HV6_x := Lib.hid V6_x
          have q6_y_0 : w6.cell? ⟨wc.heap.size + 1 + 1, 0, none⟩ = some (.int .i64 0) := V6_y.c 0 _ rfl
          have q6_y_1 : w6.cell? ⟨wc.heap.size + 1 + 1, 1, none⟩ = some (.int .i64 0) := V6_y.c 1 _ rfl
          have q6_y_2 : w6.cell? ⟨wc.heap.size + 1 + 1, 2, none⟩ = some (.int .i64 0) := V6_y.c 2 _ rfl
          have q6_y_3 : w6.cell? ⟨wc.heap.size + 1 + 1, 3, none⟩ = some (.int .i64 0) := V6_y.c 3 _ rfl
          have q6_y_4 : w6.cell? ⟨wc.heap.size + 1 + 1, 4, none⟩ = some (.int .i64 0) := V6_y.c 4 _ rfl
          have q6_y_5 : w6.cell? ⟨wc.heap.size + 1 + 1, 5, none⟩ = some (.int .i64 0) := V6_y.c 5 _ rfl
          have q6_y_6 : w6.cell? ⟨wc.heap.size + 1 + 1, 6, none⟩ = some (.int .i64 0) := V6_y.c 6 _ rfl
          have q6_y_7 : w6.cell? ⟨wc.heap.size + 1 + 1, 7, none⟩ = some (.int .i64 0) := V6_y.c 7 _ rfl
          have f6_y := V6_y.2.2; have L6_y := V6_y.lt; have N6_y := Nat.ne_of_gt L6_y; have M6_y := Nat.ne_of_lt L6_y
          have HV6_y := Lib.hid V6_y
          have q6_u_0 : w6.cell? ⟨wc.heap.size + 1 + 1 + 1, 0, none⟩ = some (.int .i64 0) := V6_u.c 0 _ rfl
          have q6_u_1 : w6.cell? ⟨wc.heap.size + 1 + 1 + 1, 1, none⟩ = some (.int .i64 0) := V6_u.c 1 _ rfl
          have q6_u_2 : w6.cell? ⟨wc.heap.size + 1 + 1 + 1, 2, none⟩ = some (.int .i64 0) := V6_u.c 2 _ rfl
          have q6_u_3 : w6.cell? ⟨wc.heap.size + 1 + 1 + 1, 3, none⟩ = some (.int .i64 0) := V6_u.c 3 _ rfl
          have q6_u_4 : w6.cell? ⟨wc.heap.size + 1 + 1 + 1, 4, none⟩ = some (.int .i64 0) := V6_u.c 4 _ rfl
          have q6_u_5 : w6.cell? ⟨wc.heap.size + 1 + 1 + 1, 5, none⟩ = some (.int .i64 0) := V6_u.c 5 _ rfl
          have q6_u_6 : w6.cell? ⟨wc.heap.size + 1 + 1 + 1, 6, none⟩ = some (.int .i64 0) := V6_u.c 6 _ rfl
          have q6_u_7 : w6.cell? ⟨wc.heap.size + 1 + 1 + 1, 7, none⟩ = some (.int .i64 0) := V6_u.c 7 _ rfl
          have f6_u := V6_u.2.2; have L6_u := V6_u.lt; have N6_u := Nat.ne_of_gt L6_u; have M6_u := Nat.ne_of_lt L6_u
          have HV6_u := Lib.hid V6_u
          have q6_v_0 : w6.cell? ⟨wc.heap.size + 1 + 1 + 1 + 1, 0, none⟩ = some (.int .i64 0) := V6_v.c 0 _ rfl
          have q6_v_1 : w6.cell? ⟨wc.heap.size + 1 + 1 + 1 + 1, 1, none⟩ = some (.int .i64 0) := V6_v.c 1 _ rfl
          have q6_v_2 : w6.cell? ⟨wc.heap.size + 1 + 1 + 1 + 1, 2, none⟩ = some (.int .i64 0) := V6_v.c 2 _ rfl
          have q6_v_3 : w6.cell? ⟨wc.heap.size + 1 + 1 + 1 + 1, 3, none⟩ = some (.int .i64 0) := V6_v.c 3 _ rfl
          have q6_v_4 : w6.cell? ⟨wc.heap.size + 1 + 1 + 1 + 1, 4, none⟩ = some (.int .i64 0) := V6_v.c 4 _ rfl
          have q6_v_5 : w6.cell? ⟨wc.heap.size + 1 + 1 + 1 + 1, 5, none⟩ = some (.int .i64 0) := V6_v.c 5 _ rfl
          have q6_v_6 : w6.cell? ⟨wc.heap.size + 1 + 1 + 1 + 1, 6, none⟩ = some (.int .i64 0) := V6_v.c 6 _ rfl
          have q6_v_7 : w6.cell? ⟨wc.heap.size + 1 + 1 + 1 + 1, 7, none⟩ = some (.int .i64 0) := V6_v.c 7 _ rfl
          have f6_v := V6_v.2.2; have L6_v := V6_v.lt; have N6_v := Nat.ne_of_gt L6_v; have M6_v := Nat.ne_of_lt L6_v
          have HV6_v := Lib.hid V6_v
          have S6 := G6.size; clear hb
          go_wp2_with fail
          (with_reducible refine (K1.out _ _ (M.pcell_var (by (repeat (first | (with_reducible assumption) | (with_reducible apply M.var_set45) | (with_reducible refine M.var_alloc' _ _ _ ?_; first | rfl | (simp [go_sem]; done)) | (with_reducible refine M.Var.alloc ?_ _) | (with_reducible refine M.Var.drewN ?_ _) | (with_reducible refine M.Var.drew ?_) | (with_reducible refine M.Var.far ?_ _ _ ?hFar; case hFar => (first | omega | ((try simp [go_sem]) <;> omega))) | fail)) : M.Var _ (wc.heap.size) #[.int .i64 0]))).mono ?_); rintro en w7 ⟨⟨u1, u2, rfl⟩, hb⟩
          have G7 : Below w.heap.size w w7 := Below.trans (M.below_sets_own ([(⟨wc.heap.size, 0, none⟩, .int .i64 i)]) (by have G := HGc.out; (repeat (with_reducible refine M.Below.drewN ?_ _)); go_grown) (by intro u hu; rw [M.cell_block1 hu]; dsimp only; omega)) (hb.mono (by go_size))
          have VV7 : M.Var w7 (w.heap.size) #[.int .i64 a.shape, .int .i64 a.sx, .int .i64 a.sy, .int .i64 a.mass, .int .i64 a.px, .int .i64 a.py, .int .i64 a.mx, .int .i64 a.my] ∧ M.Var w7 (w.heap.size + 1) #[.int .i64 b.shape, .int .i64 b.sx, .int .i64 b.sy, .int .i64 b.mass, .int .i64 b.px, .int .i64 b.py, .int .i64 b.mx, .int .i64 b.my] ∧ M.Var w7 (w.heap.size + 1 + 1) #[.int .i64 h.nx, .int .i64 h.ny, .int .i64 h.d] ∧ M.Var w7 (w.heap.size + 1 + 1 + 1) #[.int .i64 l] ∧ M.Var w7 (w.heap.size + 1 + 1 + 1 + 1) #[.int .i64 j1, .int .i64 j2] ∧ M.Var w7 (B) #[.int .i64 1] ∧ M.Var w7 (wc.heap.size + 1) #[.int .i64 0, .int .i64 0, .int .i64 0, .int .i64 0, .int .i64 0, .int .i64 0, .int .i64 0, .int .i64 0] ∧ M.Var w7 (wc.heap.size + 1 + 1) #[.int .i64 0, .int .i64 0, .int .i64 0, .int .i64 0, .int .i64 0, .int .i64 0, .int .i64 0, .int .i64 0] ∧ M.Var w7 (wc.heap.size + 1 + 1 + 1) #[.int .i64 0, .int .i64 0, .int .i64 0, .int .i64 0, .int .i64 0, .int .i64 0, .int .i64 0, .int .i64 0] ∧ M.Var w7 (wc.heap.size + 1 + 1 + 1 + 1) #[.int .i64 0, .int .i64 0, .int .i64 0, .int .i64 0, .int .i64 0, .int .i64 0, .int .i64 0, .int .i64 0] := by refine ⟨?_, ?_, ?_, ?_, ?_, ?_, ?_, ?_, ?_, ?_⟩ <;> (refine M.Var.mono' (u := M.sets _ ([(⟨wc.heap.size, 0, none⟩, .int .i64 i)])) ?_ (M.sets_size _ _) hb; (try simp only [M.sets_append]); exact (M.var_sets_far _ (by (repeat (first | (with_reducible assumption) | (with_reducible apply M.var_set45) | (with_reducible refine M.var_alloc' _ _ _ ?_; first | rfl | (simp [go_sem]; done)) | (with_reducible refine M.Var.alloc ?_ _) | (with_reducible refine M.Var.drewN ?_ _) | (with_reducible refine M.Var.drew ?_) | (with_reducible refine M.Var.far ?_ _ _ ?hFar; case hFar => (first | omega | ((try simp [go_sem]) <;> omega))) | fail))) (by intro u hu; all_goals (first | with_reducible rw [M.cell_block1 hu] | with_reducible rw [M.usBx_block hu] | with_reducible rw [M.usV_block hu] | with_reducible rw [M.usI_block hu] | with_reducible rw [M.usHt_block hu] | with_reducible rw [M.usBd_block hu] | with_reducible rw [M.usB_block hu] | rw [M.cell_block1 hu] | (exfalso; simp at hu; done)); all_goals ((try simp [go_sem]) <;> omega))))
          obtain ⟨V7_a, V7_b, V7_h, V7_l, V7_j, V7_o, V7_x, V7_y, V7_u, V7_v⟩ := VV7
          have V7_c : M.Var w7 (wc.heap.size) #[.int .i64 i] := by refine M.Var.mono' (u := M.sets _ ([(⟨wc.heap.size, 0, none⟩, .int .i64 i)])) ?_ (M.sets_size _ _) hb; (try simp only [M.sets_append]); exact (M.var_setI (by (repeat (first | (with_reducible assumption) | (with_reducible apply M.var_set45) | (with_reducible refine M.var_alloc' _ _ _ ?_; first | rfl | (simp [go_sem]; done)) | (with_reducible refine M.Var.alloc ?_ _) | (with_reducible refine M.Var.drewN ?_ _) | (with_reducible refine M.Var.drew ?_) | (with_reducible refine M.Var.far ?_ _ _ ?hFar; case hFar => (first | omega | ((try simp [go_sem]) <;> omega))) | fail)) : M.Var _ (wc.heap.size) #[.int .i64 0]) _)
          have q7_a_0 : w7.cell? ⟨w.heap.size, 0, none⟩ = some (.int .i64 a.shape) := V7_a.c 0 _ rfl
          have q7_a_1 : w7.cell? ⟨w.heap.size, 1, none⟩ = some (.int .i64 a.sx) := V7_a.c 1 _ rfl
          have q7_a_2 : w7.cell? ⟨w.heap.size, 2, none⟩ = some (.int .i64 a.sy) := V7_a.c 2 _ rfl
          have q7_a_3 : w7.cell? ⟨w.heap.size, 3, none⟩ = some (.int .i64 a.mass) := V7_a.c 3 _ rfl
          have q7_a_4 : w7.cell? ⟨w.heap.size, 4, none⟩ = some (.int .i64 a.px) := V7_a.c 4 _ rfl
          have q7_a_5 : w7.cell? ⟨w.heap.size, 5, none⟩ = some (.int .i64 a.py) := V7_a.c 5 _ rfl
          have q7_a_6 : w7.cell? ⟨w.heap.size, 6, none⟩ = some (.int .i64 a.mx) := V7_a.c 6 _ rfl
          have q7_a_7 : w7.cell? ⟨w.heap.size, 7, none⟩ = some (.int .i64 a.my) := V7_a.c 7 _ rfl
          have f7_a := V7_a.2.2; have L7_a := V7_a.lt; have N7_a := Nat.ne_of_gt L7_a; have M7_a := Nat.ne_of_lt L7_a
          have HV7_a := Lib.hid V7_a
          have q7_b_0 : w7.cell? ⟨w.heap.size + 1, 0, none⟩ = some (.int .i64 b.shape) := V7_b.c 0 _ rfl
          have q7_b_1 : w7.cell? ⟨w.heap.size + 1, 1, none⟩ = some (.int .i64 b.sx) := V7_b.c 1 _ rfl
          have q7_b_2 : w7.cell? ⟨w.heap.size + 1, 2, none⟩ = some (.int .i64 b.sy) := V7_b.c 2 _ rfl
          have q7_b_3 : w7.cell? ⟨w.heap.size + 1, 3, none⟩ = some (.int .i64 b.mass) := V7_b.c 3 _ rfl
          have q7_b_4 : w7.cell? ⟨w.heap.size + 1, 4, none⟩ = some (.int .i64 b.px) := V7_b.c 4 _ rfl
          have q7_b_5 : w7.cell? ⟨w.heap.size + 1, 5, none⟩ = some (.int .i64 b.py) := V7_b.c 5 _ rfl
          have q7_b_6 : w7.cell? ⟨w.heap.size + 1, 6, none⟩ = some (.int .i64 b.mx) := V7_b.c 6 _ rfl
          have q7_b_7 : w7.cell? ⟨w.heap.size + 1, 7, none⟩ = some (.int .i64 b.my) := V7_b.c 7 _ rfl
          have f7_b := V7_b.2.2; have L7_b := V7_b.lt; have N7_b := Nat.ne_of_gt L7_b; have M7_b := Nat.ne_of_lt L7_b
          have HV7_b := Lib.hid V7_b
          have q7_h_0 : w7.cell? ⟨w.heap.size + 1 + 1, 0, none⟩ = some (.int .i64 h.nx) := V7_h.c 0 _ rfl
          have q7_h_1 : w7.cell? ⟨w.heap.size + 1 + 1, 1, none⟩ = some (.int .i64 h.ny) := V7_h.c 1 _ rfl
          have q7_h_2 : w7.cell? ⟨w.heap.size + 1 + 1, 2, none⟩ = some (.int .i64 h.d) := V7_h.c 2 _ rfl
          have f7_h := V7_h.2.2; have L7_h := V7_h.lt; have N7_h := Nat.ne_of_gt L7_h; have M7_h := Nat.ne_of_lt L7_h
          have HV7_h := Lib.hid V7_h
          have q7_l_0 : w7.cell? ⟨w.heap.size + 1 + 1 + 1, 0, none⟩ = some (.int .i64 l) := V7_l.c 0 _ rfl
          have f7_l := V7_l.2.2; have L7_l := V7_l.lt; have N7_l := Nat.ne_of_gt L7_l; have M7_l := Nat.ne_of_lt L7_l
          have HV7_l := Lib.hid V7_l
          have q7_j_0 : w7.cell? ⟨w.heap.size + 1 + 1 + 1 + 1, 0, none⟩ = some (.int .i64 j1) := V7_j.c 0 _ rfl
          have q7_j_1 : w7.cell? ⟨w.heap.size + 1 + 1 + 1 + 1, 1, none⟩ = some (.int .i64 j2) := V7_j.c 1 _ rfl
          have f7_j := V7_j.2.2; have L7_j := V7_j.lt; have N7_j := Nat.ne_of_gt L7_j; have M7_j := Nat.ne_of_lt L7_j
          have HV7_j := Lib.hid V7_j
          have q7_o_0 : w7.cell? ⟨B, 0, none⟩ = some (.int .i64 1) := V7_o.c 0 _ rfl
          have f7_o := V7_o.2.2; have L7_o := V7_o.lt; have N7_o := Nat.ne_of_gt L7_o; have M7_o := Nat.ne_of_lt L7_o
          have HV7_o := Lib.hid V7_o
          have q7_c_0 : w7.cell? ⟨wc.heap.size, 0, none⟩ = some (.int .i64 i) := V7_c.c 0 _ rfl
          have f7_c := V7_c.2.2; have L7_c := V7_c.lt; have N7_c := Nat.ne_of_gt L7_c; have M7_c := Nat.ne_of_lt L7_c
          have HV7_c := Lib.hid V7_c
          have q7_x_0 : w7.cell? ⟨wc.heap.size + 1, 0, none⟩ = some (.int .i64 0) := V7_x.c 0 _ rfl
          have q7_x_1 : w7.cell? ⟨wc.heap.size + 1, 1, none⟩ = some (.int .i64 0) := V7_x.c 1 _ rfl
          have q7_x_2 : w7.cell? ⟨wc.heap.size + 1, 2, none⟩ = some (.int .i64 0) := V7_x.c 2 _ rfl
          have q7_x_3 : w7.cell? ⟨wc.heap.size + 1, 3, none⟩ = some (.int .i64 0) := V7_x.c 3 _ rfl
          have q7_x_4 : w7.cell? ⟨wc.heap.size + 1, 4, none⟩ = some (.int .i64 0) := V7_x.c 4 _ rfl
          have q7_x_5 : w7.cell? ⟨wc.heap.size + 1, 5, none⟩ = some (.int .i64 0) := V7_x.c 5 _ rfl
          have q7_x_6 : w7.cell? ⟨wc.heap.size + 1, 6, none⟩ = some (.int .i64 0) := V7_x.c 6 _ rfl
          have q7_x_7 : w7.cell? ⟨wc.heap.size + 1, 7, none⟩ = some (.int .i64 0) := V7_x.c 7 _ rfl
          have f7_x := V7_x.2.2; have L7_x := V7_x.lt; have N7_x := Nat.ne_of_gt L7_x; have M7_x := Nat.ne_of_lt L7_x
          have HV7_x := Lib.hid V7_x
          have q7_y_0 : w7.cell? ⟨wc.heap.size + 1 + 1, 0, none⟩ = some (.int .i64 0) := V7_y.c 0 _ rfl
          have q7_y_1 : w7.cell? ⟨wc.heap.size + 1 + 1, 1, none⟩ = some (.int .i64 0) := V7_y.c 1 _ rfl
          have q7_y_2 : w7.cell? ⟨wc.heap.size + 1 + 1, 2, none⟩ = some (.int .i64 0) := V7_y.c 2 _ rfl
          have q7_y_3 : w7.cell? ⟨wc.heap.size + 1 + 1, 3, none⟩ = some (.int .i64 0) := V7_y.c 3 _ rfl
          have q7_y_4 : w7.cell? ⟨wc.heap.size + 1 + 1, 4, none⟩ = some (.int .i64 0) := V7_y.c 4 _ rfl
          have q7_y_5 : w7.cell? ⟨wc.heap.size + 1 + 1, 5, none⟩ = some (.int .i64 0) := V7_y.c 5 _ rfl
          have q7_y_6 : w7.cell? ⟨wc.heap.size + 1 + 1, 6, none⟩ = some (.int .i64 0) := V7_y.c 6 _ rfl
          have q7_y_7 : w7.cell? ⟨wc.heap.size + 1 + 1, 7, none⟩ = some (.int .i64 0) := V7_y.c 7 _ rfl
          have f7_y := V7_y.2.2; have L7_y := V7_y.lt; have N7_y := Nat.ne_of_gt L7_y; have M7_y := Nat.ne_of_lt L7_y
          have HV7_y := Lib.hid V7_y
          have q7_u_0 : w7.cell? ⟨wc.heap.size + 1 + 1 + 1, 0, none⟩ = some (.int .i64 0) := V7_u.c 0 _ rfl
          have q7_u_1 : w7.cell? ⟨wc.heap.size + 1 + 1 + 1, 1, none⟩ = some (.int .i64 0) := V7_u.c 1 _ rfl
          have q7_u_2 : w7.cell? ⟨wc.heap.size + 1 + 1 + 1, 2, none⟩ = some (.int .i64 0) := V7_u.c 2 _ rfl
          have q7_u_3 : w7.cell? ⟨wc.heap.size + 1 + 1 + 1, 3, none⟩ = some (.int .i64 0) := V7_u.c 3 _ rfl
          have q7_u_4 : w7.cell? ⟨wc.heap.size + 1 + 1 + 1, 4, none⟩ = some (.int .i64 0) := V7_u.c 4 _ rfl
          have q7_u_5 : w7.cell? ⟨wc.heap.size + 1 + 1 + 1, 5, none⟩ = some (.int .i64 0) := V7_u.c 5 _ rfl
          have q7_u_6 : w7.cell? ⟨wc.heap.size + 1 + 1 + 1, 6, none⟩ = some (.int .i64 0) := V7_u.c 6 _ rfl
          have q7_u_7 : w7.cell? ⟨wc.heap.size + 1 + 1 + 1, 7, none⟩ = some (.int .i64 0) := V7_u.c 7 _ rfl
          have f7_u := V7_u.2.2; have L7_u := V7_u.lt; have N7_u := Nat.ne_of_gt L7_u; have M7_u := Nat.ne_of_lt L7_u
          have HV7_u := Lib.hid V7_u
          have q7_v_0 : w7.cell? ⟨wc.heap.size + 1 + 1 + 1 + 1, 0, none⟩ = some (.int .i64 0) := V7_v.c 0 _ rfl
          have q7_v_1 : w7.cell? ⟨wc.heap.size + 1 + 1 + 1 + 1, 1, none⟩ = some (.int .i64 0) := V7_v.c 1 _ rfl
          have q7_v_2 : w7.cell? ⟨wc.heap.size + 1 + 1 + 1 + 1, 2, none⟩ = some (.int .i64 0) := V7_v.c 2 _ rfl
          have q7_v_3 : w7.cell? ⟨wc.heap.size + 1 + 1 + 1 + 1, 3, none⟩ = some (.int .i64 0) := V7_v.c 3 _ rfl
          have q7_v_4 : w7.cell? ⟨wc.heap.size + 1 + 1 + 1 + 1, 4, none⟩ = some (.int .i64 0) := V7_v.c 4 _ rfl
          have q7_v_5 : w7.cell? ⟨wc.heap.size + 1 + 1 + 1 + 1, 5, none⟩ = some (.int .i64 0) := V7_v.c 5 _ rfl
          have q7_v_6 : w7.cell? ⟨wc.heap.size + 1 + 1 + 1 + 1, 6, none⟩ = some (.int .i64 0) := V7_v.c 6 _ rfl
          have q7_v_7 : w7.cell? ⟨wc.heap.size + 1 + 1 + 1 + 1, 7, none⟩ = some (.int .i64 0) := V7_v.c 7 _ rfl
          have f7_v := V7_v.2.2; have L7_v := V7_v.lt; have N7_v := Nat.ne_of_gt L7_v; have M7_v := Nat.ne_of_lt L7_v
          have HV7_v := Lib.hid V7_v
          have S7 := G7.size; clear hb
          go_wp2_with fail
          go_roundg gf
          case measure => omega
          case rel => refine ⟨w7.heap.size, 2, by omega, by omega, rfl, by omega, ?_, ?_, ?_, ?_, ?_, ?_, by have G := G7; (repeat (with_reducible refine M.Below.drewN ?_ _)); go_grown⟩ <;> ((repeat (first | (with_reducible assumption) | (with_reducible apply M.var_setBd) | (with_reducible apply M.var_setI) | (with_reducible refine M.var_alloc' _ _ _ ?_; first | rfl | (focus (simp [go_sem]; done))) | (with_reducible refine M.Var.alloc ?_ _) | (with_reducible refine M.Var.drewN ?_ _) | (with_reducible refine M.Var.drew ?_) | (with_reducible refine M.Var.far ?_ _ _ ?hFar; case hFar => (first | omega | ((try simp [go_sem]) <;> omega))) | fail)))
        · skip
          have K1 := Lib.hid (fun pb w hp => (refContact_x pb 0 a b h ha hB hh w hp).mono fun en w' h => M.relBB_ok hP h)
          replace hP := Lib.hid hP
          have qc_o_0 : wc.cell? ⟨B, 0, none⟩ = some (.int .i64 1) := Vc_o.c 0 _ rfl
          have fc_o := Vc_o.2.2; have Lc_o := Vc_o.lt; have Nc_o := Nat.ne_of_gt Lc_o; have Mc_o := Nat.ne_of_lt Lc_o
          have qc_a_0 : wc.cell? ⟨w.heap.size, 0, none⟩ = some (.int .i64 a.shape) := Vc_a.c 0 _ rfl
          have qc_a_1 : wc.cell? ⟨w.heap.size, 1, none⟩ = some (.int .i64 a.sx) := Vc_a.c 1 _ rfl
          have qc_a_2 : wc.cell? ⟨w.heap.size, 2, none⟩ = some (.int .i64 a.sy) := Vc_a.c 2 _ rfl
          have qc_a_3 : wc.cell? ⟨w.heap.size, 3, none⟩ = some (.int .i64 a.mass) := Vc_a.c 3 _ rfl
          have qc_a_4 : wc.cell? ⟨w.heap.size, 4, none⟩ = some (.int .i64 a.px) := Vc_a.c 4 _ rfl
          have qc_a_5 : wc.cell? ⟨w.heap.size, 5, none⟩ = some (.int .i64 a.py) := Vc_a.c 5 _ rfl
          have qc_a_6 : wc.cell? ⟨w.heap.size, 6, none⟩ = some (.int .i64 a.mx) := Vc_a.c 6 _ rfl
          have qc_a_7 : wc.cell? ⟨w.heap.size, 7, none⟩ = some (.int .i64 a.my) := Vc_a.c 7 _ rfl
          have fc_a := Vc_a.2.2; have Lc_a := Vc_a.lt; have Nc_a := Nat.ne_of_gt Lc_a; have Mc_a := Nat.ne_of_lt Lc_a
          have qc_b_0 : wc.cell? ⟨w.heap.size + 1, 0, none⟩ = some (.int .i64 b.shape) := Vc_b.c 0 _ rfl
          have qc_b_1 : wc.cell? ⟨w.heap.size + 1, 1, none⟩ = some (.int .i64 b.sx) := Vc_b.c 1 _ rfl
          have qc_b_2 : wc.cell? ⟨w.heap.size + 1, 2, none⟩ = some (.int .i64 b.sy) := Vc_b.c 2 _ rfl
          have qc_b_3 : wc.cell? ⟨w.heap.size + 1, 3, none⟩ = some (.int .i64 b.mass) := Vc_b.c 3 _ rfl
          have qc_b_4 : wc.cell? ⟨w.heap.size + 1, 4, none⟩ = some (.int .i64 b.px) := Vc_b.c 4 _ rfl
          have qc_b_5 : wc.cell? ⟨w.heap.size + 1, 5, none⟩ = some (.int .i64 b.py) := Vc_b.c 5 _ rfl
          have qc_b_6 : wc.cell? ⟨w.heap.size + 1, 6, none⟩ = some (.int .i64 b.mx) := Vc_b.c 6 _ rfl
          have qc_b_7 : wc.cell? ⟨w.heap.size + 1, 7, none⟩ = some (.int .i64 b.my) := Vc_b.c 7 _ rfl
          have fc_b := Vc_b.2.2; have Lc_b := Vc_b.lt; have Nc_b := Nat.ne_of_gt Lc_b; have Mc_b := Nat.ne_of_lt Lc_b
          have qc_h_0 : wc.cell? ⟨w.heap.size + 1 + 1, 0, none⟩ = some (.int .i64 h.nx) := Vc_h.c 0 _ rfl
          have qc_h_1 : wc.cell? ⟨w.heap.size + 1 + 1, 1, none⟩ = some (.int .i64 h.ny) := Vc_h.c 1 _ rfl
          have qc_h_2 : wc.cell? ⟨w.heap.size + 1 + 1, 2, none⟩ = some (.int .i64 h.d) := Vc_h.c 2 _ rfl
          have fc_h := Vc_h.2.2; have Lc_h := Vc_h.lt; have Nc_h := Nat.ne_of_gt Lc_h; have Mc_h := Nat.ne_of_lt Lc_h
          have qc_l_0 : wc.cell? ⟨w.heap.size + 1 + 1 + 1, 0, none⟩ = some (.int .i64 l) := Vc_l.c 0 _ rfl
          have fc_l := Vc_l.2.2; have Lc_l := Vc_l.lt; have Nc_l := Nat.ne_of_gt Lc_l; have Mc_l := Nat.ne_of_lt Lc_l
          have qc_j_0 : wc.cell? ⟨w.heap.size + 1 + 1 + 1 + 1, 0, none⟩ = some (.int .i64 j1) := Vc_j.c 0 _ rfl
          have qc_j_1 : wc.cell? ⟨w.heap.size + 1 + 1 + 1 + 1, 1, none⟩ = some (.int .i64 j2) := Vc_j.c 1 _ rfl
          have fc_j := Vc_j.2.2; have Lc_j := Vc_j.lt; have Nc_j := Nat.ne_of_gt Lc_j; have Mc_j := Nat.ne_of_lt Lc_j
          go_wp2_with fail
          refine (try_c 30 #[.pointer (some ⟨B, 0, none⟩), .pointer (some ⟨w.heap.size, 0, none⟩), .pointer (some ⟨w.heap.size + 1, 0, none⟩), .pointer (some ⟨w.heap.size + 1 + 1 + 1 + 1, 0, none⟩), .pointer (some ⟨wc.heap.size + 1, 0, none⟩), .pointer (some ⟨wc.heap.size + 1 + 1, 0, none⟩), .pointer (some ⟨w.heap.size + 1 + 1, 0, none⟩), .pointer (some ⟨w.heap.size + 1 + 1 + 1, 0, none⟩)] _ (0) (usBd (wc.heap.size + 1) (.ok x1) ++ usBd (wc.heap.size + 1 + 1) (.ok x2)) (fun _ => rfl) ?_ ?_).mono ?_
          · intro u hu; (try simp only [List.mem_append] at hu); (repeat' (obtain hu | hu := (hu : _ ∨ _))); all_goals (first | with_reducible rw [M.cell_block1 hu] | with_reducible rw [M.usBx_block hu] | with_reducible rw [M.usV_block hu] | with_reducible rw [M.usI_block hu] | with_reducible rw [M.usHt_block hu] | with_reducible rw [M.usBd_block hu] | with_reducible rw [M.usB_block hu] | rw [M.cell_block1 hu] | (exfalso; simp at hu; done)); all_goals ((try simp [go_sem]) <;> omega)
          · intro w1' hb; exact (cloT1 _ _ _ _ _ _ _ _ a ha b hB h hh _ _ _ _ _ _ _ _ _ _ _ _ _ _ _ _ (.ok (x1, x2)) hP.out w1' (M.Var.mono (b := B) (cs := #[.int .i64 1]) (by (repeat (first | (with_reducible assumption) | (with_reducible apply M.var_set45) | (with_reducible refine M.var_alloc' _ _ _ ?_; first | rfl | (simp [go_sem]; done)) | (with_reducible refine M.Var.alloc ?_ _) | (with_reducible refine M.Var.drewN ?_ _) | (with_reducible refine M.Var.drew ?_) | (with_reducible refine M.Var.far ?_ _ _ ?hFar; case hFar => (first | omega | ((try simp [go_sem]) <;> omega))) | fail))) hb) (M.Var.mono (b := w.heap.size) (cs := #[.int .i64 a.shape, .int .i64 a.sx, .int .i64 a.sy, .int .i64 a.mass, .int .i64 a.px, .int .i64 a.py, .int .i64 a.mx, .int .i64 a.my]) (by (repeat (first | (with_reducible assumption) | (with_reducible apply M.var_set45) | (with_reducible refine M.var_alloc' _ _ _ ?_; first | rfl | (simp [go_sem]; done)) | (with_reducible refine M.Var.alloc ?_ _) | (with_reducible refine M.Var.drewN ?_ _) | (with_reducible refine M.Var.drew ?_) | (with_reducible refine M.Var.far ?_ _ _ ?hFar; case hFar => (first | omega | ((try simp [go_sem]) <;> omega))) | fail))) hb) (M.Var.mono (b := w.heap.size + 1) (cs := #[.int .i64 b.shape, .int .i64 b.sx, .int .i64 b.sy, .int .i64 b.mass, .int .i64 b.px, .int .i64 b.py, .int .i64 b.mx, .int .i64 b.my]) (by (repeat (first | (with_reducible assumption) | (with_reducible apply M.var_set45) | (with_reducible refine M.var_alloc' _ _ _ ?_; first | rfl | (simp [go_sem]; done)) | (with_reducible refine M.Var.alloc ?_ _) | (with_reducible refine M.Var.drewN ?_ _) | (with_reducible refine M.Var.drew ?_) | (with_reducible refine M.Var.far ?_ _ _ ?hFar; case hFar => (first | omega | ((try simp [go_sem]) <;> omega))) | fail))) hb) (M.Var.mono (b := w.heap.size + 1 + 1) (cs := #[.int .i64 h.nx, .int .i64 h.ny, .int .i64 h.d]) (by (repeat (first | (with_reducible assumption) | (with_reducible apply M.var_set45) | (with_reducible refine M.var_alloc' _ _ _ ?_; first | rfl | (simp [go_sem]; done)) | (with_reducible refine M.Var.alloc ?_ _) | (with_reducible refine M.Var.drewN ?_ _) | (with_reducible refine M.Var.drew ?_) | (with_reducible refine M.Var.far ?_ _ _ ?hFar; case hFar => (first | omega | ((try simp [go_sem]) <;> omega))) | fail))) hb) (M.Var.mono (b := wc.heap.size + 1) (cs := #[.int .i64 0, .int .i64 0, .int .i64 0, .int .i64 0, .int .i64 0, .int .i64 0, .int .i64 0, .int .i64 0]) (by (repeat (first | (with_reducible assumption) | (with_reducible apply M.var_set45) | (with_reducible refine M.var_alloc' _ _ _ ?_; first | rfl | (simp [go_sem]; done)) | (with_reducible refine M.Var.alloc ?_ _) | (with_reducible refine M.Var.drewN ?_ _) | (with_reducible refine M.Var.drew ?_) | (with_reducible refine M.Var.far ?_ _ _ ?hFar; case hFar => (first | omega | ((try simp [go_sem]) <;> omega))) | fail))) hb) (M.Var.mono (b := wc.heap.size + 1 + 1) (cs := #[.int .i64 0, .int .i64 0, .int .i64 0, .int .i64 0, .int .i64 0, .int .i64 0, .int .i64 0, .int .i64 0]) (by (repeat (first | (with_reducible assumption) | (with_reducible apply M.var_set45) | (with_reducible refine M.var_alloc' _ _ _ ?_; first | rfl | (simp [go_sem]; done)) | (with_reducible refine M.Var.alloc ?_ _) | (with_reducible refine M.Var.drewN ?_ _) | (with_reducible refine M.Var.drew ?_) | (with_reducible refine M.Var.far ?_ _ _ ?hFar; case hFar => (first | omega | ((try simp [go_sem]) <;> omega))) | fail))) hb) (by omega)).mono fun e w' h => h
          rintro en w8 ⟨rfl, hb⟩
          have G8 : Below w.heap.size w w8 := by refine Below.trans ?_ (hb.mono (by go_size)); exact M.below_sets_own _ (by have G := HGc.out; (repeat (with_reducible refine M.Below.drewN ?_ _)); go_grown) (by intro u hu; (try simp only [List.mem_append] at hu); (repeat' (obtain hu | hu := (hu : _ ∨ _))); all_goals (first | with_reducible rw [M.cell_block1 hu] | with_reducible rw [M.usBx_block hu] | with_reducible rw [M.usV_block hu] | with_reducible rw [M.usI_block hu] | with_reducible rw [M.usHt_block hu] | with_reducible rw [M.usBd_block hu] | with_reducible rw [M.usB_block hu] | rw [M.cell_block1 hu] | (exfalso; simp at hu; done)); all_goals ((try simp [go_sem]) <;> omega))
          have VV8 : M.Var w8 (w.heap.size) #[.int .i64 a.shape, .int .i64 a.sx, .int .i64 a.sy, .int .i64 a.mass, .int .i64 a.px, .int .i64 a.py, .int .i64 a.mx, .int .i64 a.my] ∧ M.Var w8 (w.heap.size + 1) #[.int .i64 b.shape, .int .i64 b.sx, .int .i64 b.sy, .int .i64 b.mass, .int .i64 b.px, .int .i64 b.py, .int .i64 b.mx, .int .i64 b.my] ∧ M.Var w8 (w.heap.size + 1 + 1) #[.int .i64 h.nx, .int .i64 h.ny, .int .i64 h.d] ∧ M.Var w8 (w.heap.size + 1 + 1 + 1) #[.int .i64 l] ∧ M.Var w8 (w.heap.size + 1 + 1 + 1 + 1) #[.int .i64 j1, .int .i64 j2] ∧ M.Var w8 (B) #[.int .i64 1] ∧ M.Var w8 (wc.heap.size) #[.int .i64 0] ∧ M.Var w8 (wc.heap.size + 1 + 1 + 1) #[.int .i64 0, .int .i64 0, .int .i64 0, .int .i64 0, .int .i64 0, .int .i64 0, .int .i64 0, .int .i64 0] ∧ M.Var w8 (wc.heap.size + 1 + 1 + 1 + 1) #[.int .i64 0, .int .i64 0, .int .i64 0, .int .i64 0, .int .i64 0, .int .i64 0, .int .i64 0, .int .i64 0] := by refine ⟨?_, ?_, ?_, ?_, ?_, ?_, ?_, ?_, ?_⟩ <;> (refine M.Var.mono' ?_ (M.sets_size _ _) hb; (try simp only [M.sets_append]); exact (M.var_sets_far _ (M.var_sets_far _ (by (repeat (first | (with_reducible assumption) | (with_reducible apply M.var_set45) | (with_reducible refine M.var_alloc' _ _ _ ?_; first | rfl | (simp [go_sem]; done)) | (with_reducible refine M.Var.alloc ?_ _) | (with_reducible refine M.Var.drewN ?_ _) | (with_reducible refine M.Var.drew ?_) | (with_reducible refine M.Var.far ?_ _ _ ?hFar; case hFar => (first | omega | ((try simp [go_sem]) <;> omega))) | fail))) (by intro u hu; all_goals (first | with_reducible rw [M.cell_block1 hu] | with_reducible rw [M.usBx_block hu] | with_reducible rw [M.usV_block hu] | with_reducible rw [M.usI_block hu] | with_reducible rw [M.usHt_block hu] | with_reducible rw [M.usBd_block hu] | with_reducible rw [M.usB_block hu] | rw [M.cell_block1 hu] | (exfalso; simp at hu; done)); all_goals ((try simp [go_sem]) <;> omega))) (by intro u hu; all_goals (first | with_reducible rw [M.cell_block1 hu] | with_reducible rw [M.usBx_block hu] | with_reducible rw [M.usV_block hu] | with_reducible rw [M.usI_block hu] | with_reducible rw [M.usHt_block hu] | with_reducible rw [M.usBd_block hu] | with_reducible rw [M.usB_block hu] | rw [M.cell_block1 hu] | (exfalso; simp at hu; done)); all_goals ((try simp [go_sem]) <;> omega))))
          obtain ⟨V8_a, V8_b, V8_h, V8_l, V8_j, V8_o, V8_c, V8_u, V8_v⟩ := VV8
          have V8_x : M.Var w8 (wc.heap.size + 1) #[.int .i64 x1.shape, .int .i64 x1.sx, .int .i64 x1.sy, .int .i64 x1.mass, .int .i64 x1.px, .int .i64 x1.py, .int .i64 x1.mx, .int .i64 x1.my] := by refine M.Var.mono' ?_ (M.sets_size _ _) hb; (try simp only [M.sets_append]); exact (M.var_sets_far _ (M.var_setBd (by (repeat (first | (with_reducible assumption) | (with_reducible apply M.var_set45) | (with_reducible refine M.var_alloc' _ _ _ ?_; first | rfl | (simp [go_sem]; done)) | (with_reducible refine M.Var.alloc ?_ _) | (with_reducible refine M.Var.drewN ?_ _) | (with_reducible refine M.Var.drew ?_) | (with_reducible refine M.Var.far ?_ _ _ ?hFar; case hFar => (first | omega | ((try simp [go_sem]) <;> omega))) | fail)) : M.Var _ (wc.heap.size + 1) #[.int .i64 0, .int .i64 0, .int .i64 0, .int .i64 0, .int .i64 0, .int .i64 0, .int .i64 0, .int .i64 0]) _ _ _ _ _ _ _ _) (by intro u hu; all_goals (first | with_reducible rw [M.cell_block1 hu] | with_reducible rw [M.usBx_block hu] | with_reducible rw [M.usV_block hu] | with_reducible rw [M.usI_block hu] | with_reducible rw [M.usHt_block hu] | with_reducible rw [M.usBd_block hu] | with_reducible rw [M.usB_block hu] | rw [M.cell_block1 hu] | (exfalso; simp at hu; done)); all_goals ((try simp [go_sem]) <;> omega)))
          have V8_y : M.Var w8 (wc.heap.size + 1 + 1) #[.int .i64 x2.shape, .int .i64 x2.sx, .int .i64 x2.sy, .int .i64 x2.mass, .int .i64 x2.px, .int .i64 x2.py, .int .i64 x2.mx, .int .i64 x2.my] := by refine M.Var.mono' ?_ (M.sets_size _ _) hb; (try simp only [M.sets_append]); exact (M.var_setBd (M.var_sets_far _ (by (repeat (first | (with_reducible assumption) | (with_reducible apply M.var_set45) | (with_reducible refine M.var_alloc' _ _ _ ?_; first | rfl | (simp [go_sem]; done)) | (with_reducible refine M.Var.alloc ?_ _) | (with_reducible refine M.Var.drewN ?_ _) | (with_reducible refine M.Var.drew ?_) | (with_reducible refine M.Var.far ?_ _ _ ?hFar; case hFar => (first | omega | ((try simp [go_sem]) <;> omega))) | fail)) : M.Var _ (wc.heap.size + 1 + 1) #[.int .i64 0, .int .i64 0, .int .i64 0, .int .i64 0, .int .i64 0, .int .i64 0, .int .i64 0, .int .i64 0]) (by intro u hu; all_goals (first | with_reducible rw [M.cell_block1 hu] | with_reducible rw [M.usBx_block hu] | with_reducible rw [M.usV_block hu] | with_reducible rw [M.usI_block hu] | with_reducible rw [M.usHt_block hu] | with_reducible rw [M.usBd_block hu] | with_reducible rw [M.usB_block hu] | rw [M.cell_block1 hu] | (exfalso; simp at hu; done)); all_goals ((try simp [go_sem]) <;> omega))) _ _ _ _ _ _ _ _)
          have q8_a_0 : w8.cell? ⟨w.heap.size, 0, none⟩ = some (.int .i64 a.shape) := V8_a.c 0 _ rfl
          have q8_a_1 : w8.cell? ⟨w.heap.size, 1, none⟩ = some (.int .i64 a.sx) := V8_a.c 1 _ rfl
          have q8_a_2 : w8.cell? ⟨w.heap.size, 2, none⟩ = some (.int .i64 a.sy) := V8_a.c 2 _ rfl
          have q8_a_3 : w8.cell? ⟨w.heap.size, 3, none⟩ = some (.int .i64 a.mass) := V8_a.c 3 _ rfl
          have q8_a_4 : w8.cell? ⟨w.heap.size, 4, none⟩ = some (.int .i64 a.px) := V8_a.c 4 _ rfl
          have q8_a_5 : w8.cell? ⟨w.heap.size, 5, none⟩ = some (.int .i64 a.py) := V8_a.c 5 _ rfl
          have q8_a_6 : w8.cell? ⟨w.heap.size, 6, none⟩ = some (.int .i64 a.mx) := V8_a.c 6 _ rfl
          have q8_a_7 : w8.cell? ⟨w.heap.size, 7, none⟩ = some (.int .i64 a.my) := V8_a.c 7 _ rfl
          have f8_a := V8_a.2.2; have L8_a := V8_a.lt; have N8_a := Nat.ne_of_gt L8_a; have M8_a := Nat.ne_of_lt L8_a
          have HV8_a := Lib.hid V8_a
          have q8_b_0 : w8.cell? ⟨w.heap.size + 1, 0, none⟩ = some (.int .i64 b.shape) := V8_b.c 0 _ rfl
          have q8_b_1 : w8.cell? ⟨w.heap.size + 1, 1, none⟩ = some (.int .i64 b.sx) := V8_b.c 1 _ rfl
          have q8_b_2 : w8.cell? ⟨w.heap.size + 1, 2, none⟩ = some (.int .i64 b.sy) := V8_b.c 2 _ rfl
          have q8_b_3 : w8.cell? ⟨w.heap.size + 1, 3, none⟩ = some (.int .i64 b.mass) := V8_b.c 3 _ rfl
          have q8_b_4 : w8.cell? ⟨w.heap.size + 1, 4, none⟩ = some (.int .i64 b.px) := V8_b.c 4 _ rfl
          have q8_b_5 : w8.cell? ⟨w.heap.size + 1, 5, none⟩ = some (.int .i64 b.py) := V8_b.c 5 _ rfl
          have q8_b_6 : w8.cell? ⟨w.heap.size + 1, 6, none⟩ = some (.int .i64 b.mx) := V8_b.c 6 _ rfl
          have q8_b_7 : w8.cell? ⟨w.heap.size + 1, 7, none⟩ = some (.int .i64 b.my) := V8_b.c 7 _ rfl
          have f8_b := V8_b.2.2; have L8_b := V8_b.lt; have N8_b := Nat.ne_of_gt L8_b; have M8_b := Nat.ne_of_lt L8_b
          have HV8_b := Lib.hid V8_b
          have q8_h_0 : w8.cell? ⟨w.heap.size + 1 + 1, 0, none⟩ = some (.int .i64 h.nx) := V8_h.c 0 _ rfl
          have q8_h_1 : w8.cell? ⟨w.heap.size + 1 + 1, 1, none⟩ = some (.int .i64 h.ny) := V8_h.c 1 _ rfl
          have q8_h_2 : w8.cell? ⟨w.heap.size + 1 + 1, 2, none⟩ = some (.int .i64 h.d) := V8_h.c 2 _ rfl
          have f8_h := V8_h.2.2; have L8_h := V8_h.lt; have N8_h := Nat.ne_of_gt L8_h; have M8_h := Nat.ne_of_lt L8_h
          have HV8_h := Lib.hid V8_h
          have q8_l_0 : w8.cell? ⟨w.heap.size + 1 + 1 + 1, 0, none⟩ = some (.int .i64 l) := V8_l.c 0 _ rfl
          have f8_l := V8_l.2.2; have L8_l := V8_l.lt; have N8_l := Nat.ne_of_gt L8_l; have M8_l := Nat.ne_of_lt L8_l
          have HV8_l := Lib.hid V8_l
          have q8_j_0 : w8.cell? ⟨w.heap.size + 1 + 1 + 1 + 1, 0, none⟩ = some (.int .i64 j1) := V8_j.c 0 _ rfl
          have q8_j_1 : w8.cell? ⟨w.heap.size + 1 + 1 + 1 + 1, 1, none⟩ = some (.int .i64 j2) := V8_j.c 1 _ rfl
          have f8_j := V8_j.2.2; have L8_j := V8_j.lt; have N8_j := Nat.ne_of_gt L8_j; have M8_j := Nat.ne_of_lt L8_j
          have HV8_j := Lib.hid V8_j
          have q8_o_0 : w8.cell? ⟨B, 0, none⟩ = some (.int .i64 1) := V8_o.c 0 _ rfl
          have f8_o := V8_o.2.2; have L8_o := V8_o.lt; have N8_o := Nat.ne_of_gt L8_o; have M8_o := Nat.ne_of_lt L8_o
          have HV8_o := Lib.hid V8_o
          have q8_c_0 : w8.cell? ⟨wc.heap.size, 0, none⟩ = some (.int .i64 0) := V8_c.c 0 _ rfl
          have f8_c := V8_c.2.2; have L8_c := V8_c.lt; have N8_c := Nat.ne_of_gt L8_c; have M8_c := Nat.ne_of_lt L8_c
          have HV8_c := Lib.hid V8_c
          have q8_x_0 : w8.cell? ⟨wc.heap.size + 1, 0, none⟩ = some (.int .i64 x1.shape) := V8_x.c 0 _ rfl
          have q8_x_1 : w8.cell? ⟨wc.heap.size + 1, 1, none⟩ = some (.int .i64 x1.sx) := V8_x.c 1 _ rfl
          have q8_x_2 : w8.cell? ⟨wc.heap.size + 1, 2, none⟩ = some (.int .i64 x1.sy) := V8_x.c 2 _ rfl
          have q8_x_3 : w8.cell? ⟨wc.heap.size + 1, 3, none⟩ = some (.int .i64 x1.mass) := V8_x.c 3 _ rfl
          have q8_x_4 : w8.cell? ⟨wc.heap.size + 1, 4, none⟩ = some (.int .i64 x1.px) := V8_x.c 4 _ rfl
          have q8_x_5 : w8.cell? ⟨wc.heap.size + 1, 5, none⟩ = some (.int .i64 x1.py) := V8_x.c 5 _ rfl
          have q8_x_6 : w8.cell? ⟨wc.heap.size + 1, 6, none⟩ = some (.int .i64 x1.mx) := V8_x.c 6 _ rfl
          have q8_x_7 : w8.cell? ⟨wc.heap.size + 1, 7, none⟩ = some (.int .i64 x1.my) := V8_x.c 7 _ rfl
          have f8_x := V8_x.2.2; have L8_x := V8_x.lt; have N8_x := Nat.ne_of_gt L8_x; have M8_x := Nat.ne_of_lt L8_x
          have HV8_x := Lib.hid V8_x
          have q8_y_0 : w8.cell? ⟨wc.heap.size + 1 + 1, 0, none⟩ = some (.int .i64 x2.shape) := V8_y.c 0 _ rfl
          have q8_y_1 : w8.cell? ⟨wc.heap.size + 1 + 1, 1, none⟩ = some (.int .i64 x2.sx) := V8_y.c 1 _ rfl
          have q8_y_2 : w8.cell? ⟨wc.heap.size + 1 + 1, 2, none⟩ = some (.int .i64 x2.sy) := V8_y.c 2 _ rfl
          have q8_y_3 : w8.cell? ⟨wc.heap.size + 1 + 1, 3, none⟩ = some (.int .i64 x2.mass) := V8_y.c 3 _ rfl
          have q8_y_4 : w8.cell? ⟨wc.heap.size + 1 + 1, 4, none⟩ = some (.int .i64 x2.px) := V8_y.c 4 _ rfl
          have q8_y_5 : w8.cell? ⟨wc.heap.size + 1 + 1, 5, none⟩ = some (.int .i64 x2.py) := V8_y.c 5 _ rfl
          have q8_y_6 : w8.cell? ⟨wc.heap.size + 1 + 1, 6, none⟩ = some (.int .i64 x2.mx) := V8_y.c 6 _ rfl
          have q8_y_7 : w8.cell? ⟨wc.heap.size + 1 + 1, 7, none⟩ = some (.int .i64 x2.my) := V8_y.c 7 _ rfl
          have f8_y := V8_y.2.2; have L8_y := V8_y.lt; have N8_y := Nat.ne_of_gt L8_y; have M8_y := Nat.ne_of_lt L8_y
          have HV8_y := Lib.hid V8_y
          have q8_u_0 : w8.cell? ⟨wc.heap.size + 1 + 1 + 1, 0, none⟩ = some (.int .i64 0) := V8_u.c 0 _ rfl
          have q8_u_1 : w8.cell? ⟨wc.heap.size + 1 + 1 + 1, 1, none⟩ = some (.int .i64 0) := V8_u.c 1 _ rfl
          have q8_u_2 : w8.cell? ⟨wc.heap.size + 1 + 1 + 1, 2, none⟩ = some (.int .i64 0) := V8_u.c 2 _ rfl
          have q8_u_3 : w8.cell? ⟨wc.heap.size + 1 + 1 + 1, 3, none⟩ = some (.int .i64 0) := V8_u.c 3 _ rfl
          have q8_u_4 : w8.cell? ⟨wc.heap.size + 1 + 1 + 1, 4, none⟩ = some (.int .i64 0) := V8_u.c 4 _ rfl
          have q8_u_5 : w8.cell? ⟨wc.heap.size + 1 + 1 + 1, 5, none⟩ = some (.int .i64 0) := V8_u.c 5 _ rfl
          have q8_u_6 : w8.cell? ⟨wc.heap.size + 1 + 1 + 1, 6, none⟩ = some (.int .i64 0) := V8_u.c 6 _ rfl
          have q8_u_7 : w8.cell? ⟨wc.heap.size + 1 + 1 + 1, 7, none⟩ = some (.int .i64 0) := V8_u.c 7 _ rfl
          have f8_u := V8_u.2.2; have L8_u := V8_u.lt; have N8_u := Nat.ne_of_gt L8_u; have M8_u := Nat.ne_of_lt L8_u
          have HV8_u := Lib.hid V8_u
          have q8_v_0 : w8.cell? ⟨wc.heap.size + 1 + 1 + 1 + 1, 0, none⟩ = some (.int .i64 0) := V8_v.c 0 _ rfl
          have q8_v_1 : w8.cell? ⟨wc.heap.size + 1 + 1 + 1 + 1, 1, none⟩ = some (.int .i64 0) := V8_v.c 1 _ rfl
          have q8_v_2 : w8.cell? ⟨wc.heap.size + 1 + 1 + 1 + 1, 2, none⟩ = some (.int .i64 0) := V8_v.c 2 _ rfl
          have q8_v_3 : w8.cell? ⟨wc.heap.size + 1 + 1 + 1 + 1, 3, none⟩ = some (.int .i64 0) := V8_v.c 3 _ rfl
          have q8_v_4 : w8.cell? ⟨wc.heap.size + 1 + 1 + 1 + 1, 4, none⟩ = some (.int .i64 0) := V8_v.c 4 _ rfl
          have q8_v_5 : w8.cell? ⟨wc.heap.size + 1 + 1 + 1 + 1, 5, none⟩ = some (.int .i64 0) := V8_v.c 5 _ rfl
          have q8_v_6 : w8.cell? ⟨wc.heap.size + 1 + 1 + 1 + 1, 6, none⟩ = some (.int .i64 0) := V8_v.c 6 _ rfl
          have q8_v_7 : w8.cell? ⟨wc.heap.size + 1 + 1 + 1 + 1, 7, none⟩ = some (.int .i64 0) := V8_v.c 7 _ rfl
          have f8_v := V8_v.2.2; have L8_v := V8_v.lt; have N8_v := Nat.ne_of_gt L8_v; have M8_v := Nat.ne_of_lt L8_v
          have HV8_v := Lib.hid V8_v
          have S8 := G8.size; clear hb
          go_wp2_with fail
          (with_reducible refine (K1.out _ _ (M.pcell_var (by (repeat (first | (with_reducible assumption) | (with_reducible apply M.var_set45) | (with_reducible refine M.var_alloc' _ _ _ ?_; first | rfl | (simp [go_sem]; done)) | (with_reducible refine M.Var.alloc ?_ _) | (with_reducible refine M.Var.drewN ?_ _) | (with_reducible refine M.Var.drew ?_) | (with_reducible refine M.Var.far ?_ _ _ ?hFar; case hFar => (first | omega | ((try simp [go_sem]) <;> omega))) | fail)) : M.Var _ (wc.heap.size) #[.int .i64 0]))).mono ?_); rintro en w9 ⟨rfl, hb⟩
          have G9 : Below w.heap.size w w9 := Below.trans (M.below_sets_own ([(⟨wc.heap.size, 0, none⟩, .int .i64 0)]) (by have G := HGc.out; (repeat (with_reducible refine M.Below.drewN ?_ _)); go_grown) (by intro u hu; rw [M.cell_block1 hu]; dsimp only; omega)) (hb.mono (by go_size))
          have VV9 : M.Var w9 (w.heap.size) #[.int .i64 a.shape, .int .i64 a.sx, .int .i64 a.sy, .int .i64 a.mass, .int .i64 a.px, .int .i64 a.py, .int .i64 a.mx, .int .i64 a.my] ∧ M.Var w9 (w.heap.size + 1) #[.int .i64 b.shape, .int .i64 b.sx, .int .i64 b.sy, .int .i64 b.mass, .int .i64 b.px, .int .i64 b.py, .int .i64 b.mx, .int .i64 b.my] ∧ M.Var w9 (w.heap.size + 1 + 1) #[.int .i64 h.nx, .int .i64 h.ny, .int .i64 h.d] ∧ M.Var w9 (w.heap.size + 1 + 1 + 1) #[.int .i64 l] ∧ M.Var w9 (w.heap.size + 1 + 1 + 1 + 1) #[.int .i64 j1, .int .i64 j2] ∧ M.Var w9 (B) #[.int .i64 1] ∧ M.Var w9 (wc.heap.size + 1) #[.int .i64 x1.shape, .int .i64 x1.sx, .int .i64 x1.sy, .int .i64 x1.mass, .int .i64 x1.px, .int .i64 x1.py, .int .i64 x1.mx, .int .i64 x1.my] ∧ M.Var w9 (wc.heap.size + 1 + 1) #[.int .i64 x2.shape, .int .i64 x2.sx, .int .i64 x2.sy, .int .i64 x2.mass, .int .i64 x2.px, .int .i64 x2.py, .int .i64 x2.mx, .int .i64 x2.my] ∧ M.Var w9 (wc.heap.size + 1 + 1 + 1) #[.int .i64 0, .int .i64 0, .int .i64 0, .int .i64 0, .int .i64 0, .int .i64 0, .int .i64 0, .int .i64 0] ∧ M.Var w9 (wc.heap.size + 1 + 1 + 1 + 1) #[.int .i64 0, .int .i64 0, .int .i64 0, .int .i64 0, .int .i64 0, .int .i64 0, .int .i64 0, .int .i64 0] := by refine ⟨?_, ?_, ?_, ?_, ?_, ?_, ?_, ?_, ?_, ?_⟩ <;> (refine M.Var.mono' (u := M.sets _ ([(⟨wc.heap.size, 0, none⟩, .int .i64 0)])) ?_ (M.sets_size _ _) hb; (try simp only [M.sets_append]); exact (M.var_sets_far _ (by (repeat (first | (with_reducible assumption) | (with_reducible apply M.var_set45) | (with_reducible refine M.var_alloc' _ _ _ ?_; first | rfl | (simp [go_sem]; done)) | (with_reducible refine M.Var.alloc ?_ _) | (with_reducible refine M.Var.drewN ?_ _) | (with_reducible refine M.Var.drew ?_) | (with_reducible refine M.Var.far ?_ _ _ ?hFar; case hFar => (first | omega | ((try simp [go_sem]) <;> omega))) | fail))) (by intro u hu; all_goals (first | with_reducible rw [M.cell_block1 hu] | with_reducible rw [M.usBx_block hu] | with_reducible rw [M.usV_block hu] | with_reducible rw [M.usI_block hu] | with_reducible rw [M.usHt_block hu] | with_reducible rw [M.usBd_block hu] | with_reducible rw [M.usB_block hu] | rw [M.cell_block1 hu] | (exfalso; simp at hu; done)); all_goals ((try simp [go_sem]) <;> omega))))
          obtain ⟨V9_a, V9_b, V9_h, V9_l, V9_j, V9_o, V9_x, V9_y, V9_u, V9_v⟩ := VV9
          have V9_c : M.Var w9 (wc.heap.size) #[.int .i64 0] := by refine M.Var.mono' (u := M.sets _ ([(⟨wc.heap.size, 0, none⟩, .int .i64 0)])) ?_ (M.sets_size _ _) hb; (try simp only [M.sets_append]); exact (M.var_setI (by (repeat (first | (with_reducible assumption) | (with_reducible apply M.var_set45) | (with_reducible refine M.var_alloc' _ _ _ ?_; first | rfl | (simp [go_sem]; done)) | (with_reducible refine M.Var.alloc ?_ _) | (with_reducible refine M.Var.drewN ?_ _) | (with_reducible refine M.Var.drew ?_) | (with_reducible refine M.Var.far ?_ _ _ ?hFar; case hFar => (first | omega | ((try simp [go_sem]) <;> omega))) | fail)) : M.Var _ (wc.heap.size) #[.int .i64 0]) _)
          have q9_a_0 : w9.cell? ⟨w.heap.size, 0, none⟩ = some (.int .i64 a.shape) := V9_a.c 0 _ rfl
          have q9_a_1 : w9.cell? ⟨w.heap.size, 1, none⟩ = some (.int .i64 a.sx) := V9_a.c 1 _ rfl
          have q9_a_2 : w9.cell? ⟨w.heap.size, 2, none⟩ = some (.int .i64 a.sy) := V9_a.c 2 _ rfl
          have q9_a_3 : w9.cell? ⟨w.heap.size, 3, none⟩ = some (.int .i64 a.mass) := V9_a.c 3 _ rfl
          have q9_a_4 : w9.cell? ⟨w.heap.size, 4, none⟩ = some (.int .i64 a.px) := V9_a.c 4 _ rfl
          have q9_a_5 : w9.cell? ⟨w.heap.size, 5, none⟩ = some (.int .i64 a.py) := V9_a.c 5 _ rfl
          have q9_a_6 : w9.cell? ⟨w.heap.size, 6, none⟩ = some (.int .i64 a.mx) := V9_a.c 6 _ rfl
          have q9_a_7 : w9.cell? ⟨w.heap.size, 7, none⟩ = some (.int .i64 a.my) := V9_a.c 7 _ rfl
          have f9_a := V9_a.2.2; have L9_a := V9_a.lt; have N9_a := Nat.ne_of_gt L9_a; have M9_a := Nat.ne_of_lt L9_a
          have HV9_a := Lib.hid V9_a
          have q9_b_0 : w9.cell? ⟨w.heap.size + 1, 0, none⟩ = some (.int .i64 b.shape) := V9_b.c 0 _ rfl
          have q9_b_1 : w9.cell? ⟨w.heap.size + 1, 1, none⟩ = some (.int .i64 b.sx) := V9_b.c 1 _ rfl
          have q9_b_2 : w9.cell? ⟨w.heap.size + 1, 2, none⟩ = some (.int .i64 b.sy) := V9_b.c 2 _ rfl
          have q9_b_3 : w9.cell? ⟨w.heap.size + 1, 3, none⟩ = some (.int .i64 b.mass) := V9_b.c 3 _ rfl
          have q9_b_4 : w9.cell? ⟨w.heap.size + 1, 4, none⟩ = some (.int .i64 b.px) := V9_b.c 4 _ rfl
          have q9_b_5 : w9.cell? ⟨w.heap.size + 1, 5, none⟩ = some (.int .i64 b.py) := V9_b.c 5 _ rfl
          have q9_b_6 : w9.cell? ⟨w.heap.size + 1, 6, none⟩ = some (.int .i64 b.mx) := V9_b.c 6 _ rfl
          have q9_b_7 : w9.cell? ⟨w.heap.size + 1, 7, none⟩ = some (.int .i64 b.my) := V9_b.c 7 _ rfl
          have f9_b := V9_b.2.2; have L9_b := V9_b.lt; have N9_b := Nat.ne_of_gt L9_b; have M9_b := Nat.ne_of_lt L9_b
          have HV9_b := Lib.hid V9_b
          have q9_h_0 : w9.cell? ⟨w.heap.size + 1 + 1, 0, none⟩ = some (.int .i64 h.nx) := V9_h.c 0 _ rfl
          have q9_h_1 : w9.cell? ⟨w.heap.size + 1 + 1, 1, none⟩ = some (.int .i64 h.ny) := V9_h.c 1 _ rfl
          have q9_h_2 : w9.cell? ⟨w.heap.size + 1 + 1, 2, none⟩ = some (.int .i64 h.d) := V9_h.c 2 _ rfl
          have f9_h := V9_h.2.2; have L9_h := V9_h.lt; have N9_h := Nat.ne_of_gt L9_h; have M9_h := Nat.ne_of_lt L9_h
          have HV9_h := Lib.hid V9_h
          have q9_l_0 : w9.cell? ⟨w.heap.size + 1 + 1 + 1, 0, none⟩ = some (.int .i64 l) := V9_l.c 0 _ rfl
          have f9_l := V9_l.2.2; have L9_l := V9_l.lt; have N9_l := Nat.ne_of_gt L9_l; have M9_l := Nat.ne_of_lt L9_l
          have HV9_l := Lib.hid V9_l
          have q9_j_0 : w9.cell? ⟨w.heap.size + 1 + 1 + 1 + 1, 0, none⟩ = some (.int .i64 j1) := V9_j.c 0 _ rfl
          have q9_j_1 : w9.cell? ⟨w.heap.size + 1 + 1 + 1 + 1, 1, none⟩ = some (.int .i64 j2) := V9_j.c 1 _ rfl
          have f9_j := V9_j.2.2; have L9_j := V9_j.lt; have N9_j := Nat.ne_of_gt L9_j; have M9_j := Nat.ne_of_lt L9_j
          have HV9_j := Lib.hid V9_j
          have q9_o_0 : w9.cell? ⟨B, 0, none⟩ = some (.int .i64 1) := V9_o.c 0 _ rfl
          have f9_o := V9_o.2.2; have L9_o := V9_o.lt; have N9_o := Nat.ne_of_gt L9_o; have M9_o := Nat.ne_of_lt L9_o
          have HV9_o := Lib.hid V9_o
          have q9_c_0 : w9.cell? ⟨wc.heap.size, 0, none⟩ = some (.int .i64 0) := V9_c.c 0 _ rfl
          have f9_c := V9_c.2.2; have L9_c := V9_c.lt; have N9_c := Nat.ne_of_gt L9_c; have M9_c := Nat.ne_of_lt L9_c
          have HV9_c := Lib.hid V9_c
          have q9_x_0 : w9.cell? ⟨wc.heap.size + 1, 0, none⟩ = some (.int .i64 x1.shape) := V9_x.c 0 _ rfl
          have q9_x_1 : w9.cell? ⟨wc.heap.size + 1, 1, none⟩ = some (.int .i64 x1.sx) := V9_x.c 1 _ rfl
          have q9_x_2 : w9.cell? ⟨wc.heap.size + 1, 2, none⟩ = some (.int .i64 x1.sy) := V9_x.c 2 _ rfl
          have q9_x_3 : w9.cell? ⟨wc.heap.size + 1, 3, none⟩ = some (.int .i64 x1.mass) := V9_x.c 3 _ rfl
          have q9_x_4 : w9.cell? ⟨wc.heap.size + 1, 4, none⟩ = some (.int .i64 x1.px) := V9_x.c 4 _ rfl
          have q9_x_5 : w9.cell? ⟨wc.heap.size + 1, 5, none⟩ = some (.int .i64 x1.py) := V9_x.c 5 _ rfl
          have q9_x_6 : w9.cell? ⟨wc.heap.size + 1, 6, none⟩ = some (.int .i64 x1.mx) := V9_x.c 6 _ rfl
          have q9_x_7 : w9.cell? ⟨wc.heap.size + 1, 7, none⟩ = some (.int .i64 x1.my) := V9_x.c 7 _ rfl
          have f9_x := V9_x.2.2; have L9_x := V9_x.lt; have N9_x := Nat.ne_of_gt L9_x; have M9_x := Nat.ne_of_lt L9_x
          have HV9_x := Lib.hid V9_x
          have q9_y_0 : w9.cell? ⟨wc.heap.size + 1 + 1, 0, none⟩ = some (.int .i64 x2.shape) := V9_y.c 0 _ rfl
          have q9_y_1 : w9.cell? ⟨wc.heap.size + 1 + 1, 1, none⟩ = some (.int .i64 x2.sx) := V9_y.c 1 _ rfl
          have q9_y_2 : w9.cell? ⟨wc.heap.size + 1 + 1, 2, none⟩ = some (.int .i64 x2.sy) := V9_y.c 2 _ rfl
          have q9_y_3 : w9.cell? ⟨wc.heap.size + 1 + 1, 3, none⟩ = some (.int .i64 x2.mass) := V9_y.c 3 _ rfl
          have q9_y_4 : w9.cell? ⟨wc.heap.size + 1 + 1, 4, none⟩ = some (.int .i64 x2.px) := V9_y.c 4 _ rfl
          have q9_y_5 : w9.cell? ⟨wc.heap.size + 1 + 1, 5, none⟩ = some (.int .i64 x2.py) := V9_y.c 5 _ rfl
          have q9_y_6 : w9.cell? ⟨wc.heap.size + 1 + 1, 6, none⟩ = some (.int .i64 x2.mx) := V9_y.c 6 _ rfl
          have q9_y_7 : w9.cell? ⟨wc.heap.size + 1 + 1, 7, none⟩ = some (.int .i64 x2.my) := V9_y.c 7 _ rfl
          have f9_y := V9_y.2.2; have L9_y := V9_y.lt; have N9_y := Nat.ne_of_gt L9_y; have M9_y := Nat.ne_of_lt L9_y
          have HV9_y := Lib.hid V9_y
          have q9_u_0 : w9.cell? ⟨wc.heap.size + 1 + 1 + 1, 0, none⟩ = some (.int .i64 0) := V9_u.c 0 _ rfl
          have q9_u_1 : w9.cell? ⟨wc.heap.size + 1 + 1 + 1, 1, none⟩ = some (.int .i64 0) := V9_u.c 1 _ rfl
          have q9_u_2 : w9.cell? ⟨wc.heap.size + 1 + 1 + 1, 2, none⟩ = some (.int .i64 0) := V9_u.c 2 _ rfl
          have q9_u_3 : w9.cell? ⟨wc.heap.size + 1 + 1 + 1, 3, none⟩ = some (.int .i64 0) := V9_u.c 3 _ rfl
          have q9_u_4 : w9.cell? ⟨wc.heap.size + 1 + 1 + 1, 4, none⟩ = some (.int .i64 0) := V9_u.c 4 _ rfl
          have q9_u_5 : w9.cell? ⟨wc.heap.size + 1 + 1 + 1, 5, none⟩ = some (.int .i64 0) := V9_u.c 5 _ rfl
          have q9_u_6 : w9.cell? ⟨wc.heap.size + 1 + 1 + 1, 6, none⟩ = some (.int .i64 0) := V9_u.c 6 _ rfl
          have q9_u_7 : w9.cell? ⟨wc.heap.size + 1 + 1 + 1, 7, none⟩ = some (.int .i64 0) := V9_u.c 7 _ rfl
          have f9_u := V9_u.2.2; have L9_u := V9_u.lt; have N9_u := Nat.ne_of_gt L9_u; have M9_u := Nat.ne_of_lt L9_u
          have HV9_u := Lib.hid V9_u
          have q9_v_0 : w9.cell? ⟨wc.heap.size + 1 + 1 + 1 + 1, 0, none⟩ = some (.int .i64 0) := V9_v.c 0 _ rfl
          have q9_v_1 : w9.cell? ⟨wc.heap.size + 1 + 1 + 1 + 1, 1, none⟩ = some (.int .i64 0) := V9_v.c 1 _ rfl
          have q9_v_2 : w9.cell? ⟨wc.heap.size + 1 + 1 + 1 + 1, 2, none⟩ = some (.int .i64 0) := V9_v.c 2 _ rfl
          have q9_v_3 : w9.cell? ⟨wc.heap.size + 1 + 1 + 1 + 1, 3, none⟩ = some (.int .i64 0) := V9_v.c 3 _ rfl
          have q9_v_4 : w9.cell? ⟨wc.heap.size + 1 + 1 + 1 + 1, 4, none⟩ = some (.int .i64 0) := V9_v.c 4 _ rfl
          have q9_v_5 : w9.cell? ⟨wc.heap.size + 1 + 1 + 1 + 1, 5, none⟩ = some (.int .i64 0) := V9_v.c 5 _ rfl
          have q9_v_6 : w9.cell? ⟨wc.heap.size + 1 + 1 + 1 + 1, 6, none⟩ = some (.int .i64 0) := V9_v.c 6 _ rfl
          have q9_v_7 : w9.cell? ⟨wc.heap.size + 1 + 1 + 1 + 1, 7, none⟩ = some (.int .i64 0) := V9_v.c 7 _ rfl
          have f9_v := V9_v.2.2; have L9_v := V9_v.lt; have N9_v := Nat.ne_of_gt L9_v; have M9_v := Nat.ne_of_lt L9_v
          have HV9_v := Lib.hid V9_v
          have S9 := G9.size; clear hb
          go_wp2_with fail
          go_roundg gf
          case measure => omega
          case rel => refine ⟨w9.heap.size, 2, by omega, by omega, rfl, by omega, ?_, ?_, ?_, ?_, ?_, ?_, by have G := G9; (repeat (with_reducible refine M.Below.drewN ?_ _)); go_grown⟩ <;> ((repeat (first | (with_reducible assumption) | (with_reducible apply M.var_setBd) | (with_reducible apply M.var_setI) | (with_reducible refine M.var_alloc' _ _ _ ?_; first | rfl | (focus (simp [go_sem]; done))) | (with_reducible refine M.Var.alloc ?_ _) | (with_reducible refine M.Var.drewN ?_ _) | (with_reducible refine M.Var.drew ?_) | (with_reducible refine M.Var.far ?_ _ _ ?hFar; case hFar => (first | omega | ((try simp [go_sem]) <;> omega))) | fail)))
      · rcases hP : jointX a b l with i | ⟨x1, x2⟩
        · skip
          have z1 := bne_iff_ne.2 (nz_joint _ _ _ i hP); have z1b := beq_eq_false_iff_ne.2 (nz_joint _ _ _ i hP)
          have K1 := Lib.hid (fun pb w hp => (refJoint_x pb 0 a b l ha hB hl w hp).mono fun en w' h => M.relBB_err hP h)
          replace hP := Lib.hid hP
          have qc_o_0 : wc.cell? ⟨B, 0, none⟩ = some (.int .i64 2) := Vc_o.c 0 _ rfl
          have fc_o := Vc_o.2.2; have Lc_o := Vc_o.lt; have Nc_o := Nat.ne_of_gt Lc_o; have Mc_o := Nat.ne_of_lt Lc_o
          have qc_a_0 : wc.cell? ⟨w.heap.size, 0, none⟩ = some (.int .i64 a.shape) := Vc_a.c 0 _ rfl
          have qc_a_1 : wc.cell? ⟨w.heap.size, 1, none⟩ = some (.int .i64 a.sx) := Vc_a.c 1 _ rfl
          have qc_a_2 : wc.cell? ⟨w.heap.size, 2, none⟩ = some (.int .i64 a.sy) := Vc_a.c 2 _ rfl
          have qc_a_3 : wc.cell? ⟨w.heap.size, 3, none⟩ = some (.int .i64 a.mass) := Vc_a.c 3 _ rfl
          have qc_a_4 : wc.cell? ⟨w.heap.size, 4, none⟩ = some (.int .i64 a.px) := Vc_a.c 4 _ rfl
          have qc_a_5 : wc.cell? ⟨w.heap.size, 5, none⟩ = some (.int .i64 a.py) := Vc_a.c 5 _ rfl
          have qc_a_6 : wc.cell? ⟨w.heap.size, 6, none⟩ = some (.int .i64 a.mx) := Vc_a.c 6 _ rfl
          have qc_a_7 : wc.cell? ⟨w.heap.size, 7, none⟩ = some (.int .i64 a.my) := Vc_a.c 7 _ rfl
          have fc_a := Vc_a.2.2; have Lc_a := Vc_a.lt; have Nc_a := Nat.ne_of_gt Lc_a; have Mc_a := Nat.ne_of_lt Lc_a
          have qc_b_0 : wc.cell? ⟨w.heap.size + 1, 0, none⟩ = some (.int .i64 b.shape) := Vc_b.c 0 _ rfl
          have qc_b_1 : wc.cell? ⟨w.heap.size + 1, 1, none⟩ = some (.int .i64 b.sx) := Vc_b.c 1 _ rfl
          have qc_b_2 : wc.cell? ⟨w.heap.size + 1, 2, none⟩ = some (.int .i64 b.sy) := Vc_b.c 2 _ rfl
          have qc_b_3 : wc.cell? ⟨w.heap.size + 1, 3, none⟩ = some (.int .i64 b.mass) := Vc_b.c 3 _ rfl
          have qc_b_4 : wc.cell? ⟨w.heap.size + 1, 4, none⟩ = some (.int .i64 b.px) := Vc_b.c 4 _ rfl
          have qc_b_5 : wc.cell? ⟨w.heap.size + 1, 5, none⟩ = some (.int .i64 b.py) := Vc_b.c 5 _ rfl
          have qc_b_6 : wc.cell? ⟨w.heap.size + 1, 6, none⟩ = some (.int .i64 b.mx) := Vc_b.c 6 _ rfl
          have qc_b_7 : wc.cell? ⟨w.heap.size + 1, 7, none⟩ = some (.int .i64 b.my) := Vc_b.c 7 _ rfl
          have fc_b := Vc_b.2.2; have Lc_b := Vc_b.lt; have Nc_b := Nat.ne_of_gt Lc_b; have Mc_b := Nat.ne_of_lt Lc_b
          have qc_h_0 : wc.cell? ⟨w.heap.size + 1 + 1, 0, none⟩ = some (.int .i64 h.nx) := Vc_h.c 0 _ rfl
          have qc_h_1 : wc.cell? ⟨w.heap.size + 1 + 1, 1, none⟩ = some (.int .i64 h.ny) := Vc_h.c 1 _ rfl
          have qc_h_2 : wc.cell? ⟨w.heap.size + 1 + 1, 2, none⟩ = some (.int .i64 h.d) := Vc_h.c 2 _ rfl
          have fc_h := Vc_h.2.2; have Lc_h := Vc_h.lt; have Nc_h := Nat.ne_of_gt Lc_h; have Mc_h := Nat.ne_of_lt Lc_h
          have qc_l_0 : wc.cell? ⟨w.heap.size + 1 + 1 + 1, 0, none⟩ = some (.int .i64 l) := Vc_l.c 0 _ rfl
          have fc_l := Vc_l.2.2; have Lc_l := Vc_l.lt; have Nc_l := Nat.ne_of_gt Lc_l; have Mc_l := Nat.ne_of_lt Lc_l
          have qc_j_0 : wc.cell? ⟨w.heap.size + 1 + 1 + 1 + 1, 0, none⟩ = some (.int .i64 j1) := Vc_j.c 0 _ rfl
          have qc_j_1 : wc.cell? ⟨w.heap.size + 1 + 1 + 1 + 1, 1, none⟩ = some (.int .i64 j2) := Vc_j.c 1 _ rfl
          have fc_j := Vc_j.2.2; have Lc_j := Vc_j.lt; have Nc_j := Nat.ne_of_gt Lc_j; have Mc_j := Nat.ne_of_lt Lc_j
          go_wp2_with fail
          refine (try_c 30 #[.pointer (some ⟨B, 0, none⟩), .pointer (some ⟨w.heap.size, 0, none⟩), .pointer (some ⟨w.heap.size + 1, 0, none⟩), .pointer (some ⟨w.heap.size + 1 + 1 + 1 + 1, 0, none⟩), .pointer (some ⟨wc.heap.size + 1, 0, none⟩), .pointer (some ⟨wc.heap.size + 1 + 1, 0, none⟩), .pointer (some ⟨w.heap.size + 1 + 1, 0, none⟩), .pointer (some ⟨w.heap.size + 1 + 1 + 1, 0, none⟩)] _ (i) ([]) (fun _ => rfl) ?_ ?_).mono ?_
          · intro u hu; (try simp only [List.mem_append] at hu); (repeat' (obtain hu | hu := (hu : _ ∨ _))); all_goals (first | with_reducible rw [M.cell_block1 hu] | with_reducible rw [M.usBx_block hu] | with_reducible rw [M.usV_block hu] | with_reducible rw [M.usI_block hu] | with_reducible rw [M.usHt_block hu] | with_reducible rw [M.usBd_block hu] | with_reducible rw [M.usB_block hu] | rw [M.cell_block1 hu] | (exfalso; simp at hu; done)); all_goals ((try simp [go_sem]) <;> omega)
          · intro w1' hb; exact (cloT2 _ _ _ _ _ _ _ _ a ha b hB l hl _ _ _ _ _ _ _ _ _ _ _ _ _ _ _ _ (.error i) hP.out w1' (M.Var.mono (b := B) (cs := #[.int .i64 2]) (by (repeat (first | (with_reducible assumption) | (with_reducible apply M.var_set45) | (with_reducible refine M.var_alloc' _ _ _ ?_; first | rfl | (simp [go_sem]; done)) | (with_reducible refine M.Var.alloc ?_ _) | (with_reducible refine M.Var.drewN ?_ _) | (with_reducible refine M.Var.drew ?_) | (with_reducible refine M.Var.far ?_ _ _ ?hFar; case hFar => (first | omega | ((try simp [go_sem]) <;> omega))) | fail))) hb) (M.Var.mono (b := w.heap.size) (cs := #[.int .i64 a.shape, .int .i64 a.sx, .int .i64 a.sy, .int .i64 a.mass, .int .i64 a.px, .int .i64 a.py, .int .i64 a.mx, .int .i64 a.my]) (by (repeat (first | (with_reducible assumption) | (with_reducible apply M.var_set45) | (with_reducible refine M.var_alloc' _ _ _ ?_; first | rfl | (simp [go_sem]; done)) | (with_reducible refine M.Var.alloc ?_ _) | (with_reducible refine M.Var.drewN ?_ _) | (with_reducible refine M.Var.drew ?_) | (with_reducible refine M.Var.far ?_ _ _ ?hFar; case hFar => (first | omega | ((try simp [go_sem]) <;> omega))) | fail))) hb) (M.Var.mono (b := w.heap.size + 1) (cs := #[.int .i64 b.shape, .int .i64 b.sx, .int .i64 b.sy, .int .i64 b.mass, .int .i64 b.px, .int .i64 b.py, .int .i64 b.mx, .int .i64 b.my]) (by (repeat (first | (with_reducible assumption) | (with_reducible apply M.var_set45) | (with_reducible refine M.var_alloc' _ _ _ ?_; first | rfl | (simp [go_sem]; done)) | (with_reducible refine M.Var.alloc ?_ _) | (with_reducible refine M.Var.drewN ?_ _) | (with_reducible refine M.Var.drew ?_) | (with_reducible refine M.Var.far ?_ _ _ ?hFar; case hFar => (first | omega | ((try simp [go_sem]) <;> omega))) | fail))) hb) (M.Var.mono (b := w.heap.size + 1 + 1 + 1) (cs := #[.int .i64 l]) (by (repeat (first | (with_reducible assumption) | (with_reducible apply M.var_set45) | (with_reducible refine M.var_alloc' _ _ _ ?_; first | rfl | (simp [go_sem]; done)) | (with_reducible refine M.Var.alloc ?_ _) | (with_reducible refine M.Var.drewN ?_ _) | (with_reducible refine M.Var.drew ?_) | (with_reducible refine M.Var.far ?_ _ _ ?hFar; case hFar => (first | omega | ((try simp [go_sem]) <;> omega))) | fail))) hb) (M.Var.mono (b := wc.heap.size + 1) (cs := #[.int .i64 0, .int .i64 0, .int .i64 0, .int .i64 0, .int .i64 0, .int .i64 0, .int .i64 0, .int .i64 0]) (by (repeat (first | (with_reducible assumption) | (with_reducible apply M.var_set45) | (with_reducible refine M.var_alloc' _ _ _ ?_; first | rfl | (simp [go_sem]; done)) | (with_reducible refine M.Var.alloc ?_ _) | (with_reducible refine M.Var.drewN ?_ _) | (with_reducible refine M.Var.drew ?_) | (with_reducible refine M.Var.far ?_ _ _ ?hFar; case hFar => (first | omega | ((try simp [go_sem]) <;> omega))) | fail))) hb) (M.Var.mono (b := wc.heap.size + 1 + 1) (cs := #[.int .i64 0, .int .i64 0, .int .i64 0, .int .i64 0, .int .i64 0, .int .i64 0, .int .i64 0, .int .i64 0]) (by (repeat (first | (with_reducible assumption) | (with_reducible apply M.var_set45) | (with_reducible refine M.var_alloc' _ _ _ ?_; first | rfl | (simp [go_sem]; done)) | (with_reducible refine M.Var.alloc ?_ _) | (with_reducible refine M.Var.drewN ?_ _) | (with_reducible refine M.Var.drew ?_) | (with_reducible refine M.Var.far ?_ _ _ ?hFar; case hFar => (first | omega | ((try simp [go_sem]) <;> omega))) | fail))) hb) (by omega)).mono fun e w' h => h
          rintro en w10 ⟨rfl, hb⟩
          have G10 : Below w.heap.size w w10 := by refine Below.trans ?_ (hb.mono (by go_size)); exact M.below_sets_own _ (by have G := HGc.out; (repeat (with_reducible refine M.Below.drewN ?_ _)); go_grown) (by intro u hu; (try simp only [List.mem_append] at hu); (repeat' (obtain hu | hu := (hu : _ ∨ _))); all_goals (first | with_reducible rw [M.cell_block1 hu] | with_reducible rw [M.usBx_block hu] | with_reducible rw [M.usV_block hu] | with_reducible rw [M.usI_block hu] | with_reducible rw [M.usHt_block hu] | with_reducible rw [M.usBd_block hu] | with_reducible rw [M.usB_block hu] | rw [M.cell_block1 hu] | (exfalso; simp at hu; done)); all_goals ((try simp [go_sem]) <;> omega))
          have VV10 : M.Var w10 (w.heap.size) #[.int .i64 a.shape, .int .i64 a.sx, .int .i64 a.sy, .int .i64 a.mass, .int .i64 a.px, .int .i64 a.py, .int .i64 a.mx, .int .i64 a.my] ∧ M.Var w10 (w.heap.size + 1) #[.int .i64 b.shape, .int .i64 b.sx, .int .i64 b.sy, .int .i64 b.mass, .int .i64 b.px, .int .i64 b.py, .int .i64 b.mx, .int .i64 b.my] ∧ M.Var w10 (w.heap.size + 1 + 1) #[.int .i64 h.nx, .int .i64 h.ny, .int .i64 h.d] ∧ M.Var w10 (w.heap.size + 1 + 1 + 1) #[.int .i64 l] ∧ M.Var w10 (w.heap.size + 1 + 1 + 1 + 1) #[.int .i64 j1, .int .i64 j2] ∧ M.Var w10 (B) #[.int .i64 2] ∧ M.Var w10 (wc.heap.size) #[.int .i64 0] ∧ M.Var w10 (wc.heap.size + 1) #[.int .i64 0, .int .i64 0, .int .i64 0, .int .i64 0, .int .i64 0, .int .i64 0, .int .i64 0, .int .i64 0] ∧ M.Var w10 (wc.heap.size + 1 + 1) #[.int .i64 0, .int .i64 0, .int .i64 0, .int .i64 0, .int .i64 0, .int .i64 0, .int .i64 0, .int .i64 0] ∧ M.Var w10 (wc.heap.size + 1 + 1 + 1) #[.int .i64 0, .int .i64 0, .int .i64 0, .int .i64 0, .int .i64 0, .int .i64 0, .int .i64 0, .int .i64 0] ∧ M.Var w10 (wc.heap.size + 1 + 1 + 1 + 1) #[.int .i64 0, .int .i64 0, .int .i64 0, .int .i64 0, .int .i64 0, .int .i64 0, .int .i64 0, .int .i64 0] := by refine ⟨?_, ?_, ?_, ?_, ?_, ?_, ?_, ?_, ?_, ?_, ?_⟩ <;> (refine M.Var.mono' ?_ (M.sets_size _ _) hb; (try simp only [M.sets_append]); exact (M.var_sets_far _ (by (repeat (first | (with_reducible assumption) | (with_reducible apply M.var_set45) | (with_reducible refine M.var_alloc' _ _ _ ?_; first | rfl | (simp [go_sem]; done)) | (with_reducible refine M.Var.alloc ?_ _) | (with_reducible refine M.Var.drewN ?_ _) | (with_reducible refine M.Var.drew ?_) | (with_reducible refine M.Var.far ?_ _ _ ?hFar; case hFar => (first | omega | ((try simp [go_sem]) <;> omega))) | fail))) (by intro u hu; all_goals (first | with_reducible rw [M.cell_block1 hu] | with_reducible rw [M.usBx_block hu] | with_reducible rw [M.usV_block hu] | with_reducible rw [M.usI_block hu] | with_reducible rw [M.usHt_block hu] | with_reducible rw [M.usBd_block hu] | with_reducible rw [M.usB_block hu] | rw [M.cell_block1 hu] | (exfalso; simp at hu; done)); all_goals ((try simp [go_sem]) <;> omega))))
          obtain ⟨V10_a, V10_b, V10_h, V10_l, V10_j, V10_o, V10_c, V10_x, V10_y, V10_u, V10_v⟩ := VV10
          have q10_a_0 : w10.cell? ⟨w.heap.size, 0, none⟩ = some (.int .i64 a.shape) := V10_a.c 0 _ rfl
          have q10_a_1 : w10.cell? ⟨w.heap.size, 1, none⟩ = some (.int .i64 a.sx) := V10_a.c 1 _ rfl
          have q10_a_2 : w10.cell? ⟨w.heap.size, 2, none⟩ = some (.int .i64 a.sy) := V10_a.c 2 _ rfl
          have q10_a_3 : w10.cell? ⟨w.heap.size, 3, none⟩ = some (.int .i64 a.mass) := V10_a.c 3 _ rfl
          have q10_a_4 : w10.cell? ⟨w.heap.size, 4, none⟩ = some (.int .i64 a.px) := V10_a.c 4 _ rfl
          have q10_a_5 : w10.cell? ⟨w.heap.size, 5, none⟩ = some (.int .i64 a.py) := V10_a.c 5 _ rfl
          have q10_a_6 : w10.cell? ⟨w.heap.size, 6, none⟩ = some (.int .i64 a.mx) := V10_a.c 6 _ rfl
          have q10_a_7 : w10.cell? ⟨w.heap.size, 7, none⟩ = some (.int .i64 a.my) := V10_a.c 7 _ rfl
          have f10_a := V10_a.2.2; have L10_a := V10_a.lt; have N10_a := Nat.ne_of_gt L10_a; have M10_a := Nat.ne_of_lt L10_a
          have HV10_a := Lib.hid V10_a
          have q10_b_0 : w10.cell? ⟨w.heap.size + 1, 0, none⟩ = some (.int .i64 b.shape) := V10_b.c 0 _ rfl
          have q10_b_1 : w10.cell? ⟨w.heap.size + 1, 1, none⟩ = some (.int .i64 b.sx) := V10_b.c 1 _ rfl
          have q10_b_2 : w10.cell? ⟨w.heap.size + 1, 2, none⟩ = some (.int .i64 b.sy) := V10_b.c 2 _ rfl
          have q10_b_3 : w10.cell? ⟨w.heap.size + 1, 3, none⟩ = some (.int .i64 b.mass) := V10_b.c 3 _ rfl
          have q10_b_4 : w10.cell? ⟨w.heap.size + 1, 4, none⟩ = some (.int .i64 b.px) := V10_b.c 4 _ rfl
          have q10_b_5 : w10.cell? ⟨w.heap.size + 1, 5, none⟩ = some (.int .i64 b.py) := V10_b.c 5 _ rfl
          have q10_b_6 : w10.cell? ⟨w.heap.size + 1, 6, none⟩ = some (.int .i64 b.mx) := V10_b.c 6 _ rfl
          have q10_b_7 : w10.cell? ⟨w.heap.size + 1, 7, none⟩ = some (.int .i64 b.my) := V10_b.c 7 _ rfl
          have f10_b := V10_b.2.2; have L10_b := V10_b.lt; have N10_b := Nat.ne_of_gt L10_b; have M10_b := Nat.ne_of_lt L10_b
          have HV10_b := Lib.hid V10_b
          have q10_h_0 : w10.cell? ⟨w.heap.size + 1 + 1, 0, none⟩ = some (.int .i64 h.nx) := V10_h.c 0 _ rfl
          have q10_h_1 : w10.cell? ⟨w.heap.size + 1 + 1, 1, none⟩ = some (.int .i64 h.ny) := V10_h.c 1 _ rfl
          have q10_h_2 : w10.cell? ⟨w.heap.size + 1 + 1, 2, none⟩ = some (.int .i64 h.d) := V10_h.c 2 _ rfl
          have f10_h := V10_h.2.2; have L10_h := V10_h.lt; have N10_h := Nat.ne_of_gt L10_h; have M10_h := Nat.ne_of_lt L10_h
          have HV10_h := Lib.hid V10_h
          have q10_l_0 : w10.cell? ⟨w.heap.size + 1 + 1 + 1, 0, none⟩ = some (.int .i64 l) := V10_l.c 0 _ rfl
          have f10_l := V10_l.2.2; have L10_l := V10_l.lt; have N10_l := Nat.ne_of_gt L10_l; have M10_l := Nat.ne_of_lt L10_l
          have HV10_l := Lib.hid V10_l
          have q10_j_0 : w10.cell? ⟨w.heap.size + 1 + 1 + 1 + 1, 0, none⟩ = some (.int .i64 j1) := V10_j.c 0 _ rfl
          have q10_j_1 : w10.cell? ⟨w.heap.size + 1 + 1 + 1 + 1, 1, none⟩ = some (.int .i64 j2) := V10_j.c 1 _ rfl
          have f10_j := V10_j.2.2; have L10_j := V10_j.lt; have N10_j := Nat.ne_of_gt L10_j; have M10_j := Nat.ne_of_lt L10_j
          have HV10_j := Lib.hid V10_j
          have q10_o_0 : w10.cell? ⟨B, 0, none⟩ = some (.int .i64 2) := V10_o.c 0 _ rfl
          have f10_o := V10_o.2.2; have L10_o := V10_o.lt; have N10_o := Nat.ne_of_gt L10_o; have M10_o := Nat.ne_of_lt L10_o
          have HV10_o := Lib.hid V10_o
          have q10_c_0 : w10.cell? ⟨wc.heap.size, 0, none⟩ = some (.int .i64 0) := V10_c.c 0 _ rfl
          have f10_c := V10_c.2.2; have L10_c := V10_c.lt; have N10_c := Nat.ne_of_gt L10_c; have M10_c := Nat.ne_of_lt L10_c
          have HV10_c := Lib.hid V10_c
          have q10_x_0 : w10.cell? ⟨wc.heap.size + 1, 0, none⟩ = some (.int .i64 0) := V10_x.c 0 _ rfl
          have q10_x_1 : w10.cell? ⟨wc.heap.size + 1, 1, none⟩ = some (.int .i64 0) := V10_x.c 1 _ rfl
          have q10_x_2 : w10.cell? ⟨wc.heap.size + 1, 2, none⟩ = some (.int .i64 0) := V10_x.c 2 _ rfl
          have q10_x_3 : w10.cell? ⟨wc.heap.size + 1, 3, none⟩ = some (.int .i64 0) := V10_x.c 3 _ rfl
          have q10_x_4 : w10.cell? ⟨wc.heap.size + 1, 4, none⟩ = some (.int .i64 0) := V10_x.c 4 _ rfl
          have q10_x_5 : w10.cell? ⟨wc.heap.size + 1, 5, none⟩ = some (.int .i64 0) := V10_x.c 5 _ rfl
          have q10_x_6 : w10.cell? ⟨wc.heap.size + 1, 6, none⟩ = some (.int .i64 0) := V10_x.c 6 _ rfl
          have q10_x_7 : w10.cell? ⟨wc.heap.size + 1, 7, none⟩ = some (.int .i64 0) := V10_x.c 7 _ rfl
          have f10_x := V10_x.2.2; have L10_x := V10_x.lt; have N10_x := Nat.ne_of_gt L10_x; have M10_x := Nat.ne_of_lt L10_x
          have HV10_x := Lib.hid V10_x
          have q10_y_0 : w10.cell? ⟨wc.heap.size + 1 + 1, 0, none⟩ = some (.int .i64 0) := V10_y.c 0 _ rfl
          have q10_y_1 : w10.cell? ⟨wc.heap.size + 1 + 1, 1, none⟩ = some (.int .i64 0) := V10_y.c 1 _ rfl
          have q10_y_2 : w10.cell? ⟨wc.heap.size + 1 + 1, 2, none⟩ = some (.int .i64 0) := V10_y.c 2 _ rfl
          have q10_y_3 : w10.cell? ⟨wc.heap.size + 1 + 1, 3, none⟩ = some (.int .i64 0) := V10_y.c 3 _ rfl
          have q10_y_4 : w10.cell? ⟨wc.heap.size + 1 + 1, 4, none⟩ = some (.int .i64 0) := V10_y.c 4 _ rfl
          have q10_y_5 : w10.cell? ⟨wc.heap.size + 1 + 1, 5, none⟩ = some (.int .i64 0) := V10_y.c 5 _ rfl
          have q10_y_6 : w10.cell? ⟨wc.heap.size + 1 + 1, 6, none⟩ = some (.int .i64 0) := V10_y.c 6 _ rfl
          have q10_y_7 : w10.cell? ⟨wc.heap.size + 1 + 1, 7, none⟩ = some (.int .i64 0) := V10_y.c 7 _ rfl
          have f10_y := V10_y.2.2; have L10_y := V10_y.lt; have N10_y := Nat.ne_of_gt L10_y; have M10_y := Nat.ne_of_lt L10_y
          have HV10_y := Lib.hid V10_y
          have q10_u_0 : w10.cell? ⟨wc.heap.size + 1 + 1 + 1, 0, none⟩ = some (.int .i64 0) := V10_u.c 0 _ rfl
          have q10_u_1 : w10.cell? ⟨wc.heap.size + 1 + 1 + 1, 1, none⟩ = some (.int .i64 0) := V10_u.c 1 _ rfl
          have q10_u_2 : w10.cell? ⟨wc.heap.size + 1 + 1 + 1, 2, none⟩ = some (.int .i64 0) := V10_u.c 2 _ rfl
          have q10_u_3 : w10.cell? ⟨wc.heap.size + 1 + 1 + 1, 3, none⟩ = some (.int .i64 0) := V10_u.c 3 _ rfl
          have q10_u_4 : w10.cell? ⟨wc.heap.size + 1 + 1 + 1, 4, none⟩ = some (.int .i64 0) := V10_u.c 4 _ rfl
          have q10_u_5 : w10.cell? ⟨wc.heap.size + 1 + 1 + 1, 5, none⟩ = some (.int .i64 0) := V10_u.c 5 _ rfl
          have q10_u_6 : w10.cell? ⟨wc.heap.size + 1 + 1 + 1, 6, none⟩ = some (.int .i64 0) := V10_u.c 6 _ rfl
          have q10_u_7 : w10.cell? ⟨wc.heap.size + 1 + 1 + 1, 7, none⟩ = some (.int .i64 0) := V10_u.c 7 _ rfl
          have f10_u := V10_u.2.2; have L10_u := V10_u.lt; have N10_u := Nat.ne_of_gt L10_u; have M10_u := Nat.ne_of_lt L10_u
          have HV10_u := Lib.hid V10_u
          have q10_v_0 : w10.cell? ⟨wc.heap.size + 1 + 1 + 1 + 1, 0, none⟩ = some (.int .i64 0) := V10_v.c 0 _ rfl
          have q10_v_1 : w10.cell? ⟨wc.heap.size + 1 + 1 + 1 + 1, 1, none⟩ = some (.int .i64 0) := V10_v.c 1 _ rfl
          have q10_v_2 : w10.cell? ⟨wc.heap.size + 1 + 1 + 1 + 1, 2, none⟩ = some (.int .i64 0) := V10_v.c 2 _ rfl
          have q10_v_3 : w10.cell? ⟨wc.heap.size + 1 + 1 + 1 + 1, 3, none⟩ = some (.int .i64 0) := V10_v.c 3 _ rfl
          have q10_v_4 : w10.cell? ⟨wc.heap.size + 1 + 1 + 1 + 1, 4, none⟩ = some (.int .i64 0) := V10_v.c 4 _ rfl
          have q10_v_5 : w10.cell? ⟨wc.heap.size + 1 + 1 + 1 + 1, 5, none⟩ = some (.int .i64 0) := V10_v.c 5 _ rfl
          have q10_v_6 : w10.cell? ⟨wc.heap.size + 1 + 1 + 1 + 1, 6, none⟩ = some (.int .i64 0) := V10_v.c 6 _ rfl
          have q10_v_7 : w10.cell? ⟨wc.heap.size + 1 + 1 + 1 + 1, 7, none⟩ = some (.int .i64 0) := V10_v.c 7 _ rfl
          have f10_v := V10_v.2.2; have L10_v := V10_v.lt; have N10_v := Nat.ne_of_gt L10_v; have M10_v := Nat.ne_of_lt L10_v
          have HV10_v := Lib.hid V10_v
          have S10 := G10.size; clear hb
          go_wp2_with fail
          (with_reducible refine (K1.out _ _ (M.pcell_var (by (repeat (first | (with_reducible assumption) | (with_reducible apply M.var_set45) | (with_reducible refine M.var_alloc' _ _ _ ?_; first | rfl | (simp [go_sem]; done)) | (with_reducible refine M.Var.alloc ?_ _) | (with_reducible refine M.Var.drewN ?_ _) | (with_reducible refine M.Var.drew ?_) | (with_reducible refine M.Var.far ?_ _ _ ?hFar; case hFar => (first | omega | ((try simp [go_sem]) <;> omega))) | fail)) : M.Var _ (wc.heap.size) #[.int .i64 0]))).mono ?_); rintro en w11 ⟨⟨u1, u2, rfl⟩, hb⟩
          have G11 : Below w.heap.size w w11 := Below.trans (M.below_sets_own ([(⟨wc.heap.size, 0, none⟩, .int .i64 i)]) (by have G := HGc.out; (repeat (with_reducible refine M.Below.drewN ?_ _)); go_grown) (by intro u hu; rw [M.cell_block1 hu]; dsimp only; omega)) (hb.mono (by go_size))
          have VV11 : M.Var w11 (w.heap.size) #[.int .i64 a.shape, .int .i64 a.sx, .int .i64 a.sy, .int .i64 a.mass, .int .i64 a.px, .int .i64 a.py, .int .i64 a.mx, .int .i64 a.my] ∧ M.Var w11 (w.heap.size + 1) #[.int .i64 b.shape, .int .i64 b.sx, .int .i64 b.sy, .int .i64 b.mass, .int .i64 b.px, .int .i64 b.py, .int .i64 b.mx, .int .i64 b.my] ∧ M.Var w11 (w.heap.size + 1 + 1) #[.int .i64 h.nx, .int .i64 h.ny, .int .i64 h.d] ∧ M.Var w11 (w.heap.size + 1 + 1 + 1) #[.int .i64 l] ∧ M.Var w11 (w.heap.size + 1 + 1 + 1 + 1) #[.int .i64 j1, .int .i64 j2] ∧ M.Var w11 (B) #[.int .i64 2] ∧ M.Var w11 (wc.heap.size + 1) #[.int .i64 0, .int .i64 0, .int .i64 0, .int .i64 0, .int .i64 0, .int .i64 0, .int .i64 0, .int .i64 0] ∧ M.Var w11 (wc.heap.size + 1 + 1) #[.int .i64 0, .int .i64 0, .int .i64 0, .int .i64 0, .int .i64 0, .int .i64 0, .int .i64 0, .int .i64 0] ∧ M.Var w11 (wc.heap.size + 1 + 1 + 1) #[.int .i64 0, .int .i64 0, .int .i64 0, .int .i64 0, .int .i64 0, .int .i64 0, .int .i64 0, .int .i64 0] ∧ M.Var w11 (wc.heap.size + 1 + 1 + 1 + 1) #[.int .i64 0, .int .i64 0, .int .i64 0, .int .i64 0, .int .i64 0, .int .i64 0, .int .i64 0, .int .i64 0] := by refine ⟨?_, ?_, ?_, ?_, ?_, ?_, ?_, ?_, ?_, ?_⟩ <;> (refine M.Var.mono' (u := M.sets _ ([(⟨wc.heap.size, 0, none⟩, .int .i64 i)])) ?_ (M.sets_size _ _) hb; (try simp only [M.sets_append]); exact (M.var_sets_far _ (by (repeat (first | (with_reducible assumption) | (with_reducible apply M.var_set45) | (with_reducible refine M.var_alloc' _ _ _ ?_; first | rfl | (simp [go_sem]; done)) | (with_reducible refine M.Var.alloc ?_ _) | (with_reducible refine M.Var.drewN ?_ _) | (with_reducible refine M.Var.drew ?_) | (with_reducible refine M.Var.far ?_ _ _ ?hFar; case hFar => (first | omega | ((try simp [go_sem]) <;> omega))) | fail))) (by intro u hu; all_goals (first | with_reducible rw [M.cell_block1 hu] | with_reducible rw [M.usBx_block hu] | with_reducible rw [M.usV_block hu] | with_reducible rw [M.usI_block hu] | with_reducible rw [M.usHt_block hu] | with_reducible rw [M.usBd_block hu] | with_reducible rw [M.usB_block hu] | rw [M.cell_block1 hu] | (exfalso; simp at hu; done)); all_goals ((try simp [go_sem]) <;> omega))))
          obtain ⟨V11_a, V11_b, V11_h, V11_l, V11_j, V11_o, V11_x, V11_y, V11_u, V11_v⟩ := VV11
          have V11_c : M.Var w11 (wc.heap.size) #[.int .i64 i] := by refine M.Var.mono' (u := M.sets _ ([(⟨wc.heap.size, 0, none⟩, .int .i64 i)])) ?_ (M.sets_size _ _) hb; (try simp only [M.sets_append]); exact (M.var_setI (by (repeat (first | (with_reducible assumption) | (with_reducible apply M.var_set45) | (with_reducible refine M.var_alloc' _ _ _ ?_; first | rfl | (simp [go_sem]; done)) | (with_reducible refine M.Var.alloc ?_ _) | (with_reducible refine M.Var.drewN ?_ _) | (with_reducible refine M.Var.drew ?_) | (with_reducible refine M.Var.far ?_ _ _ ?hFar; case hFar => (first | omega | ((try simp [go_sem]) <;> omega))) | fail)) : M.Var _ (wc.heap.size) #[.int .i64 0]) _)
          have q11_a_0 : w11.cell? ⟨w.heap.size, 0, none⟩ = some (.int .i64 a.shape) := V11_a.c 0 _ rfl
          have q11_a_1 : w11.cell? ⟨w.heap.size, 1, none⟩ = some (.int .i64 a.sx) := V11_a.c 1 _ rfl
          have q11_a_2 : w11.cell? ⟨w.heap.size, 2, none⟩ = some (.int .i64 a.sy) := V11_a.c 2 _ rfl
          have q11_a_3 : w11.cell? ⟨w.heap.size, 3, none⟩ = some (.int .i64 a.mass) := V11_a.c 3 _ rfl
          have q11_a_4 : w11.cell? ⟨w.heap.size, 4, none⟩ = some (.int .i64 a.px) := V11_a.c 4 _ rfl
          have q11_a_5 : w11.cell? ⟨w.heap.size, 5, none⟩ = some (.int .i64 a.py) := V11_a.c 5 _ rfl
          have q11_a_6 : w11.cell? ⟨w.heap.size, 6, none⟩ = some (.int .i64 a.mx) := V11_a.c 6 _ rfl
          have q11_a_7 : w11.cell? ⟨w.heap.size, 7, none⟩ = some (.int .i64 a.my) := V11_a.c 7 _ rfl
          have f11_a := V11_a.2.2; have L11_a := V11_a.lt; have N11_a := Nat.ne_of_gt L11_a; have M11_a := Nat.ne_of_lt L11_a
          have HV11_a := Lib.hid V11_a
          have q11_b_0 : w11.cell? ⟨w.heap.size + 1, 0, none⟩ = some (.int .i64 b.shape) := V11_b.c 0 _ rfl
          have q11_b_1 : w11.cell? ⟨w.heap.size + 1, 1, none⟩ = some (.int .i64 b.sx) := V11_b.c 1 _ rfl
          have q11_b_2 : w11.cell? ⟨w.heap.size + 1, 2, none⟩ = some (.int .i64 b.sy) := V11_b.c 2 _ rfl
          have q11_b_3 : w11.cell? ⟨w.heap.size + 1, 3, none⟩ = some (.int .i64 b.mass) := V11_b.c 3 _ rfl
          have q11_b_4 : w11.cell? ⟨w.heap.size + 1, 4, none⟩ = some (.int .i64 b.px) := V11_b.c 4 _ rfl
          have q11_b_5 : w11.cell? ⟨w.heap.size + 1, 5, none⟩ = some (.int .i64 b.py) := V11_b.c 5 _ rfl
          have q11_b_6 : w11.cell? ⟨w.heap.size + 1, 6, none⟩ = some (.int .i64 b.mx) := V11_b.c 6 _ rfl
          have q11_b_7 : w11.cell? ⟨w.heap.size + 1, 7, none⟩ = some (.int .i64 b.my) := V11_b.c 7 _ rfl
          have f11_b := V11_b.2.2; have L11_b := V11_b.lt; have N11_b := Nat.ne_of_gt L11_b; have M11_b := Nat.ne_of_lt L11_b
          have HV11_b := Lib.hid V11_b
          have q11_h_0 : w11.cell? ⟨w.heap.size + 1 + 1, 0, none⟩ = some (.int .i64 h.nx) := V11_h.c 0 _ rfl
          have q11_h_1 : w11.cell? ⟨w.heap.size + 1 + 1, 1, none⟩ = some (.int .i64 h.ny) := V11_h.c 1 _ rfl
          have q11_h_2 : w11.cell? ⟨w.heap.size + 1 + 1, 2, none⟩ = some (.int .i64 h.d) := V11_h.c 2 _ rfl
          have f11_h := V11_h.2.2; have L11_h := V11_h.lt; have N11_h := Nat.ne_of_gt L11_h; have M11_h := Nat.ne_of_lt L11_h
          have HV11_h := Lib.hid V11_h
          have q11_l_0 : w11.cell? ⟨w.heap.size + 1 + 1 + 1, 0, none⟩ = some (.int .i64 l) := V11_l.c 0 _ rfl
          have f11_l := V11_l.2.2; have L11_l := V11_l.lt; have N11_l := Nat.ne_of_gt L11_l; have M11_l := Nat.ne_of_lt L11_l
          have HV11_l := Lib.hid V11_l
          have q11_j_0 : w11.cell? ⟨w.heap.size + 1 + 1 + 1 + 1, 0, none⟩ = some (.int .i64 j1) := V11_j.c 0 _ rfl
          have q11_j_1 : w11.cell? ⟨w.heap.size + 1 + 1 + 1 + 1, 1, none⟩ = some (.int .i64 j2) := V11_j.c 1 _ rfl
          have f11_j := V11_j.2.2; have L11_j := V11_j.lt; have N11_j := Nat.ne_of_gt L11_j; have M11_j := Nat.ne_of_lt L11_j
          have HV11_j := Lib.hid V11_j
          have q11_o_0 : w11.cell? ⟨B, 0, none⟩ = some (.int .i64 2) := V11_o.c 0 _ rfl
          have f11_o := V11_o.2.2; have L11_o := V11_o.lt; have N11_o := Nat.ne_of_gt L11_o; have M11_o := Nat.ne_of_lt L11_o
          have HV11_o := Lib.hid V11_o
          have q11_c_0 : w11.cell? ⟨wc.heap.size, 0, none⟩ = some (.int .i64 i) := V11_c.c 0 _ rfl
          have f11_c := V11_c.2.2; have L11_c := V11_c.lt; have N11_c := Nat.ne_of_gt L11_c; have M11_c := Nat.ne_of_lt L11_c
          have HV11_c := Lib.hid V11_c
          have q11_x_0 : w11.cell? ⟨wc.heap.size + 1, 0, none⟩ = some (.int .i64 0) := V11_x.c 0 _ rfl
          have q11_x_1 : w11.cell? ⟨wc.heap.size + 1, 1, none⟩ = some (.int .i64 0) := V11_x.c 1 _ rfl
          have q11_x_2 : w11.cell? ⟨wc.heap.size + 1, 2, none⟩ = some (.int .i64 0) := V11_x.c 2 _ rfl
          have q11_x_3 : w11.cell? ⟨wc.heap.size + 1, 3, none⟩ = some (.int .i64 0) := V11_x.c 3 _ rfl
          have q11_x_4 : w11.cell? ⟨wc.heap.size + 1, 4, none⟩ = some (.int .i64 0) := V11_x.c 4 _ rfl
          have q11_x_5 : w11.cell? ⟨wc.heap.size + 1, 5, none⟩ = some (.int .i64 0) := V11_x.c 5 _ rfl
          have q11_x_6 : w11.cell? ⟨wc.heap.size + 1, 6, none⟩ = some (.int .i64 0) := V11_x.c 6 _ rfl
          have q11_x_7 : w11.cell? ⟨wc.heap.size + 1, 7, none⟩ = some (.int .i64 0) := V11_x.c 7 _ rfl
          have f11_x := V11_x.2.2; have L11_x := V11_x.lt; have N11_x := Nat.ne_of_gt L11_x; have M11_x := Nat.ne_of_lt L11_x
          have HV11_x := Lib.hid V11_x
          have q11_y_0 : w11.cell? ⟨wc.heap.size + 1 + 1, 0, none⟩ = some (.int .i64 0) := V11_y.c 0 _ rfl
          have q11_y_1 : w11.cell? ⟨wc.heap.size + 1 + 1, 1, none⟩ = some (.int .i64 0) := V11_y.c 1 _ rfl
          have q11_y_2 : w11.cell? ⟨wc.heap.size + 1 + 1, 2, none⟩ = some (.int .i64 0) := V11_y.c 2 _ rfl
          have q11_y_3 : w11.cell? ⟨wc.heap.size + 1 + 1, 3, none⟩ = some (.int .i64 0) := V11_y.c 3 _ rfl
          have q11_y_4 : w11.cell? ⟨wc.heap.size + 1 + 1, 4, none⟩ = some (.int .i64 0) := V11_y.c 4 _ rfl
          have q11_y_5 : w11.cell? ⟨wc.heap.size + 1 + 1, 5, none⟩ = some (.int .i64 0) := V11_y.c 5 _ rfl
          have q11_y_6 : w11.cell? ⟨wc.heap.size + 1 + 1, 6, none⟩ = some (.int .i64 0) := V11_y.c 6 _ rfl
          have q11_y_7 : w11.cell? ⟨wc.heap.size + 1 + 1, 7, none⟩ = some (.int .i64 0) := V11_y.c 7 _ rfl
          have f11_y := V11_y.2.2; have L11_y := V11_y.lt; have N11_y := Nat.ne_of_gt L11_y; have M11_y := Nat.ne_of_lt L11_y
          have HV11_y := Lib.hid V11_y
          have q11_u_0 : w11.cell? ⟨wc.heap.size + 1 + 1 + 1, 0, none⟩ = some (.int .i64 0) := V11_u.c 0 _ rfl
          have q11_u_1 : w11.cell? ⟨wc.heap.size + 1 + 1 + 1, 1, none⟩ = some (.int .i64 0) := V11_u.c 1 _ rfl
          have q11_u_2 : w11.cell? ⟨wc.heap.size + 1 + 1 + 1, 2, none⟩ = some (.int .i64 0) := V11_u.c 2 _ rfl
          have q11_u_3 : w11.cell? ⟨wc.heap.size + 1 + 1 + 1, 3, none⟩ = some (.int .i64 0) := V11_u.c 3 _ rfl
          have q11_u_4 : w11.cell? ⟨wc.heap.size + 1 + 1 + 1, 4, none⟩ = some (.int .i64 0) := V11_u.c 4 _ rfl
          have q11_u_5 : w11.cell? ⟨wc.heap.size + 1 + 1 + 1, 5, none⟩ = some (.int .i64 0) := V11_u.c 5 _ rfl
          have q11_u_6 : w11.cell? ⟨wc.heap.size + 1 + 1 + 1, 6, none⟩ = some (.int .i64 0) := V11_u.c 6 _ rfl
          have q11_u_7 : w11.cell? ⟨wc.heap.size + 1 + 1 + 1, 7, none⟩ = some (.int .i64 0) := V11_u.c 7 _ rfl
          have f11_u := V11_u.2.2; have L11_u := V11_u.lt; have N11_u := Nat.ne_of_gt L11_u; have M11_u := Nat.ne_of_lt L11_u
          have HV11_u := Lib.hid V11_u
          have q11_v_0 : w11.cell? ⟨wc.heap.size + 1 + 1 + 1 + 1, 0, none⟩ = some (.int .i64 0) := V11_v.c 0 _ rfl
          have q11_v_1 : w11.cell? ⟨wc.heap.size + 1 + 1 + 1 + 1, 1, none⟩ = some (.int .i64 0) := V11_v.c 1 _ rfl
          have q11_v_2 : w11.cell? ⟨wc.heap.size + 1 + 1 + 1 + 1, 2, none⟩ = some (.int .i64 0) := V11_v.c 2 _ rfl
          have q11_v_3 : w11.cell? ⟨wc.heap.size + 1 + 1 + 1 + 1, 3, none⟩ = some (.int .i64 0) := V11_v.c 3 _ rfl
          have q11_v_4 : w11.cell? ⟨wc.heap.size + 1 + 1 + 1 + 1, 4, none⟩ = some (.int .i64 0) := V11_v.c 4 _ rfl
          have q11_v_5 : w11.cell? ⟨wc.heap.size + 1 + 1 + 1 + 1, 5, none⟩ = some (.int .i64 0) := V11_v.c 5 _ rfl
          have q11_v_6 : w11.cell? ⟨wc.heap.size + 1 + 1 + 1 + 1, 6, none⟩ = some (.int .i64 0) := V11_v.c 6 _ rfl
          have q11_v_7 : w11.cell? ⟨wc.heap.size + 1 + 1 + 1 + 1, 7, none⟩ = some (.int .i64 0) := V11_v.c 7 _ rfl
          have f11_v := V11_v.2.2; have L11_v := V11_v.lt; have N11_v := Nat.ne_of_gt L11_v; have M11_v := Nat.ne_of_lt L11_v
          have HV11_v := Lib.hid V11_v
          have S11 := G11.size; clear hb
          go_wp2_with fail
          go_roundg gf
          case measure => omega
          case rel => refine ⟨w11.heap.size, 3, by omega, by omega, rfl, by omega, ?_, ?_, ?_, ?_, ?_, ?_, by have G := G11; (repeat (with_reducible refine M.Below.drewN ?_ _)); go_grown⟩ <;> ((repeat (first | (with_reducible assumption) | (with_reducible apply M.var_setBd) | (with_reducible apply M.var_setI) | (with_reducible refine M.var_alloc' _ _ _ ?_; first | rfl | (focus (simp [go_sem]; done))) | (with_reducible refine M.Var.alloc ?_ _) | (with_reducible refine M.Var.drewN ?_ _) | (with_reducible refine M.Var.drew ?_) | (with_reducible refine M.Var.far ?_ _ _ ?hFar; case hFar => (first | omega | ((try simp [go_sem]) <;> omega))) | fail)))
        · skip
          have K1 := Lib.hid (fun pb w hp => (refJoint_x pb 0 a b l ha hB hl w hp).mono fun en w' h => M.relBB_ok hP h)
          replace hP := Lib.hid hP
          have qc_o_0 : wc.cell? ⟨B, 0, none⟩ = some (.int .i64 2) := Vc_o.c 0 _ rfl
          have fc_o := Vc_o.2.2; have Lc_o := Vc_o.lt; have Nc_o := Nat.ne_of_gt Lc_o; have Mc_o := Nat.ne_of_lt Lc_o
          have qc_a_0 : wc.cell? ⟨w.heap.size, 0, none⟩ = some (.int .i64 a.shape) := Vc_a.c 0 _ rfl
          have qc_a_1 : wc.cell? ⟨w.heap.size, 1, none⟩ = some (.int .i64 a.sx) := Vc_a.c 1 _ rfl
          have qc_a_2 : wc.cell? ⟨w.heap.size, 2, none⟩ = some (.int .i64 a.sy) := Vc_a.c 2 _ rfl
          have qc_a_3 : wc.cell? ⟨w.heap.size, 3, none⟩ = some (.int .i64 a.mass) := Vc_a.c 3 _ rfl
          have qc_a_4 : wc.cell? ⟨w.heap.size, 4, none⟩ = some (.int .i64 a.px) := Vc_a.c 4 _ rfl
          have qc_a_5 : wc.cell? ⟨w.heap.size, 5, none⟩ = some (.int .i64 a.py) := Vc_a.c 5 _ rfl
          have qc_a_6 : wc.cell? ⟨w.heap.size, 6, none⟩ = some (.int .i64 a.mx) := Vc_a.c 6 _ rfl
          have qc_a_7 : wc.cell? ⟨w.heap.size, 7, none⟩ = some (.int .i64 a.my) := Vc_a.c 7 _ rfl
          have fc_a := Vc_a.2.2; have Lc_a := Vc_a.lt; have Nc_a := Nat.ne_of_gt Lc_a; have Mc_a := Nat.ne_of_lt Lc_a
          have qc_b_0 : wc.cell? ⟨w.heap.size + 1, 0, none⟩ = some (.int .i64 b.shape) := Vc_b.c 0 _ rfl
          have qc_b_1 : wc.cell? ⟨w.heap.size + 1, 1, none⟩ = some (.int .i64 b.sx) := Vc_b.c 1 _ rfl
          have qc_b_2 : wc.cell? ⟨w.heap.size + 1, 2, none⟩ = some (.int .i64 b.sy) := Vc_b.c 2 _ rfl
          have qc_b_3 : wc.cell? ⟨w.heap.size + 1, 3, none⟩ = some (.int .i64 b.mass) := Vc_b.c 3 _ rfl
          have qc_b_4 : wc.cell? ⟨w.heap.size + 1, 4, none⟩ = some (.int .i64 b.px) := Vc_b.c 4 _ rfl
          have qc_b_5 : wc.cell? ⟨w.heap.size + 1, 5, none⟩ = some (.int .i64 b.py) := Vc_b.c 5 _ rfl
          have qc_b_6 : wc.cell? ⟨w.heap.size + 1, 6, none⟩ = some (.int .i64 b.mx) := Vc_b.c 6 _ rfl
          have qc_b_7 : wc.cell? ⟨w.heap.size + 1, 7, none⟩ = some (.int .i64 b.my) := Vc_b.c 7 _ rfl
          have fc_b := Vc_b.2.2; have Lc_b := Vc_b.lt; have Nc_b := Nat.ne_of_gt Lc_b; have Mc_b := Nat.ne_of_lt Lc_b
          have qc_h_0 : wc.cell? ⟨w.heap.size + 1 + 1, 0, none⟩ = some (.int .i64 h.nx) := Vc_h.c 0 _ rfl
          have qc_h_1 : wc.cell? ⟨w.heap.size + 1 + 1, 1, none⟩ = some (.int .i64 h.ny) := Vc_h.c 1 _ rfl
          have qc_h_2 : wc.cell? ⟨w.heap.size + 1 + 1, 2, none⟩ = some (.int .i64 h.d) := Vc_h.c 2 _ rfl
          have fc_h := Vc_h.2.2; have Lc_h := Vc_h.lt; have Nc_h := Nat.ne_of_gt Lc_h; have Mc_h := Nat.ne_of_lt Lc_h
          have qc_l_0 : wc.cell? ⟨w.heap.size + 1 + 1 + 1, 0, none⟩ = some (.int .i64 l) := Vc_l.c 0 _ rfl
          have fc_l := Vc_l.2.2; have Lc_l := Vc_l.lt; have Nc_l := Nat.ne_of_gt Lc_l; have Mc_l := Nat.ne_of_lt Lc_l
          have qc_j_0 : wc.cell? ⟨w.heap.size + 1 + 1 + 1 + 1, 0, none⟩ = some (.int .i64 j1) := Vc_j.c 0 _ rfl
          have qc_j_1 : wc.cell? ⟨w.heap.size + 1 + 1 + 1 + 1, 1, none⟩ = some (.int .i64 j2) := Vc_j.c 1 _ rfl
          have fc_j := Vc_j.2.2; have Lc_j := Vc_j.lt; have Nc_j := Nat.ne_of_gt Lc_j; have Mc_j := Nat.ne_of_lt Lc_j
          go_wp2_with fail
          refine (try_c 30 #[.pointer (some ⟨B, 0, none⟩), .pointer (some ⟨w.heap.size, 0, none⟩), .pointer (some ⟨w.heap.size + 1, 0, none⟩), .pointer (some ⟨w.heap.size + 1 + 1 + 1 + 1, 0, none⟩), .pointer (some ⟨wc.heap.size + 1, 0, none⟩), .pointer (some ⟨wc.heap.size + 1 + 1, 0, none⟩), .pointer (some ⟨w.heap.size + 1 + 1, 0, none⟩), .pointer (some ⟨w.heap.size + 1 + 1 + 1, 0, none⟩)] _ (0) (usBd (wc.heap.size + 1) (.ok x1) ++ usBd (wc.heap.size + 1 + 1) (.ok x2)) (fun _ => rfl) ?_ ?_).mono ?_
          · intro u hu; (try simp only [List.mem_append] at hu); (repeat' (obtain hu | hu := (hu : _ ∨ _))); all_goals (first | with_reducible rw [M.cell_block1 hu] | with_reducible rw [M.usBx_block hu] | with_reducible rw [M.usV_block hu] | with_reducible rw [M.usI_block hu] | with_reducible rw [M.usHt_block hu] | with_reducible rw [M.usBd_block hu] | with_reducible rw [M.usB_block hu] | rw [M.cell_block1 hu] | (exfalso; simp at hu; done)); all_goals ((try simp [go_sem]) <;> omega)
          · intro w1' hb; exact (cloT2 _ _ _ _ _ _ _ _ a ha b hB l hl _ _ _ _ _ _ _ _ _ _ _ _ _ _ _ _ (.ok (x1, x2)) hP.out w1' (M.Var.mono (b := B) (cs := #[.int .i64 2]) (by (repeat (first | (with_reducible assumption) | (with_reducible apply M.var_set45) | (with_reducible refine M.var_alloc' _ _ _ ?_; first | rfl | (simp [go_sem]; done)) | (with_reducible refine M.Var.alloc ?_ _) | (with_reducible refine M.Var.drewN ?_ _) | (with_reducible refine M.Var.drew ?_) | (with_reducible refine M.Var.far ?_ _ _ ?hFar; case hFar => (first | omega | ((try simp [go_sem]) <;> omega))) | fail))) hb) (M.Var.mono (b := w.heap.size) (cs := #[.int .i64 a.shape, .int .i64 a.sx, .int .i64 a.sy, .int .i64 a.mass, .int .i64 a.px, .int .i64 a.py, .int .i64 a.mx, .int .i64 a.my]) (by (repeat (first | (with_reducible assumption) | (with_reducible apply M.var_set45) | (with_reducible refine M.var_alloc' _ _ _ ?_; first | rfl | (simp [go_sem]; done)) | (with_reducible refine M.Var.alloc ?_ _) | (with_reducible refine M.Var.drewN ?_ _) | (with_reducible refine M.Var.drew ?_) | (with_reducible refine M.Var.far ?_ _ _ ?hFar; case hFar => (first | omega | ((try simp [go_sem]) <;> omega))) | fail))) hb) (M.Var.mono (b := w.heap.size + 1) (cs := #[.int .i64 b.shape, .int .i64 b.sx, .int .i64 b.sy, .int .i64 b.mass, .int .i64 b.px, .int .i64 b.py, .int .i64 b.mx, .int .i64 b.my]) (by (repeat (first | (with_reducible assumption) | (with_reducible apply M.var_set45) | (with_reducible refine M.var_alloc' _ _ _ ?_; first | rfl | (simp [go_sem]; done)) | (with_reducible refine M.Var.alloc ?_ _) | (with_reducible refine M.Var.drewN ?_ _) | (with_reducible refine M.Var.drew ?_) | (with_reducible refine M.Var.far ?_ _ _ ?hFar; case hFar => (first | omega | ((try simp [go_sem]) <;> omega))) | fail))) hb) (M.Var.mono (b := w.heap.size + 1 + 1 + 1) (cs := #[.int .i64 l]) (by (repeat (first | (with_reducible assumption) | (with_reducible apply M.var_set45) | (with_reducible refine M.var_alloc' _ _ _ ?_; first | rfl | (simp [go_sem]; done)) | (with_reducible refine M.Var.alloc ?_ _) | (with_reducible refine M.Var.drewN ?_ _) | (with_reducible refine M.Var.drew ?_) | (with_reducible refine M.Var.far ?_ _ _ ?hFar; case hFar => (first | omega | ((try simp [go_sem]) <;> omega))) | fail))) hb) (M.Var.mono (b := wc.heap.size + 1) (cs := #[.int .i64 0, .int .i64 0, .int .i64 0, .int .i64 0, .int .i64 0, .int .i64 0, .int .i64 0, .int .i64 0]) (by (repeat (first | (with_reducible assumption) | (with_reducible apply M.var_set45) | (with_reducible refine M.var_alloc' _ _ _ ?_; first | rfl | (simp [go_sem]; done)) | (with_reducible refine M.Var.alloc ?_ _) | (with_reducible refine M.Var.drewN ?_ _) | (with_reducible refine M.Var.drew ?_) | (with_reducible refine M.Var.far ?_ _ _ ?hFar; case hFar => (first | omega | ((try simp [go_sem]) <;> omega))) | fail))) hb) (M.Var.mono (b := wc.heap.size + 1 + 1) (cs := #[.int .i64 0, .int .i64 0, .int .i64 0, .int .i64 0, .int .i64 0, .int .i64 0, .int .i64 0, .int .i64 0]) (by (repeat (first | (with_reducible assumption) | (with_reducible apply M.var_set45) | (with_reducible refine M.var_alloc' _ _ _ ?_; first | rfl | (simp [go_sem]; done)) | (with_reducible refine M.Var.alloc ?_ _) | (with_reducible refine M.Var.drewN ?_ _) | (with_reducible refine M.Var.drew ?_) | (with_reducible refine M.Var.far ?_ _ _ ?hFar; case hFar => (first | omega | ((try simp [go_sem]) <;> omega))) | fail))) hb) (by omega)).mono fun e w' h => h
          rintro en w12 ⟨rfl, hb⟩
          have G12 : Below w.heap.size w w12 := by refine Below.trans ?_ (hb.mono (by go_size)); exact M.below_sets_own _ (by have G := HGc.out; (repeat (with_reducible refine M.Below.drewN ?_ _)); go_grown) (by intro u hu; (try simp only [List.mem_append] at hu); (repeat' (obtain hu | hu := (hu : _ ∨ _))); all_goals (first | with_reducible rw [M.cell_block1 hu] | with_reducible rw [M.usBx_block hu] | with_reducible rw [M.usV_block hu] | with_reducible rw [M.usI_block hu] | with_reducible rw [M.usHt_block hu] | with_reducible rw [M.usBd_block hu] | with_reducible rw [M.usB_block hu] | rw [M.cell_block1 hu] | (exfalso; simp at hu; done)); all_goals ((try simp [go_sem]) <;> omega))
          have VV12 : M.Var w12 (w.heap.size) #[.int .i64 a.shape, .int .i64 a.sx, .int .i64 a.sy, .int .i64 a.mass, .int .i64 a.px, .int .i64 a.py, .int .i64 a.mx, .int .i64 a.my] ∧ M.Var w12 (w.heap.size + 1) #[.int .i64 b.shape, .int .i64 b.sx, .int .i64 b.sy, .int .i64 b.mass, .int .i64 b.px, .int .i64 b.py, .int .i64 b.mx, .int .i64 b.my] ∧ M.Var w12 (w.heap.size + 1 + 1) #[.int .i64 h.nx, .int .i64 h.ny, .int .i64 h.d] ∧ M.Var w12 (w.heap.size + 1 + 1 + 1) #[.int .i64 l] ∧ M.Var w12 (w.heap.size + 1 + 1 + 1 + 1) #[.int .i64 j1, .int .i64 j2] ∧ M.Var w12 (B) #[.int .i64 2] ∧ M.Var w12 (wc.heap.size) #[.int .i64 0] ∧ M.Var w12 (wc.heap.size + 1 + 1 + 1) #[.int .i64 0, .int .i64 0, .int .i64 0, .int .i64 0, .int .i64 0, .int .i64 0, .int .i64 0, .int .i64 0] ∧ M.Var w12 (wc.heap.size + 1 + 1 + 1 + 1) #[.int .i64 0, .int .i64 0, .int .i64 0, .int .i64 0, .int .i64 0, .int .i64 0, .int .i64 0, .int .i64 0] := by refine ⟨?_, ?_, ?_, ?_, ?_, ?_, ?_, ?_, ?_⟩ <;> (refine M.Var.mono' ?_ (M.sets_size _ _) hb; (try simp only [M.sets_append]); exact (M.var_sets_far _ (M.var_sets_far _ (by (repeat (first | (with_reducible assumption) | (with_reducible apply M.var_set45) | (with_reducible refine M.var_alloc' _ _ _ ?_; first | rfl | (simp [go_sem]; done)) | (with_reducible refine M.Var.alloc ?_ _) | (with_reducible refine M.Var.drewN ?_ _) | (with_reducible refine M.Var.drew ?_) | (with_reducible refine M.Var.far ?_ _ _ ?hFar; case hFar => (first | omega | ((try simp [go_sem]) <;> omega))) | fail))) (by intro u hu; all_goals (first | with_reducible rw [M.cell_block1 hu] | with_reducible rw [M.usBx_block hu] | with_reducible rw [M.usV_block hu] | with_reducible rw [M.usI_block hu] | with_reducible rw [M.usHt_block hu] | with_reducible rw [M.usBd_block hu] | with_reducible rw [M.usB_block hu] | rw [M.cell_block1 hu] | (exfalso; simp at hu; done)); all_goals ((try simp [go_sem]) <;> omega))) (by intro u hu; all_goals (first | with_reducible rw [M.cell_block1 hu] | with_reducible rw [M.usBx_block hu] | with_reducible rw [M.usV_block hu] | with_reducible rw [M.usI_block hu] | with_reducible rw [M.usHt_block hu] | with_reducible rw [M.usBd_block hu] | with_reducible rw [M.usB_block hu] | rw [M.cell_block1 hu] | (exfalso; simp at hu; done)); all_goals ((try simp [go_sem]) <;> omega))))
          obtain ⟨V12_a, V12_b, V12_h, V12_l, V12_j, V12_o, V12_c, V12_u, V12_v⟩ := VV12
          have V12_x : M.Var w12 (wc.heap.size + 1) #[.int .i64 x1.shape, .int .i64 x1.sx, .int .i64 x1.sy, .int .i64 x1.mass, .int .i64 x1.px, .int .i64 x1.py, .int .i64 x1.mx, .int .i64 x1.my] := by refine M.Var.mono' ?_ (M.sets_size _ _) hb; (try simp only [M.sets_append]); exact (M.var_sets_far _ (M.var_setBd (by (repeat (first | (with_reducible assumption) | (with_reducible apply M.var_set45) | (with_reducible refine M.var_alloc' _ _ _ ?_; first | rfl | (simp [go_sem]; done)) | (with_reducible refine M.Var.alloc ?_ _) | (with_reducible refine M.Var.drewN ?_ _) | (with_reducible refine M.Var.drew ?_) | (with_reducible refine M.Var.far ?_ _ _ ?hFar; case hFar => (first | omega | ((try simp [go_sem]) <;> omega))) | fail)) : M.Var _ (wc.heap.size + 1) #[.int .i64 0, .int .i64 0, .int .i64 0, .int .i64 0, .int .i64 0, .int .i64 0, .int .i64 0, .int .i64 0]) _ _ _ _ _ _ _ _) (by intro u hu; all_goals (first | with_reducible rw [M.cell_block1 hu] | with_reducible rw [M.usBx_block hu] | with_reducible rw [M.usV_block hu] | with_reducible rw [M.usI_block hu] | with_reducible rw [M.usHt_block hu] | with_reducible rw [M.usBd_block hu] | with_reducible rw [M.usB_block hu] | rw [M.cell_block1 hu] | (exfalso; simp at hu; done)); all_goals ((try simp [go_sem]) <;> omega)))
          have V12_y : M.Var w12 (wc.heap.size + 1 + 1) #[.int .i64 x2.shape, .int .i64 x2.sx, .int .i64 x2.sy, .int .i64 x2.mass, .int .i64 x2.px, .int .i64 x2.py, .int .i64 x2.mx, .int .i64 x2.my] := by refine M.Var.mono' ?_ (M.sets_size _ _) hb; (try simp only [M.sets_append]); exact (M.var_setBd (M.var_sets_far _ (by (repeat (first | (with_reducible assumption) | (with_reducible apply M.var_set45) | (with_reducible refine M.var_alloc' _ _ _ ?_; first | rfl | (simp [go_sem]; done)) | (with_reducible refine M.Var.alloc ?_ _) | (with_reducible refine M.Var.drewN ?_ _) | (with_reducible refine M.Var.drew ?_) | (with_reducible refine M.Var.far ?_ _ _ ?hFar; case hFar => (first | omega | ((try simp [go_sem]) <;> omega))) | fail)) : M.Var _ (wc.heap.size + 1 + 1) #[.int .i64 0, .int .i64 0, .int .i64 0, .int .i64 0, .int .i64 0, .int .i64 0, .int .i64 0, .int .i64 0]) (by intro u hu; all_goals (first | with_reducible rw [M.cell_block1 hu] | with_reducible rw [M.usBx_block hu] | with_reducible rw [M.usV_block hu] | with_reducible rw [M.usI_block hu] | with_reducible rw [M.usHt_block hu] | with_reducible rw [M.usBd_block hu] | with_reducible rw [M.usB_block hu] | rw [M.cell_block1 hu] | (exfalso; simp at hu; done)); all_goals ((try simp [go_sem]) <;> omega))) _ _ _ _ _ _ _ _)
          have q12_a_0 : w12.cell? ⟨w.heap.size, 0, none⟩ = some (.int .i64 a.shape) := V12_a.c 0 _ rfl
          have q12_a_1 : w12.cell? ⟨w.heap.size, 1, none⟩ = some (.int .i64 a.sx) := V12_a.c 1 _ rfl
          have q12_a_2 : w12.cell? ⟨w.heap.size, 2, none⟩ = some (.int .i64 a.sy) := V12_a.c 2 _ rfl
          have q12_a_3 : w12.cell? ⟨w.heap.size, 3, none⟩ = some (.int .i64 a.mass) := V12_a.c 3 _ rfl
          have q12_a_4 : w12.cell? ⟨w.heap.size, 4, none⟩ = some (.int .i64 a.px) := V12_a.c 4 _ rfl
          have q12_a_5 : w12.cell? ⟨w.heap.size, 5, none⟩ = some (.int .i64 a.py) := V12_a.c 5 _ rfl
          have q12_a_6 : w12.cell? ⟨w.heap.size, 6, none⟩ = some (.int .i64 a.mx) := V12_a.c 6 _ rfl
          have q12_a_7 : w12.cell? ⟨w.heap.size, 7, none⟩ = some (.int .i64 a.my) := V12_a.c 7 _ rfl
          have f12_a := V12_a.2.2; have L12_a := V12_a.lt; have N12_a := Nat.ne_of_gt L12_a; have M12_a := Nat.ne_of_lt L12_a
          have HV12_a := Lib.hid V12_a
          have q12_b_0 : w12.cell? ⟨w.heap.size + 1, 0, none⟩ = some (.int .i64 b.shape) := V12_b.c 0 _ rfl
          have q12_b_1 : w12.cell? ⟨w.heap.size + 1, 1, none⟩ = some (.int .i64 b.sx) := V12_b.c 1 _ rfl
          have q12_b_2 : w12.cell? ⟨w.heap.size + 1, 2, none⟩ = some (.int .i64 b.sy) := V12_b.c 2 _ rfl
          have q12_b_3 : w12.cell? ⟨w.heap.size + 1, 3, none⟩ = some (.int .i64 b.mass) := V12_b.c 3 _ rfl
          have q12_b_4 : w12.cell? ⟨w.heap.size + 1, 4, none⟩ = some (.int .i64 b.px) := V12_b.c 4 _ rfl
          have q12_b_5 : w12.cell? ⟨w.heap.size + 1, 5, none⟩ = some (.int .i64 b.py) := V12_b.c 5 _ rfl
          have q12_b_6 : w12.cell? ⟨w.heap.size + 1, 6, none⟩ = some (.int .i64 b.mx) := V12_b.c 6 _ rfl
          have q12_b_7 : w12.cell? ⟨w.heap.size + 1, 7, none⟩ = some (.int .i64 b.my) := V12_b.c 7 _ rfl
          have f12_b := V12_b.2.2; have L12_b := V12_b.lt; have N12_b := Nat.ne_of_gt L12_b; have M12_b := Nat.ne_of_lt L12_b
          have HV12_b := Lib.hid V12_b
          have q12_h_0 : w12.cell? ⟨w.heap.size + 1 + 1, 0, none⟩ = some (.int .i64 h.nx) := V12_h.c 0 _ rfl
          have q12_h_1 : w12.cell? ⟨w.heap.size + 1 + 1, 1, none⟩ = some (.int .i64 h.ny) := V12_h.c 1 _ rfl
          have q12_h_2 : w12.cell? ⟨w.heap.size + 1 + 1, 2, none⟩ = some (.int .i64 h.d) := V12_h.c 2 _ rfl
          have f12_h := V12_h.2.2; have L12_h := V12_h.lt; have N12_h := Nat.ne_of_gt L12_h; have M12_h := Nat.ne_of_lt L12_h
          have HV12_h := Lib.hid V12_h
          have q12_l_0 : w12.cell? ⟨w.heap.size + 1 + 1 + 1, 0, none⟩ = some (.int .i64 l) := V12_l.c 0 _ rfl
          have f12_l := V12_l.2.2; have L12_l := V12_l.lt; have N12_l := Nat.ne_of_gt L12_l; have M12_l := Nat.ne_of_lt L12_l
          have HV12_l := Lib.hid V12_l
          have q12_j_0 : w12.cell? ⟨w.heap.size + 1 + 1 + 1 + 1, 0, none⟩ = some (.int .i64 j1) := V12_j.c 0 _ rfl
          have q12_j_1 : w12.cell? ⟨w.heap.size + 1 + 1 + 1 + 1, 1, none⟩ = some (.int .i64 j2) := V12_j.c 1 _ rfl
          have f12_j := V12_j.2.2; have L12_j := V12_j.lt; have N12_j := Nat.ne_of_gt L12_j; have M12_j := Nat.ne_of_lt L12_j
          have HV12_j := Lib.hid V12_j
          have q12_o_0 : w12.cell? ⟨B, 0, none⟩ = some (.int .i64 2) := V12_o.c 0 _ rfl
          have f12_o := V12_o.2.2; have L12_o := V12_o.lt; have N12_o := Nat.ne_of_gt L12_o; have M12_o := Nat.ne_of_lt L12_o
          have HV12_o := Lib.hid V12_o
          have q12_c_0 : w12.cell? ⟨wc.heap.size, 0, none⟩ = some (.int .i64 0) := V12_c.c 0 _ rfl
          have f12_c := V12_c.2.2; have L12_c := V12_c.lt; have N12_c := Nat.ne_of_gt L12_c; have M12_c := Nat.ne_of_lt L12_c
          have HV12_c := Lib.hid V12_c
          have q12_x_0 : w12.cell? ⟨wc.heap.size + 1, 0, none⟩ = some (.int .i64 x1.shape) := V12_x.c 0 _ rfl
          have q12_x_1 : w12.cell? ⟨wc.heap.size + 1, 1, none⟩ = some (.int .i64 x1.sx) := V12_x.c 1 _ rfl
          have q12_x_2 : w12.cell? ⟨wc.heap.size + 1, 2, none⟩ = some (.int .i64 x1.sy) := V12_x.c 2 _ rfl
          have q12_x_3 : w12.cell? ⟨wc.heap.size + 1, 3, none⟩ = some (.int .i64 x1.mass) := V12_x.c 3 _ rfl
          have q12_x_4 : w12.cell? ⟨wc.heap.size + 1, 4, none⟩ = some (.int .i64 x1.px) := V12_x.c 4 _ rfl
          have q12_x_5 : w12.cell? ⟨wc.heap.size + 1, 5, none⟩ = some (.int .i64 x1.py) := V12_x.c 5 _ rfl
          have q12_x_6 : w12.cell? ⟨wc.heap.size + 1, 6, none⟩ = some (.int .i64 x1.mx) := V12_x.c 6 _ rfl
          have q12_x_7 : w12.cell? ⟨wc.heap.size + 1, 7, none⟩ = some (.int .i64 x1.my) := V12_x.c 7 _ rfl
          have f12_x := V12_x.2.2; have L12_x := V12_x.lt; have N12_x := Nat.ne_of_gt L12_x; have M12_x := Nat.ne_of_lt L12_x
          have HV12_x := Lib.hid V12_x
          have q12_y_0 : w12.cell? ⟨wc.heap.size + 1 + 1, 0, none⟩ = some (.int .i64 x2.shape) := V12_y.c 0 _ rfl
          have q12_y_1 : w12.cell? ⟨wc.heap.size + 1 + 1, 1, none⟩ = some (.int .i64 x2.sx) := V12_y.c 1 _ rfl
          have q12_y_2 : w12.cell? ⟨wc.heap.size + 1 + 1, 2, none⟩ = some (.int .i64 x2.sy) := V12_y.c 2 _ rfl
          have q12_y_3 : w12.cell? ⟨wc.heap.size + 1 + 1, 3, none⟩ = some (.int .i64 x2.mass) := V12_y.c 3 _ rfl
          have q12_y_4 : w12.cell? ⟨wc.heap.size + 1 + 1, 4, none⟩ = some (.int .i64 x2.px) := V12_y.c 4 _ rfl
          have q12_y_5 : w12.cell? ⟨wc.heap.size + 1 + 1, 5, none⟩ = some (.int .i64 x2.py) := V12_y.c 5 _ rfl
          have q12_y_6 : w12.cell? ⟨wc.heap.size + 1 + 1, 6, none⟩ = some (.int .i64 x2.mx) := V12_y.c 6 _ rfl
          have q12_y_7 : w12.cell? ⟨wc.heap.size + 1 + 1, 7, none⟩ = some (.int .i64 x2.my) := V12_y.c 7 _ rfl
          have f12_y := V12_y.2.2; have L12_y := V12_y.lt; have N12_y := Nat.ne_of_gt L12_y; have M12_y := Nat.ne_of_lt L12_y
          have HV12_y := Lib.hid V12_y
          have q12_u_0 : w12.cell? ⟨wc.heap.size + 1 + 1 + 1, 0, none⟩ = some (.int .i64 0) := V12_u.c 0 _ rfl
          have q12_u_1 : w12.cell? ⟨wc.heap.size + 1 + 1 + 1, 1, none⟩ = some (.int .i64 0) := V12_u.c 1 _ rfl
          have q12_u_2 : w12.cell? ⟨wc.heap.size + 1 + 1 + 1, 2, none⟩ = some (.int .i64 0) := V12_u.c 2 _ rfl
          have q12_u_3 : w12.cell? ⟨wc.heap.size + 1 + 1 + 1, 3, none⟩ = some (.int .i64 0) := V12_u.c 3 _ rfl
          have q12_u_4 : w12.cell? ⟨wc.heap.size + 1 + 1 + 1, 4, none⟩ = some (.int .i64 0) := V12_u.c 4 _ rfl
          have q12_u_5 : w12.cell? ⟨wc.heap.size + 1 + 1 + 1, 5, none⟩ = some (.int .i64 0) := V12_u.c 5 _ rfl
          have q12_u_6 : w12.cell? ⟨wc.heap.size + 1 + 1 + 1, 6, none⟩ = some (.int .i64 0) := V12_u.c 6 _ rfl
          have q12_u_7 : w12.cell? ⟨wc.heap.size + 1 + 1 + 1, 7, none⟩ = some (.int .i64 0) := V12_u.c 7 _ rfl
          have f12_u := V12_u.2.2; have L12_u := V12_u.lt; have N12_u := Nat.ne_of_gt L12_u; have M12_u := Nat.ne_of_lt L12_u
          have HV12_u := Lib.hid V12_u
          have q12_v_0 : w12.cell? ⟨wc.heap.size + 1 + 1 + 1 + 1, 0, none⟩ = some (.int .i64 0) := V12_v.c 0 _ rfl
          have q12_v_1 : w12.cell? ⟨wc.heap.size + 1 + 1 + 1 + 1, 1, none⟩ = some (.int .i64 0) := V12_v.c 1 _ rfl
          have q12_v_2 : w12.cell? ⟨wc.heap.size + 1 + 1 + 1 + 1, 2, none⟩ = some (.int .i64 0) := V12_v.c 2 _ rfl
          have q12_v_3 : w12.cell? ⟨wc.heap.size + 1 + 1 + 1 + 1, 3, none⟩ = some (.int .i64 0) := V12_v.c 3 _ rfl
          have q12_v_4 : w12.cell? ⟨wc.heap.size + 1 + 1 + 1 + 1, 4, none⟩ = some (.int .i64 0) := V12_v.c 4 _ rfl
          have q12_v_5 : w12.cell? ⟨wc.heap.size + 1 + 1 + 1 + 1, 5, none⟩ = some (.int .i64 0) := V12_v.c 5 _ rfl
          have q12_v_6 : w12.cell? ⟨wc.heap.size + 1 + 1 + 1 + 1, 6, none⟩ = some (.int .i64 0) := V12_v.c 6 _ rfl
          have q12_v_7 : w12.cell? ⟨wc.heap.size + 1 + 1 + 1 + 1, 7, none⟩ = some (.int .i64 0) := V12_v.c 7 _ rfl
          have f12_v := V12_v.2.2; have L12_v := V12_v.lt; have N12_v := Nat.ne_of_gt L12_v; have M12_v := Nat.ne_of_lt L12_v
          have HV12_v := Lib.hid V12_v
          have S12 := G12.size; clear hb
          go_wp2_with fail
          (with_reducible refine (K1.out _ _ (M.pcell_var (by (repeat (first | (with_reducible assumption) | (with_reducible apply M.var_set45) | (with_reducible refine M.var_alloc' _ _ _ ?_; first | rfl | (simp [go_sem]; done)) | (with_reducible refine M.Var.alloc ?_ _) | (with_reducible refine M.Var.drewN ?_ _) | (with_reducible refine M.Var.drew ?_) | (with_reducible refine M.Var.far ?_ _ _ ?hFar; case hFar => (first | omega | ((try simp [go_sem]) <;> omega))) | fail)) : M.Var _ (wc.heap.size) #[.int .i64 0]))).mono ?_); rintro en w13 ⟨rfl, hb⟩
          have G13 : Below w.heap.size w w13 := Below.trans (M.below_sets_own ([(⟨wc.heap.size, 0, none⟩, .int .i64 0)]) (by have G := HGc.out; (repeat (with_reducible refine M.Below.drewN ?_ _)); go_grown) (by intro u hu; rw [M.cell_block1 hu]; dsimp only; omega)) (hb.mono (by go_size))
          have VV13 : M.Var w13 (w.heap.size) #[.int .i64 a.shape, .int .i64 a.sx, .int .i64 a.sy, .int .i64 a.mass, .int .i64 a.px, .int .i64 a.py, .int .i64 a.mx, .int .i64 a.my] ∧ M.Var w13 (w.heap.size + 1) #[.int .i64 b.shape, .int .i64 b.sx, .int .i64 b.sy, .int .i64 b.mass, .int .i64 b.px, .int .i64 b.py, .int .i64 b.mx, .int .i64 b.my] ∧ M.Var w13 (w.heap.size + 1 + 1) #[.int .i64 h.nx, .int .i64 h.ny, .int .i64 h.d] ∧ M.Var w13 (w.heap.size + 1 + 1 + 1) #[.int .i64 l] ∧ M.Var w13 (w.heap.size + 1 + 1 + 1 + 1) #[.int .i64 j1, .int .i64 j2] ∧ M.Var w13 (B) #[.int .i64 2] ∧ M.Var w13 (wc.heap.size + 1) #[.int .i64 x1.shape, .int .i64 x1.sx, .int .i64 x1.sy, .int .i64 x1.mass, .int .i64 x1.px, .int .i64 x1.py, .int .i64 x1.mx, .int .i64 x1.my] ∧ M.Var w13 (wc.heap.size + 1 + 1) #[.int .i64 x2.shape, .int .i64 x2.sx, .int .i64 x2.sy, .int .i64 x2.mass, .int .i64 x2.px, .int .i64 x2.py, .int .i64 x2.mx, .int .i64 x2.my] ∧ M.Var w13 (wc.heap.size + 1 + 1 + 1) #[.int .i64 0, .int .i64 0, .int .i64 0, .int .i64 0, .int .i64 0, .int .i64 0, .int .i64 0, .int .i64 0] ∧ M.Var w13 (wc.heap.size + 1 + 1 + 1 + 1) #[.int .i64 0, .int .i64 0, .int .i64 0, .int .i64 0, .int .i64 0, .int .i64 0, .int .i64 0, .int .i64 0] := by refine ⟨?_, ?_, ?_, ?_, ?_, ?_, ?_, ?_, ?_, ?_⟩ <;> (refine M.Var.mono' (u := M.sets _ ([(⟨wc.heap.size, 0, none⟩, .int .i64 0)])) ?_ (M.sets_size _ _) hb; (try simp only [M.sets_append]); exact (M.var_sets_far _ (by (repeat (first | (with_reducible assumption) | (with_reducible apply M.var_set45) | (with_reducible refine M.var_alloc' _ _ _ ?_; first | rfl | (simp [go_sem]; done)) | (with_reducible refine M.Var.alloc ?_ _) | (with_reducible refine M.Var.drewN ?_ _) | (with_reducible refine M.Var.drew ?_) | (with_reducible refine M.Var.far ?_ _ _ ?hFar; case hFar => (first | omega | ((try simp [go_sem]) <;> omega))) | fail))) (by intro u hu; all_goals (first | with_reducible rw [M.cell_block1 hu] | with_reducible rw [M.usBx_block hu] | with_reducible rw [M.usV_block hu] | with_reducible rw [M.usI_block hu] | with_reducible rw [M.usHt_block hu] | with_reducible rw [M.usBd_block hu] | with_reducible rw [M.usB_block hu] | rw [M.cell_block1 hu] | (exfalso; simp at hu; done)); all_goals ((try simp [go_sem]) <;> omega))))
          obtain ⟨V13_a, V13_b, V13_h, V13_l, V13_j, V13_o, V13_x, V13_y, V13_u, V13_v⟩ := VV13
          have V13_c : M.Var w13 (wc.heap.size) #[.int .i64 0] := by refine M.Var.mono' (u := M.sets _ ([(⟨wc.heap.size, 0, none⟩, .int .i64 0)])) ?_ (M.sets_size _ _) hb; (try simp only [M.sets_append]); exact (M.var_setI (by (repeat (first | (with_reducible assumption) | (with_reducible apply M.var_set45) | (with_reducible refine M.var_alloc' _ _ _ ?_; first | rfl | (simp [go_sem]; done)) | (with_reducible refine M.Var.alloc ?_ _) | (with_reducible refine M.Var.drewN ?_ _) | (with_reducible refine M.Var.drew ?_) | (with_reducible refine M.Var.far ?_ _ _ ?hFar; case hFar => (first | omega | ((try simp [go_sem]) <;> omega))) | fail)) : M.Var _ (wc.heap.size) #[.int .i64 0]) _)
          have q13_a_0 : w13.cell? ⟨w.heap.size, 0, none⟩ = some (.int .i64 a.shape) := V13_a.c 0 _ rfl
          have q13_a_1 : w13.cell? ⟨w.heap.size, 1, none⟩ = some (.int .i64 a.sx) := V13_a.c 1 _ rfl
          have q13_a_2 : w13.cell? ⟨w.heap.size, 2, none⟩ = some (.int .i64 a.sy) := V13_a.c 2 _ rfl
          have q13_a_3 : w13.cell? ⟨w.heap.size, 3, none⟩ = some (.int .i64 a.mass) := V13_a.c 3 _ rfl
          have q13_a_4 : w13.cell? ⟨w.heap.size, 4, none⟩ = some (.int .i64 a.px) := V13_a.c 4 _ rfl
          have q13_a_5 : w13.cell? ⟨w.heap.size, 5, none⟩ = some (.int .i64 a.py) := V13_a.c 5 _ rfl
          have q13_a_6 : w13.cell? ⟨w.heap.size, 6, none⟩ = some (.int .i64 a.mx) := V13_a.c 6 _ rfl
          have q13_a_7 : w13.cell? ⟨w.heap.size, 7, none⟩ = some (.int .i64 a.my) := V13_a.c 7 _ rfl
          have f13_a := V13_a.2.2; have L13_a := V13_a.lt; have N13_a := Nat.ne_of_gt L13_a; have M13_a := Nat.ne_of_lt L13_a
          have HV13_a := Lib.hid V13_a
          have q13_b_0 : w13.cell? ⟨w.heap.size + 1, 0, none⟩ = some (.int .i64 b.shape) := V13_b.c 0 _ rfl
          have q13_b_1 : w13.cell? ⟨w.heap.size + 1, 1, none⟩ = some (.int .i64 b.sx) := V13_b.c 1 _ rfl
          have q13_b_2 : w13.cell? ⟨w.heap.size + 1, 2, none⟩ = some (.int .i64 b.sy) := V13_b.c 2 _ rfl
          have q13_b_3 : w13.cell? ⟨w.heap.size + 1, 3, none⟩ = some (.int .i64 b.mass) := V13_b.c 3 _ rfl
          have q13_b_4 : w13.cell? ⟨w.heap.size + 1, 4, none⟩ = some (.int .i64 b.px) := V13_b.c 4 _ rfl
          have q13_b_5 : w13.cell? ⟨w.heap.size + 1, 5, none⟩ = some (.int .i64 b.py) := V13_b.c 5 _ rfl
          have q13_b_6 : w13.cell? ⟨w.heap.size + 1, 6, none⟩ = some (.int .i64 b.mx) := V13_b.c 6 _ rfl
          have q13_b_7 : w13.cell? ⟨w.heap.size + 1, 7, none⟩ = some (.int .i64 b.my) := V13_b.c 7 _ rfl
          have f13_b := V13_b.2.2; have L13_b := V13_b.lt; have N13_b := Nat.ne_of_gt L13_b; have M13_b := Nat.ne_of_lt L13_b
          have HV13_b := Lib.hid V13_b
          have q13_h_0 : w13.cell? ⟨w.heap.size + 1 + 1, 0, none⟩ = some (.int .i64 h.nx) := V13_h.c 0 _ rfl
          have q13_h_1 : w13.cell? ⟨w.heap.size + 1 + 1, 1, none⟩ = some (.int .i64 h.ny) := V13_h.c 1 _ rfl
          have q13_h_2 : w13.cell? ⟨w.heap.size + 1 + 1, 2, none⟩ = some (.int .i64 h.d) := V13_h.c 2 _ rfl
          have f13_h := V13_h.2.2; have L13_h := V13_h.lt; have N13_h := Nat.ne_of_gt L13_h; have M13_h := Nat.ne_of_lt L13_h
          have HV13_h := Lib.hid V13_h
          have q13_l_0 : w13.cell? ⟨w.heap.size + 1 + 1 + 1, 0, none⟩ = some (.int .i64 l) := V13_l.c 0 _ rfl
          have f13_l := V13_l.2.2; have L13_l := V13_l.lt; have N13_l := Nat.ne_of_gt L13_l; have M13_l := Nat.ne_of_lt L13_l
          have HV13_l := Lib.hid V13_l
          have q13_j_0 : w13.cell? ⟨w.heap.size + 1 + 1 + 1 + 1, 0, none⟩ = some (.int .i64 j1) := V13_j.c 0 _ rfl
          have q13_j_1 : w13.cell? ⟨w.heap.size + 1 + 1 + 1 + 1, 1, none⟩ = some (.int .i64 j2) := V13_j.c 1 _ rfl
          have f13_j := V13_j.2.2; have L13_j := V13_j.lt; have N13_j := Nat.ne_of_gt L13_j; have M13_j := Nat.ne_of_lt L13_j
          have HV13_j := Lib.hid V13_j
          have q13_o_0 : w13.cell? ⟨B, 0, none⟩ = some (.int .i64 2) := V13_o.c 0 _ rfl
          have f13_o := V13_o.2.2; have L13_o := V13_o.lt; have N13_o := Nat.ne_of_gt L13_o; have M13_o := Nat.ne_of_lt L13_o
          have HV13_o := Lib.hid V13_o
          have q13_c_0 : w13.cell? ⟨wc.heap.size, 0, none⟩ = some (.int .i64 0) := V13_c.c 0 _ rfl
          have f13_c := V13_c.2.2; have L13_c := V13_c.lt; have N13_c := Nat.ne_of_gt L13_c; have M13_c := Nat.ne_of_lt L13_c
          have HV13_c := Lib.hid V13_c
          have q13_x_0 : w13.cell? ⟨wc.heap.size + 1, 0, none⟩ = some (.int .i64 x1.shape) := V13_x.c 0 _ rfl
          have q13_x_1 : w13.cell? ⟨wc.heap.size + 1, 1, none⟩ = some (.int .i64 x1.sx) := V13_x.c 1 _ rfl
          have q13_x_2 : w13.cell? ⟨wc.heap.size + 1, 2, none⟩ = some (.int .i64 x1.sy) := V13_x.c 2 _ rfl
          have q13_x_3 : w13.cell? ⟨wc.heap.size + 1, 3, none⟩ = some (.int .i64 x1.mass) := V13_x.c 3 _ rfl
          have q13_x_4 : w13.cell? ⟨wc.heap.size + 1, 4, none⟩ = some (.int .i64 x1.px) := V13_x.c 4 _ rfl
          have q13_x_5 : w13.cell? ⟨wc.heap.size + 1, 5, none⟩ = some (.int .i64 x1.py) := V13_x.c 5 _ rfl
          have q13_x_6 : w13.cell? ⟨wc.heap.size + 1, 6, none⟩ = some (.int .i64 x1.mx) := V13_x.c 6 _ rfl
          have q13_x_7 : w13.cell? ⟨wc.heap.size + 1, 7, none⟩ = some (.int .i64 x1.my) := V13_x.c 7 _ rfl
          have f13_x := V13_x.2.2; have L13_x := V13_x.lt; have N13_x := Nat.ne_of_gt L13_x; have M13_x := Nat.ne_of_lt L13_x
          have HV13_x := Lib.hid V13_x
          have q13_y_0 : w13.cell? ⟨wc.heap.size + 1 + 1, 0, none⟩ = some (.int .i64 x2.shape) := V13_y.c 0 _ rfl
          have q13_y_1 : w13.cell? ⟨wc.heap.size + 1 + 1, 1, none⟩ = some (.int .i64 x2.sx) := V13_y.c 1 _ rfl
          have q13_y_2 : w13.cell? ⟨wc.heap.size + 1 + 1, 2, none⟩ = some (.int .i64 x2.sy) := V13_y.c 2 _ rfl
          have q13_y_3 : w13.cell? ⟨wc.heap.size + 1 + 1, 3, none⟩ = some (.int .i64 x2.mass) := V13_y.c 3 _ rfl
          have q13_y_4 : w13.cell? ⟨wc.heap.size + 1 + 1, 4, none⟩ = some (.int .i64 x2.px) := V13_y.c 4 _ rfl
          have q13_y_5 : w13.cell? ⟨wc.heap.size + 1 + 1, 5, none⟩ = some (.int .i64 x2.py) := V13_y.c 5 _ rfl
          have q13_y_6 : w13.cell? ⟨wc.heap.size + 1 + 1, 6, none⟩ = some (.int .i64 x2.mx) := V13_y.c 6 _ rfl
          have q13_y_7 : w13.cell? ⟨wc.heap.size + 1 + 1, 7, none⟩ = some (.int .i64 x2.my) := V13_y.c 7 _ rfl
          have f13_y := V13_y.2.2; have L13_y := V13_y.lt; have N13_y := Nat.ne_of_gt L13_y; have M13_y := Nat.ne_of_lt L13_y
          have HV13_y := Lib.hid V13_y
          have q13_u_0 : w13.cell? ⟨wc.heap.size + 1 + 1 + 1, 0, none⟩ = some (.int .i64 0) := V13_u.c 0 _ rfl
          have q13_u_1 : w13.cell? ⟨wc.heap.size + 1 + 1 + 1, 1, none⟩ = some (.int .i64 0) := V13_u.c 1 _ rfl
          have q13_u_2 : w13.cell? ⟨wc.heap.size + 1 + 1 + 1, 2, none⟩ = some (.int .i64 0) := V13_u.c 2 _ rfl
          have q13_u_3 : w13.cell? ⟨wc.heap.size + 1 + 1 + 1, 3, none⟩ = some (.int .i64 0) := V13_u.c 3 _ rfl
          have q13_u_4 : w13.cell? ⟨wc.heap.size + 1 + 1 + 1, 4, none⟩ = some (.int .i64 0) := V13_u.c 4 _ rfl
          have q13_u_5 : w13.cell? ⟨wc.heap.size + 1 + 1 + 1, 5, none⟩ = some (.int .i64 0) := V13_u.c 5 _ rfl
          have q13_u_6 : w13.cell? ⟨wc.heap.size + 1 + 1 + 1, 6, none⟩ = some (.int .i64 0) := V13_u.c 6 _ rfl
          have q13_u_7 : w13.cell? ⟨wc.heap.size + 1 + 1 + 1, 7, none⟩ = some (.int .i64 0) := V13_u.c 7 _ rfl
          have f13_u := V13_u.2.2; have L13_u := V13_u.lt; have N13_u := Nat.ne_of_gt L13_u; have M13_u := Nat.ne_of_lt L13_u
          have HV13_u := Lib.hid V13_u
          have q13_v_0 : w13.cell? ⟨wc.heap.size + 1 + 1 + 1 + 1, 0, none⟩ = some (.int .i64 0) := V13_v.c 0 _ rfl
          have q13_v_1 : w13.cell? ⟨wc.heap.size + 1 + 1 + 1 + 1, 1, none⟩ = some (.int .i64 0) := V13_v.c 1 _ rfl
          have q13_v_2 : w13.cell? ⟨wc.heap.size + 1 + 1 + 1 + 1, 2, none⟩ = some (.int .i64 0) := V13_v.c 2 _ rfl
          have q13_v_3 : w13.cell? ⟨wc.heap.size + 1 + 1 + 1 + 1, 3, none⟩ = some (.int .i64 0) := V13_v.c 3 _ rfl
          have q13_v_4 : w13.cell? ⟨wc.heap.size + 1 + 1 + 1 + 1, 4, none⟩ = some (.int .i64 0) := V13_v.c 4 _ rfl
          have q13_v_5 : w13.cell? ⟨wc.heap.size + 1 + 1 + 1 + 1, 5, none⟩ = some (.int .i64 0) := V13_v.c 5 _ rfl
          have q13_v_6 : w13.cell? ⟨wc.heap.size + 1 + 1 + 1 + 1, 6, none⟩ = some (.int .i64 0) := V13_v.c 6 _ rfl
          have q13_v_7 : w13.cell? ⟨wc.heap.size + 1 + 1 + 1 + 1, 7, none⟩ = some (.int .i64 0) := V13_v.c 7 _ rfl
          have f13_v := V13_v.2.2; have L13_v := V13_v.lt; have N13_v := Nat.ne_of_gt L13_v; have M13_v := Nat.ne_of_lt L13_v
          have HV13_v := Lib.hid V13_v
          have S13 := G13.size; clear hb
          go_wp2_with fail
          go_roundg gf
          case measure => omega
          case rel => refine ⟨w13.heap.size, 3, by omega, by omega, rfl, by omega, ?_, ?_, ?_, ?_, ?_, ?_, by have G := G13; (repeat (with_reducible refine M.Below.drewN ?_ _)); go_grown⟩ <;> ((repeat (first | (with_reducible assumption) | (with_reducible apply M.var_setBd) | (with_reducible apply M.var_setI) | (with_reducible refine M.var_alloc' _ _ _ ?_; first | rfl | (focus (simp [go_sem]; done))) | (with_reducible refine M.Var.alloc ?_ _) | (with_reducible refine M.Var.drewN ?_ _) | (with_reducible refine M.Var.drew ?_) | (with_reducible refine M.Var.far ?_ _ _ ?hFar; case hFar => (first | omega | ((try simp [go_sem]) <;> omega))) | fail)))

theorem lifted (os : Os) (started : os.Started) (H : Type) (enc : TypeId × Value → H) :
    ReturnsInHanded {} Try.checked os 8 .any (Rows.pushTellsSpec.pre6 enc Try.prog Try.f8 Rows.pushTellsRow.domain false) (Rows.pushTellsSpec.post enc Try.prog Try.f8 false true false false) := by
  refine returnsInHanded_of_change (C := Try.checked) own started (by kernel_rfl) Try.func8
    (ChangeSpec.witness6 (enc := enc) (C := Try.checked) false ⟨#[], #[.agg #[.int .i64 0, .int .i64 0, .int .i64 0, .int .i64 0, .int .i64 0, .int .i64 0, .int .i64 0, .int .i64 0], .agg #[.int .i64 0, .int .i64 0, .int .i64 0, .int .i64 0, .int .i64 0, .int .i64 0, .int .i64 0, .int .i64 0], .agg #[.int .i64 0, .int .i64 0, .int .i64 0], .int .i64 0, .agg #[.int .i64 0, .int .i64 0]], []⟩ 8 (by kernel_rfl) (by kernel_rfl) (by kernel_rfl) (by kernel_rfl)) ?_
  intro W base args ds gs before hval0 hW hcnd _
  have hval : ∀ (j : Nat) t v, Try.f8.params[j]? = some t → args[j]? = some v → Value.okWide Try.prog W .any base t v := hval0
  have hW' := hW
  obtain ⟨p, q, hA0, hV, rfl, hfz, hnd⟩ := hW
  have hA : DataW.TrodAll enc Try.prog W 0 (fun _ => true) true Try.f8.params.toList args.toList ds p := hA0
  rw [Try.params8] at hA hval
  obtain ⟨v0, vs0, d0, ds0, p0, q0, hargs, rfl, rfl, h0, r0⟩ := trodAll_cons hA
  obtain ⟨v1, vs1, d1, ds1, p1, q1, rfl, rfl, rfl, h1, r1⟩ := trodAll_cons r0
  obtain ⟨v2, vs2, d2, ds2, p2, q2, rfl, rfl, rfl, h2, r2⟩ := trodAll_cons r1
  obtain ⟨v3, vs3, d3, ds3, p3, q3, rfl, rfl, rfl, h3, r3⟩ := trodAll_cons r2
  obtain ⟨v4, vs4, d4, ds4, p4, q4, rfl, rfl, rfl, h4, r4⟩ := trodAll_cons r3
  obtain ⟨rfl, rfl, rfl⟩ := trodAll_nil r4
  obtain rfl : args = #[v0, v1, v2, v3, v4] := by cases args; simp_all
  obtain ⟨rfl, rfl⟩ := trodVars_none hV
  obtain ⟨a, rfl, rfl, rfl, wa⟩ := open_body (hval 0 26 v0 rfl rfl) h0
  obtain ⟨b, rfl, rfl, rfl, wb⟩ := open_body (hval 1 26 v1 rfl rfl) h1
  obtain ⟨h, rfl, rfl, rfl, wh0, wh1, wh2⟩ := open_hit (hval 2 30 v2 rfl rfl) h2
  obtain ⟨l, rfl, rfl, rfl, wl⟩ := open_int Try.underlying22 (hval 3 22 v3 rfl rfl) h3
  obtain ⟨j1, j2, rfl, rfl, rfl, wj1, wj2⟩ := open_vec (hval 4 24 v4 rfl rfl) h4
  clear hA0 hval0
  simp only [List.append_nil] at hW'
  refine (walk W a wa.ok b wb.ok h ⟨i64_wf wh0, i64_wf wh1, i64_wf wh2⟩ l (i64_wf wl) j1 j2 (i64_wf wj1) (i64_wf wj2)).mono fun e W' ⟨he, hg⟩ => ?_
  subst he
  exact ⟨_, rfl, post_below (pa := []) (pv := []) hW' (fun _ _ _ => (trodAll_cons_mk (shut_bool Try.underlying4 _) trodAll_mk0)) (fun sp hsp => (trodAll_cons_mk (shut_body wa) (trodAll_cons_mk (shut_body wb) (trodAll_cons_mk (shut_hit wh0 wh1 wh2) (trodAll_cons_mk (shut_int Try.underlying22 wl) (trodAll_cons_mk (shut_vec wj1 wj2) trodAll_mk0)))))) (fun _ _ => rfl) rfl
    hg (ok_one (by kernel_rfl) rfl (okWide_bool_mk Try.underlying4 _))⟩

theorem closed : joinedFacts Try.prog 8 Try.f8 Rows.pushTellsSpec Rows.pushTellsRow = true := by
  unfold joinedFacts
  rw [fact_laid, fact_maps, fact_keys, fact_heard, fact_stops, fact_knobs, fact_enter, fact_lifts, fact_make]
  kernel_rfl

theorem over : Rows.pushTellsRow.holds Try.pinned (OpenSpec.ofChange Rows.pushTellsSpec) :=
  OpenClaim.holds_of_wide 8 Try.f8 rfl rfl rfl rfl rfl rfl rfl ⟨rfl, rfl, rfl, rfl, rfl⟩ rfl rfl rfl rfl rfl (by kernel_rfl) Try.func8 closed
    (of_decide_eq_true (by kernel_rfl)) (by unfold Func.isWrapper; first | (rw [if_pos (by decide +kernel)]; kernel_rfl) | (rw [if_neg (by decide +kernel)]; exact ⟨rfl, rfl⟩))
    (fun os started H enc _ => lifted os started H enc)

/-- The statement. -/
theorem proved : Rows.PushTellsSaid :=
  over
#print axioms proved
end Go.Proofs.Ytcaibieaobhheaa.pushTells
