/- For every depth, number and choice CalcNested returns true: a Fault that is caught within is not seen without; one that is thrown anew is. -/
import Derived.Test.YtcaibieaobhheaaRows
import Derived.WalkKit
import Derived.ProofKit
import Derived.OpenShut
import Derived.Test.YtcaibieaobhheaaFacts
import Derived.Test.YtcaibieaobhheaaArgs
import Derived.Test.YtcaibieaobhheaaNest
import Derived.Test.YtcaibieaobhheaaClo3
import Derived.Deep.RegionHeld2
import Derived.Deep.DrawnRows
namespace Go.Proofs.Ytcaibieaobhheaa.calcNested
open Go.ChangeShapes Go.WideShapes Go.ChangeAt Go.RowKit M
set_option maxRecDepth 100000
set_option maxHeartbeats 8000000
set_option linter.unusedVariables false
set_option linter.unusedSimpArgs false
attribute [local go_sem ↓] Go.wp_at_zero Go.wp_at_succ
theorem own : ownKnob Try.prog.godebug = none := by kernel_rfl

/-- The walk: the Go text returns true; of what was there nothing turns. -/
theorem walk (w : World) (d : Int) (hd : I64 d) (n : Int) (hn : I64 n) (g : Bool) :
    Calls Try.prog 12 #[.int .i64 d, .int .i64 n, .bool g] w fun e w' => e = .returned (.bool true) ∧ Bw w w' := by
  have c0 := Lib.hid alive3_c
  by_cases hg : 1 ≤ d ∧ d ≤ 20 ∧ 1 ≤ n ∧ n ≤ 1000
  rotate_left
  · have h0 : d < 1 ∨ (¬ d < 1 ∧ 20 < d) ∨ (¬ d < 1 ∧ ¬ 20 < d ∧ n < 1) ∨ (¬ d < 1 ∧ ¬ 20 < d ∧ ¬ n < 1 ∧ 1000 < n) := by omega
    clear hg
    rcases h0 with h1 | ⟨h1, h2⟩ | ⟨h1, h2, h3⟩ | ⟨h1, h2, h3, h4⟩
    · skip
      go_enter Try.func12, Try.ntmps12
      go_wp2_with fail
      (with_reducible refine (c0.out _).mono ?_); rintro en w1 ⟨rfl, hb⟩
      have G1 : Below w.heap.size w w1 := Below.trans (by (repeat (with_reducible refine M.Below.drewN ?_ _)); go_grown) (hb.mono (by go_size))
      have V1_d : M.Var w1 (w.heap.size) #[.int .i64 d] := M.Var.mono (by (repeat (first | (with_reducible assumption) | (with_reducible apply M.var_set45) | (with_reducible refine M.var_alloc' _ _ _ ?_; first | rfl | (simp [go_sem]; done)) | (with_reducible refine M.Var.alloc ?_ _) | (with_reducible refine M.Var.drewN ?_ _) | (with_reducible refine M.Var.drew ?_) | (with_reducible refine M.Var.far ?_ _ _ ?hFar; case hFar => (first | omega | ((try simp [go_sem]) <;> omega))) | fail))) hb
      have V1_n : M.Var w1 (w.heap.size + 1) #[.int .i64 n] := M.Var.mono (by (repeat (first | (with_reducible assumption) | (with_reducible apply M.var_set45) | (with_reducible refine M.var_alloc' _ _ _ ?_; first | rfl | (simp [go_sem]; done)) | (with_reducible refine M.Var.alloc ?_ _) | (with_reducible refine M.Var.drewN ?_ _) | (with_reducible refine M.Var.drew ?_) | (with_reducible refine M.Var.far ?_ _ _ ?hFar; case hFar => (first | omega | ((try simp [go_sem]) <;> omega))) | fail))) hb
      have V1_g : M.Var w1 (w.heap.size + 1 + 1) #[.bool g] := M.Var.mono (by (repeat (first | (with_reducible assumption) | (with_reducible apply M.var_set45) | (with_reducible refine M.var_alloc' _ _ _ ?_; first | rfl | (simp [go_sem]; done)) | (with_reducible refine M.Var.alloc ?_ _) | (with_reducible refine M.Var.drewN ?_ _) | (with_reducible refine M.Var.drew ?_) | (with_reducible refine M.Var.far ?_ _ _ ?hFar; case hFar => (first | omega | ((try simp [go_sem]) <;> omega))) | fail))) hb
      have q1_d_0 : w1.cell? ⟨w.heap.size, 0, none⟩ = some (.int .i64 d) := V1_d.c 0 _ rfl
      have f1_d := V1_d.2.2; have L1_d := V1_d.lt; have N1_d := Nat.ne_of_gt L1_d; have M1_d := Nat.ne_of_lt L1_d
      have HV1_d := Lib.hid V1_d
      have q1_n_0 : w1.cell? ⟨w.heap.size + 1, 0, none⟩ = some (.int .i64 n) := V1_n.c 0 _ rfl
      have f1_n := V1_n.2.2; have L1_n := V1_n.lt; have N1_n := Nat.ne_of_gt L1_n; have M1_n := Nat.ne_of_lt L1_n
      have HV1_n := Lib.hid V1_n
      have q1_g_0 : w1.cell? ⟨w.heap.size + 1 + 1, 0, none⟩ = some (.bool g) := V1_g.c 0 _ rfl
      have f1_g := V1_g.2.2; have L1_g := V1_g.lt; have N1_g := Nat.ne_of_gt L1_g; have M1_g := Nat.ne_of_lt L1_g
      have HV1_g := Lib.hid V1_g
      have S1 := G1.size; clear hb
      go_wp2_with fail
      go_ret
      exact ⟨rfl, by (repeat (with_reducible refine M.Below.drewN ?_ _)); go_grown⟩
    · skip
      go_enter Try.func12, Try.ntmps12
      go_wp2_with fail
      (with_reducible refine (c0.out _).mono ?_); rintro en w1 ⟨rfl, hb⟩
      have G1 : Below w.heap.size w w1 := Below.trans (by (repeat (with_reducible refine M.Below.drewN ?_ _)); go_grown) (hb.mono (by go_size))
      have V1_d : M.Var w1 (w.heap.size) #[.int .i64 d] := M.Var.mono (by (repeat (first | (with_reducible assumption) | (with_reducible apply M.var_set45) | (with_reducible refine M.var_alloc' _ _ _ ?_; first | rfl | (simp [go_sem]; done)) | (with_reducible refine M.Var.alloc ?_ _) | (with_reducible refine M.Var.drewN ?_ _) | (with_reducible refine M.Var.drew ?_) | (with_reducible refine M.Var.far ?_ _ _ ?hFar; case hFar => (first | omega | ((try simp [go_sem]) <;> omega))) | fail))) hb
      have V1_n : M.Var w1 (w.heap.size + 1) #[.int .i64 n] := M.Var.mono (by (repeat (first | (with_reducible assumption) | (with_reducible apply M.var_set45) | (with_reducible refine M.var_alloc' _ _ _ ?_; first | rfl | (simp [go_sem]; done)) | (with_reducible refine M.Var.alloc ?_ _) | (with_reducible refine M.Var.drewN ?_ _) | (with_reducible refine M.Var.drew ?_) | (with_reducible refine M.Var.far ?_ _ _ ?hFar; case hFar => (first | omega | ((try simp [go_sem]) <;> omega))) | fail))) hb
      have V1_g : M.Var w1 (w.heap.size + 1 + 1) #[.bool g] := M.Var.mono (by (repeat (first | (with_reducible assumption) | (with_reducible apply M.var_set45) | (with_reducible refine M.var_alloc' _ _ _ ?_; first | rfl | (simp [go_sem]; done)) | (with_reducible refine M.Var.alloc ?_ _) | (with_reducible refine M.Var.drewN ?_ _) | (with_reducible refine M.Var.drew ?_) | (with_reducible refine M.Var.far ?_ _ _ ?hFar; case hFar => (first | omega | ((try simp [go_sem]) <;> omega))) | fail))) hb
      have q1_d_0 : w1.cell? ⟨w.heap.size, 0, none⟩ = some (.int .i64 d) := V1_d.c 0 _ rfl
      have f1_d := V1_d.2.2; have L1_d := V1_d.lt; have N1_d := Nat.ne_of_gt L1_d; have M1_d := Nat.ne_of_lt L1_d
      have HV1_d := Lib.hid V1_d
      have q1_n_0 : w1.cell? ⟨w.heap.size + 1, 0, none⟩ = some (.int .i64 n) := V1_n.c 0 _ rfl
      have f1_n := V1_n.2.2; have L1_n := V1_n.lt; have N1_n := Nat.ne_of_gt L1_n; have M1_n := Nat.ne_of_lt L1_n
      have HV1_n := Lib.hid V1_n
      have q1_g_0 : w1.cell? ⟨w.heap.size + 1 + 1, 0, none⟩ = some (.bool g) := V1_g.c 0 _ rfl
      have f1_g := V1_g.2.2; have L1_g := V1_g.lt; have N1_g := Nat.ne_of_gt L1_g; have M1_g := Nat.ne_of_lt L1_g
      have HV1_g := Lib.hid V1_g
      have S1 := G1.size; clear hb
      go_wp2_with fail
      go_ret
      exact ⟨rfl, by (repeat (with_reducible refine M.Below.drewN ?_ _)); go_grown⟩
    · skip
      go_enter Try.func12, Try.ntmps12
      go_wp2_with fail
      (with_reducible refine (c0.out _).mono ?_); rintro en w1 ⟨rfl, hb⟩
      have G1 : Below w.heap.size w w1 := Below.trans (by (repeat (with_reducible refine M.Below.drewN ?_ _)); go_grown) (hb.mono (by go_size))
      have V1_d : M.Var w1 (w.heap.size) #[.int .i64 d] := M.Var.mono (by (repeat (first | (with_reducible assumption) | (with_reducible apply M.var_set45) | (with_reducible refine M.var_alloc' _ _ _ ?_; first | rfl | (simp [go_sem]; done)) | (with_reducible refine M.Var.alloc ?_ _) | (with_reducible refine M.Var.drewN ?_ _) | (with_reducible refine M.Var.drew ?_) | (with_reducible refine M.Var.far ?_ _ _ ?hFar; case hFar => (first | omega | ((try simp [go_sem]) <;> omega))) | fail))) hb
      have V1_n : M.Var w1 (w.heap.size + 1) #[.int .i64 n] := M.Var.mono (by (repeat (first | (with_reducible assumption) | (with_reducible apply M.var_set45) | (with_reducible refine M.var_alloc' _ _ _ ?_; first | rfl | (simp [go_sem]; done)) | (with_reducible refine M.Var.alloc ?_ _) | (with_reducible refine M.Var.drewN ?_ _) | (with_reducible refine M.Var.drew ?_) | (with_reducible refine M.Var.far ?_ _ _ ?hFar; case hFar => (first | omega | ((try simp [go_sem]) <;> omega))) | fail))) hb
      have V1_g : M.Var w1 (w.heap.size + 1 + 1) #[.bool g] := M.Var.mono (by (repeat (first | (with_reducible assumption) | (with_reducible apply M.var_set45) | (with_reducible refine M.var_alloc' _ _ _ ?_; first | rfl | (simp [go_sem]; done)) | (with_reducible refine M.Var.alloc ?_ _) | (with_reducible refine M.Var.drewN ?_ _) | (with_reducible refine M.Var.drew ?_) | (with_reducible refine M.Var.far ?_ _ _ ?hFar; case hFar => (first | omega | ((try simp [go_sem]) <;> omega))) | fail))) hb
      have q1_d_0 : w1.cell? ⟨w.heap.size, 0, none⟩ = some (.int .i64 d) := V1_d.c 0 _ rfl
      have f1_d := V1_d.2.2; have L1_d := V1_d.lt; have N1_d := Nat.ne_of_gt L1_d; have M1_d := Nat.ne_of_lt L1_d
      have HV1_d := Lib.hid V1_d
      have q1_n_0 : w1.cell? ⟨w.heap.size + 1, 0, none⟩ = some (.int .i64 n) := V1_n.c 0 _ rfl
      have f1_n := V1_n.2.2; have L1_n := V1_n.lt; have N1_n := Nat.ne_of_gt L1_n; have M1_n := Nat.ne_of_lt L1_n
      have HV1_n := Lib.hid V1_n
      have q1_g_0 : w1.cell? ⟨w.heap.size + 1 + 1, 0, none⟩ = some (.bool g) := V1_g.c 0 _ rfl
      have f1_g := V1_g.2.2; have L1_g := V1_g.lt; have N1_g := Nat.ne_of_gt L1_g; have M1_g := Nat.ne_of_lt L1_g
      have HV1_g := Lib.hid V1_g
      have S1 := G1.size; clear hb
      go_wp2_with fail
      go_ret
      exact ⟨rfl, by (repeat (with_reducible refine M.Below.drewN ?_ _)); go_grown⟩
    · skip
      go_enter Try.func12, Try.ntmps12
      go_wp2_with fail
      (with_reducible refine (c0.out _).mono ?_); rintro en w1 ⟨rfl, hb⟩
      have G1 : Below w.heap.size w w1 := Below.trans (by (repeat (with_reducible refine M.Below.drewN ?_ _)); go_grown) (hb.mono (by go_size))
      have V1_d : M.Var w1 (w.heap.size) #[.int .i64 d] := M.Var.mono (by (repeat (first | (with_reducible assumption) | (with_reducible apply M.var_set45) | (with_reducible refine M.var_alloc' _ _ _ ?_; first | rfl | (simp [go_sem]; done)) | (with_reducible refine M.Var.alloc ?_ _) | (with_reducible refine M.Var.drewN ?_ _) | (with_reducible refine M.Var.drew ?_) | (with_reducible refine M.Var.far ?_ _ _ ?hFar; case hFar => (first | omega | ((try simp [go_sem]) <;> omega))) | fail))) hb
      have V1_n : M.Var w1 (w.heap.size + 1) #[.int .i64 n] := M.Var.mono (by (repeat (first | (with_reducible assumption) | (with_reducible apply M.var_set45) | (with_reducible refine M.var_alloc' _ _ _ ?_; first | rfl | (simp [go_sem]; done)) | (with_reducible refine M.Var.alloc ?_ _) | (with_reducible refine M.Var.drewN ?_ _) | (with_reducible refine M.Var.drew ?_) | (with_reducible refine M.Var.far ?_ _ _ ?hFar; case hFar => (first | omega | ((try simp [go_sem]) <;> omega))) | fail))) hb
      have V1_g : M.Var w1 (w.heap.size + 1 + 1) #[.bool g] := M.Var.mono (by (repeat (first | (with_reducible assumption) | (with_reducible apply M.var_set45) | (with_reducible refine M.var_alloc' _ _ _ ?_; first | rfl | (simp [go_sem]; done)) | (with_reducible refine M.Var.alloc ?_ _) | (with_reducible refine M.Var.drewN ?_ _) | (with_reducible refine M.Var.drew ?_) | (with_reducible refine M.Var.far ?_ _ _ ?hFar; case hFar => (first | omega | ((try simp [go_sem]) <;> omega))) | fail))) hb
      have q1_d_0 : w1.cell? ⟨w.heap.size, 0, none⟩ = some (.int .i64 d) := V1_d.c 0 _ rfl
      have f1_d := V1_d.2.2; have L1_d := V1_d.lt; have N1_d := Nat.ne_of_gt L1_d; have M1_d := Nat.ne_of_lt L1_d
      have HV1_d := Lib.hid V1_d
      have q1_n_0 : w1.cell? ⟨w.heap.size + 1, 0, none⟩ = some (.int .i64 n) := V1_n.c 0 _ rfl
      have f1_n := V1_n.2.2; have L1_n := V1_n.lt; have N1_n := Nat.ne_of_gt L1_n; have M1_n := Nat.ne_of_lt L1_n
      have HV1_n := Lib.hid V1_n
      have q1_g_0 : w1.cell? ⟨w.heap.size + 1 + 1, 0, none⟩ = some (.bool g) := V1_g.c 0 _ rfl
      have f1_g := V1_g.2.2; have L1_g := V1_g.lt; have N1_g := Nat.ne_of_gt L1_g; have M1_g := Nat.ne_of_lt L1_g
      have HV1_g := Lib.hid V1_g
      have S1 := G1.size; clear hb
      go_wp2_with fail
      go_ret
      exact ⟨rfl, by (repeat (with_reducible refine M.Below.drewN ?_ _)); go_grown⟩
  obtain ⟨g1, g2, g3, g4⟩ := hg
  obtain ⟨k, rfl⟩ := Int.eq_ofNat_of_zero_le (show 0 ≤ d by omega)
  have hk : k ≤ 20 := by omega
  have hk0 : k ≠ 0 := by omega
  have n0 := bne_iff_ne.2 (show n ≠ 0 by omega)
  have hst : ∀ (a : Addr) (m) (w : World) (c : Array Value), (store a (.func (.func 45) #[] c) m).run Try.prog w = stored Try.prog w a (.func (.func 45) #[] c) m := fun a m w c => run_store _ w a _ m rfl
  have hmf : ∀ (fn : Fn) (first cap : Array Value) (w : World), (Instr.makeFunc fn first cap).run Try.prog w = .ok (.func fn first cap) w := fun _ _ _ _ => rfl
  have C := fun pE pI pS pA w (h : NestVars w pE pI pS pA n 0 g) => nest_c pE pI pS pA n ⟨g3, g4⟩ g 0 ⟨by omega, by omega⟩ k hk w h
  cases g
  · have e1 : rcN false n k = 0 := by unfold rcN; rw [if_neg (by rintro (h | h); exact hk0 h; cases h)]
    have e2 : snN false 0 k = 1 := by unfold snN; rw [if_neg hk0]; simp
    simp only [e1, e2] at C
    replace C := Lib.hid C
    clear e1 e2 hk0
    go_enter Try.func12, Try.ntmps12
    go_wp2_with fail
    (with_reducible refine (c0.out _).mono ?_); rintro en w1 ⟨rfl, hb⟩
    have G1 : Below w.heap.size w w1 := Below.trans (by (repeat (with_reducible refine M.Below.drewN ?_ _)); go_grown) (hb.mono (by go_size))
    have V1_d : M.Var w1 (w.heap.size) #[.int .i64 (k : Int)] := M.Var.mono (by (repeat (first | (with_reducible assumption) | (with_reducible apply M.var_set45) | (with_reducible refine M.var_alloc' _ _ _ ?_; first | rfl | (simp [go_sem]; done)) | (with_reducible refine M.Var.alloc ?_ _) | (with_reducible refine M.Var.drewN ?_ _) | (with_reducible refine M.Var.drew ?_) | (with_reducible refine M.Var.far ?_ _ _ ?hFar; case hFar => (first | omega | ((try simp [go_sem]) <;> omega))) | fail))) hb
    have V1_n : M.Var w1 (w.heap.size + 1) #[.int .i64 n] := M.Var.mono (by (repeat (first | (with_reducible assumption) | (with_reducible apply M.var_set45) | (with_reducible refine M.var_alloc' _ _ _ ?_; first | rfl | (simp [go_sem]; done)) | (with_reducible refine M.Var.alloc ?_ _) | (with_reducible refine M.Var.drewN ?_ _) | (with_reducible refine M.Var.drew ?_) | (with_reducible refine M.Var.far ?_ _ _ ?hFar; case hFar => (first | omega | ((try simp [go_sem]) <;> omega))) | fail))) hb
    have V1_g : M.Var w1 (w.heap.size + 1 + 1) #[.bool false] := M.Var.mono (by (repeat (first | (with_reducible assumption) | (with_reducible apply M.var_set45) | (with_reducible refine M.var_alloc' _ _ _ ?_; first | rfl | (simp [go_sem]; done)) | (with_reducible refine M.Var.alloc ?_ _) | (with_reducible refine M.Var.drewN ?_ _) | (with_reducible refine M.Var.drew ?_) | (with_reducible refine M.Var.far ?_ _ _ ?hFar; case hFar => (first | omega | ((try simp [go_sem]) <;> omega))) | fail))) hb
    have q1_d_0 : w1.cell? ⟨w.heap.size, 0, none⟩ = some (.int .i64 (k : Int)) := V1_d.c 0 _ rfl
    have f1_d := V1_d.2.2; have L1_d := V1_d.lt; have N1_d := Nat.ne_of_gt L1_d; have M1_d := Nat.ne_of_lt L1_d
    have HV1_d := Lib.hid V1_d
    have q1_n_0 : w1.cell? ⟨w.heap.size + 1, 0, none⟩ = some (.int .i64 n) := V1_n.c 0 _ rfl
    have f1_n := V1_n.2.2; have L1_n := V1_n.lt; have N1_n := Nat.ne_of_gt L1_n; have M1_n := Nat.ne_of_lt L1_n
    have HV1_n := Lib.hid V1_n
    have q1_g_0 : w1.cell? ⟨w.heap.size + 1 + 1, 0, none⟩ = some (.bool false) := V1_g.c 0 _ rfl
    have f1_g := V1_g.2.2; have L1_g := V1_g.lt; have N1_g := Nat.ne_of_gt L1_g; have M1_g := Nat.ne_of_lt L1_g
    have HV1_g := Lib.hid V1_g
    have S1 := G1.size; clear hb
    go_wp2_with fail
    refine (try_c 47 #[.pointer (some ⟨w1.heap.size + 1, 0, none⟩), .pointer (some ⟨w.heap.size, 0, none⟩)] _ (0) (usI (w1.heap.size) (.ok 1)) (fun _ => rfl) ?_ ?_).mono ?_
    · intro u hu; (try simp only [List.mem_append] at hu); (repeat' (obtain hu | hu := (hu : _ ∨ _))); all_goals (first | with_reducible rw [M.cell_block1 hu] | with_reducible rw [M.usBx_block hu] | with_reducible rw [M.usV_block hu] | with_reducible rw [M.usI_block hu] | with_reducible rw [M.usHt_block hu] | with_reducible rw [M.usBd_block hu] | with_reducible rw [M.usB_block hu] | rw [M.cell_block1 hu] | (exfalso; simp at hu; done)); all_goals ((try simp [go_sem]) <;> omega)
    · intro w1' hb; exact (nest2_c (w.heap.size + 1) (w1.heap.size + 1) (w1.heap.size) (w.heap.size + 1 + 1) _ (k : Int) 0 _ w1' (M.Var.mono (b := w1.heap.size + 1) (cs := #[.func (.func 45) #[] (capsN (w.heap.size + 1) (w1.heap.size + 1) (w1.heap.size) (w.heap.size + 1 + 1))]) (by (repeat (first | (with_reducible assumption) | (with_reducible apply M.var_set45) | (with_reducible refine M.var_alloc' _ _ _ ?_; first | rfl | (simp [go_sem]; done)) | (with_reducible refine M.Var.alloc ?_ _) | (with_reducible refine M.Var.drewN ?_ _) | (with_reducible refine M.Var.drew ?_) | (with_reducible refine M.Var.far ?_ _ _ ?hFar; case hFar => (first | omega | ((try simp [go_sem]) <;> omega))) | fail))) hb) (M.Var.mono (b := w.heap.size) (cs := #[.int .i64 (k : Int)]) (by (repeat (first | (with_reducible assumption) | (with_reducible apply M.var_set45) | (with_reducible refine M.var_alloc' _ _ _ ?_; first | rfl | (simp [go_sem]; done)) | (with_reducible refine M.Var.alloc ?_ _) | (with_reducible refine M.Var.drewN ?_ _) | (with_reducible refine M.Var.drew ?_) | (with_reducible refine M.Var.far ?_ _ _ ?hFar; case hFar => (first | omega | ((try simp [go_sem]) <;> omega))) | fail))) hb) (C.out _ _ _ _ w1' ⟨(M.Var.mono (b := w.heap.size + 1) (cs := #[.int .i64 n]) (by (repeat (first | (with_reducible assumption) | (with_reducible apply M.var_set45) | (with_reducible refine M.var_alloc' _ _ _ ?_; first | rfl | (simp [go_sem]; done)) | (with_reducible refine M.Var.alloc ?_ _) | (with_reducible refine M.Var.drewN ?_ _) | (with_reducible refine M.Var.drew ?_) | (with_reducible refine M.Var.far ?_ _ _ ?hFar; case hFar => (first | omega | ((try simp [go_sem]) <;> omega))) | fail))) hb), (M.Var.mono (b := w1.heap.size + 1) (cs := #[.func (.func 45) #[] (capsN (w.heap.size + 1) (w1.heap.size + 1) (w1.heap.size) (w.heap.size + 1 + 1))]) (by (repeat (first | (with_reducible assumption) | (with_reducible apply M.var_set45) | (with_reducible refine M.var_alloc' _ _ _ ?_; first | rfl | (simp [go_sem]; done)) | (with_reducible refine M.Var.alloc ?_ _) | (with_reducible refine M.Var.drewN ?_ _) | (with_reducible refine M.Var.drew ?_) | (with_reducible refine M.Var.far ?_ _ _ ?hFar; case hFar => (first | omega | ((try simp [go_sem]) <;> omega))) | fail))) hb), (M.Var.mono (b := w1.heap.size) (cs := #[.int .i64 0]) (by (repeat (first | (with_reducible assumption) | (with_reducible apply M.var_set45) | (with_reducible refine M.var_alloc' _ _ _ ?_; first | rfl | (simp [go_sem]; done)) | (with_reducible refine M.Var.alloc ?_ _) | (with_reducible refine M.Var.drewN ?_ _) | (with_reducible refine M.Var.drew ?_) | (with_reducible refine M.Var.far ?_ _ _ ?hFar; case hFar => (first | omega | ((try simp [go_sem]) <;> omega))) | fail))) hb), (M.Var.mono (b := w.heap.size + 1 + 1) (cs := #[.bool false]) (by (repeat (first | (with_reducible assumption) | (with_reducible apply M.var_set45) | (with_reducible refine M.var_alloc' _ _ _ ?_; first | rfl | (simp [go_sem]; done)) | (with_reducible refine M.Var.alloc ?_ _) | (with_reducible refine M.Var.drewN ?_ _) | (with_reducible refine M.Var.drew ?_) | (with_reducible refine M.Var.far ?_ _ _ ?hFar; case hFar => (first | omega | ((try simp [go_sem]) <;> omega))) | fail))) hb), by omega, by omega, by omega⟩)).mono fun e w' h => h
    rintro en w2 ⟨rfl, hb⟩
    have G2 : Below w.heap.size w w2 := by refine Below.trans ?_ (hb.mono (by go_size)); exact M.below_sets_own _ (by (repeat (with_reducible refine M.Below.drewN ?_ _)); go_grown) (by intro u hu; (try simp only [List.mem_append] at hu); (repeat' (obtain hu | hu := (hu : _ ∨ _))); all_goals (first | with_reducible rw [M.cell_block1 hu] | with_reducible rw [M.usBx_block hu] | with_reducible rw [M.usV_block hu] | with_reducible rw [M.usI_block hu] | with_reducible rw [M.usHt_block hu] | with_reducible rw [M.usBd_block hu] | with_reducible rw [M.usB_block hu] | rw [M.cell_block1 hu] | (exfalso; simp at hu; done)); all_goals ((try simp [go_sem]) <;> omega))
    have V2_d : M.Var w2 (w.heap.size) #[.int .i64 (k : Int)] := by refine M.Var.mono' ?_ (M.sets_size _ _) hb; (try simp only [M.sets_append]); exact (M.var_sets_far _ (by (repeat (first | (with_reducible assumption) | (with_reducible apply M.var_set45) | (with_reducible refine M.var_alloc' _ _ _ ?_; first | rfl | (simp [go_sem]; done)) | (with_reducible refine M.Var.alloc ?_ _) | (with_reducible refine M.Var.drewN ?_ _) | (with_reducible refine M.Var.drew ?_) | (with_reducible refine M.Var.far ?_ _ _ ?hFar; case hFar => (first | omega | ((try simp [go_sem]) <;> omega))) | fail)) : M.Var _ (w.heap.size) #[.int .i64 (k : Int)]) (by intro u hu; all_goals (first | with_reducible rw [M.cell_block1 hu] | with_reducible rw [M.usBx_block hu] | with_reducible rw [M.usV_block hu] | with_reducible rw [M.usI_block hu] | with_reducible rw [M.usHt_block hu] | with_reducible rw [M.usBd_block hu] | with_reducible rw [M.usB_block hu] | rw [M.cell_block1 hu] | (exfalso; simp at hu; done)); all_goals ((try simp [go_sem]) <;> omega)))
    have V2_n : M.Var w2 (w.heap.size + 1) #[.int .i64 n] := by refine M.Var.mono' ?_ (M.sets_size _ _) hb; (try simp only [M.sets_append]); exact (M.var_sets_far _ (by (repeat (first | (with_reducible assumption) | (with_reducible apply M.var_set45) | (with_reducible refine M.var_alloc' _ _ _ ?_; first | rfl | (simp [go_sem]; done)) | (with_reducible refine M.Var.alloc ?_ _) | (with_reducible refine M.Var.drewN ?_ _) | (with_reducible refine M.Var.drew ?_) | (with_reducible refine M.Var.far ?_ _ _ ?hFar; case hFar => (first | omega | ((try simp [go_sem]) <;> omega))) | fail)) : M.Var _ (w.heap.size + 1) #[.int .i64 n]) (by intro u hu; all_goals (first | with_reducible rw [M.cell_block1 hu] | with_reducible rw [M.usBx_block hu] | with_reducible rw [M.usV_block hu] | with_reducible rw [M.usI_block hu] | with_reducible rw [M.usHt_block hu] | with_reducible rw [M.usBd_block hu] | with_reducible rw [M.usB_block hu] | rw [M.cell_block1 hu] | (exfalso; simp at hu; done)); all_goals ((try simp [go_sem]) <;> omega)))
    have V2_g : M.Var w2 (w.heap.size + 1 + 1) #[.bool false] := by refine M.Var.mono' ?_ (M.sets_size _ _) hb; (try simp only [M.sets_append]); exact (M.var_sets_far _ (by (repeat (first | (with_reducible assumption) | (with_reducible apply M.var_set45) | (with_reducible refine M.var_alloc' _ _ _ ?_; first | rfl | (simp [go_sem]; done)) | (with_reducible refine M.Var.alloc ?_ _) | (with_reducible refine M.Var.drewN ?_ _) | (with_reducible refine M.Var.drew ?_) | (with_reducible refine M.Var.far ?_ _ _ ?hFar; case hFar => (first | omega | ((try simp [go_sem]) <;> omega))) | fail)) : M.Var _ (w.heap.size + 1 + 1) #[.bool false]) (by intro u hu; all_goals (first | with_reducible rw [M.cell_block1 hu] | with_reducible rw [M.usBx_block hu] | with_reducible rw [M.usV_block hu] | with_reducible rw [M.usI_block hu] | with_reducible rw [M.usHt_block hu] | with_reducible rw [M.usBd_block hu] | with_reducible rw [M.usB_block hu] | rw [M.cell_block1 hu] | (exfalso; simp at hu; done)); all_goals ((try simp [go_sem]) <;> omega)))
    have V2_s : M.Var w2 (w1.heap.size) #[.int .i64 1] := by refine M.Var.mono' ?_ (M.sets_size _ _) hb; (try simp only [M.sets_append]); exact (M.var_setI (by (repeat (first | (with_reducible assumption) | (with_reducible apply M.var_set45) | (with_reducible refine M.var_alloc' _ _ _ ?_; first | rfl | (simp [go_sem]; done)) | (with_reducible refine M.Var.alloc ?_ _) | (with_reducible refine M.Var.drewN ?_ _) | (with_reducible refine M.Var.drew ?_) | (with_reducible refine M.Var.far ?_ _ _ ?hFar; case hFar => (first | omega | ((try simp [go_sem]) <;> omega))) | fail)) : M.Var _ (w1.heap.size) #[.int .i64 0]) _)
    have V2_i : M.Var w2 (w1.heap.size + 1) #[.func (.func 45) #[] (capsN (w.heap.size + 1) (w1.heap.size + 1) (w1.heap.size) (w.heap.size + 1 + 1))] := by refine M.Var.mono' ?_ (M.sets_size _ _) hb; (try simp only [M.sets_append]); exact (M.var_sets_far _ (by (repeat (first | (with_reducible assumption) | (with_reducible apply M.var_set45) | (with_reducible refine M.var_alloc' _ _ _ ?_; first | rfl | (simp [go_sem]; done)) | (with_reducible refine M.Var.alloc ?_ _) | (with_reducible refine M.Var.drewN ?_ _) | (with_reducible refine M.Var.drew ?_) | (with_reducible refine M.Var.far ?_ _ _ ?hFar; case hFar => (first | omega | ((try simp [go_sem]) <;> omega))) | fail)) : M.Var _ (w1.heap.size + 1) #[.func (.func 45) #[] (capsN (w.heap.size + 1) (w1.heap.size + 1) (w1.heap.size) (w.heap.size + 1 + 1))]) (by intro u hu; all_goals (first | with_reducible rw [M.cell_block1 hu] | with_reducible rw [M.usBx_block hu] | with_reducible rw [M.usV_block hu] | with_reducible rw [M.usI_block hu] | with_reducible rw [M.usHt_block hu] | with_reducible rw [M.usBd_block hu] | with_reducible rw [M.usB_block hu] | rw [M.cell_block1 hu] | (exfalso; simp at hu; done)); all_goals ((try simp [go_sem]) <;> omega)))
    have q2_d_0 : w2.cell? ⟨w.heap.size, 0, none⟩ = some (.int .i64 (k : Int)) := V2_d.c 0 _ rfl
    have f2_d := V2_d.2.2; have L2_d := V2_d.lt; have N2_d := Nat.ne_of_gt L2_d; have M2_d := Nat.ne_of_lt L2_d
    have HV2_d := Lib.hid V2_d
    have q2_n_0 : w2.cell? ⟨w.heap.size + 1, 0, none⟩ = some (.int .i64 n) := V2_n.c 0 _ rfl
    have f2_n := V2_n.2.2; have L2_n := V2_n.lt; have N2_n := Nat.ne_of_gt L2_n; have M2_n := Nat.ne_of_lt L2_n
    have HV2_n := Lib.hid V2_n
    have q2_g_0 : w2.cell? ⟨w.heap.size + 1 + 1, 0, none⟩ = some (.bool false) := V2_g.c 0 _ rfl
    have f2_g := V2_g.2.2; have L2_g := V2_g.lt; have N2_g := Nat.ne_of_gt L2_g; have M2_g := Nat.ne_of_lt L2_g
    have HV2_g := Lib.hid V2_g
    have q2_s_0 : w2.cell? ⟨w1.heap.size, 0, none⟩ = some (.int .i64 1) := V2_s.c 0 _ rfl
    have f2_s := V2_s.2.2; have L2_s := V2_s.lt; have N2_s := Nat.ne_of_gt L2_s; have M2_s := Nat.ne_of_lt L2_s
    have HV2_s := Lib.hid V2_s
    have q2_i_0 : w2.cell? ⟨w1.heap.size + 1, 0, none⟩ = some (.func (.func 45) #[] (capsN (w.heap.size + 1) (w1.heap.size + 1) (w1.heap.size) (w.heap.size + 1 + 1))) := V2_i.c 0 _ rfl
    have f2_i := V2_i.2.2; have L2_i := V2_i.lt; have N2_i := Nat.ne_of_gt L2_i; have M2_i := Nat.ne_of_lt L2_i
    have HV2_i := Lib.hid V2_i
    have S2 := G2.size; clear hb
    go_wp2_with fail
    go_ret
    exact ⟨rfl, by (repeat (with_reducible refine M.Below.drewN ?_ _)); go_grown⟩
  · have e1 : rcN true n k = n := by unfold rcN; rw [if_pos (.inr rfl)]
    have e2 : snN true 0 k = (k : Int) := by unfold snN; rw [if_neg hk0]; simp
    simp only [e1, e2] at C
    replace C := Lib.hid C
    clear e1 e2 hk0
    go_enter Try.func12, Try.ntmps12
    go_wp2_with fail
    (with_reducible refine (c0.out _).mono ?_); rintro en w1 ⟨rfl, hb⟩
    have G1 : Below w.heap.size w w1 := Below.trans (by (repeat (with_reducible refine M.Below.drewN ?_ _)); go_grown) (hb.mono (by go_size))
    have V1_d : M.Var w1 (w.heap.size) #[.int .i64 (k : Int)] := M.Var.mono (by (repeat (first | (with_reducible assumption) | (with_reducible apply M.var_set45) | (with_reducible refine M.var_alloc' _ _ _ ?_; first | rfl | (simp [go_sem]; done)) | (with_reducible refine M.Var.alloc ?_ _) | (with_reducible refine M.Var.drewN ?_ _) | (with_reducible refine M.Var.drew ?_) | (with_reducible refine M.Var.far ?_ _ _ ?hFar; case hFar => (first | omega | ((try simp [go_sem]) <;> omega))) | fail))) hb
    have V1_n : M.Var w1 (w.heap.size + 1) #[.int .i64 n] := M.Var.mono (by (repeat (first | (with_reducible assumption) | (with_reducible apply M.var_set45) | (with_reducible refine M.var_alloc' _ _ _ ?_; first | rfl | (simp [go_sem]; done)) | (with_reducible refine M.Var.alloc ?_ _) | (with_reducible refine M.Var.drewN ?_ _) | (with_reducible refine M.Var.drew ?_) | (with_reducible refine M.Var.far ?_ _ _ ?hFar; case hFar => (first | omega | ((try simp [go_sem]) <;> omega))) | fail))) hb
    have V1_g : M.Var w1 (w.heap.size + 1 + 1) #[.bool true] := M.Var.mono (by (repeat (first | (with_reducible assumption) | (with_reducible apply M.var_set45) | (with_reducible refine M.var_alloc' _ _ _ ?_; first | rfl | (simp [go_sem]; done)) | (with_reducible refine M.Var.alloc ?_ _) | (with_reducible refine M.Var.drewN ?_ _) | (with_reducible refine M.Var.drew ?_) | (with_reducible refine M.Var.far ?_ _ _ ?hFar; case hFar => (first | omega | ((try simp [go_sem]) <;> omega))) | fail))) hb
    have q1_d_0 : w1.cell? ⟨w.heap.size, 0, none⟩ = some (.int .i64 (k : Int)) := V1_d.c 0 _ rfl
    have f1_d := V1_d.2.2; have L1_d := V1_d.lt; have N1_d := Nat.ne_of_gt L1_d; have M1_d := Nat.ne_of_lt L1_d
    have HV1_d := Lib.hid V1_d
    have q1_n_0 : w1.cell? ⟨w.heap.size + 1, 0, none⟩ = some (.int .i64 n) := V1_n.c 0 _ rfl
    have f1_n := V1_n.2.2; have L1_n := V1_n.lt; have N1_n := Nat.ne_of_gt L1_n; have M1_n := Nat.ne_of_lt L1_n
    have HV1_n := Lib.hid V1_n
    have q1_g_0 : w1.cell? ⟨w.heap.size + 1 + 1, 0, none⟩ = some (.bool true) := V1_g.c 0 _ rfl
    have f1_g := V1_g.2.2; have L1_g := V1_g.lt; have N1_g := Nat.ne_of_gt L1_g; have M1_g := Nat.ne_of_lt L1_g
    have HV1_g := Lib.hid V1_g
    have S1 := G1.size; clear hb
    go_wp2_with fail
    refine (try_c 47 #[.pointer (some ⟨w1.heap.size + 1, 0, none⟩), .pointer (some ⟨w.heap.size, 0, none⟩)] _ (n) (usI (w1.heap.size) (.ok (k : Int))) (fun _ => rfl) ?_ ?_).mono ?_
    · intro u hu; (try simp only [List.mem_append] at hu); (repeat' (obtain hu | hu := (hu : _ ∨ _))); all_goals (first | with_reducible rw [M.cell_block1 hu] | with_reducible rw [M.usBx_block hu] | with_reducible rw [M.usV_block hu] | with_reducible rw [M.usI_block hu] | with_reducible rw [M.usHt_block hu] | with_reducible rw [M.usBd_block hu] | with_reducible rw [M.usB_block hu] | rw [M.cell_block1 hu] | (exfalso; simp at hu; done)); all_goals ((try simp [go_sem]) <;> omega)
    · intro w1' hb; exact (nest2_c (w.heap.size + 1) (w1.heap.size + 1) (w1.heap.size) (w.heap.size + 1 + 1) _ (k : Int) n _ w1' (M.Var.mono (b := w1.heap.size + 1) (cs := #[.func (.func 45) #[] (capsN (w.heap.size + 1) (w1.heap.size + 1) (w1.heap.size) (w.heap.size + 1 + 1))]) (by (repeat (first | (with_reducible assumption) | (with_reducible apply M.var_set45) | (with_reducible refine M.var_alloc' _ _ _ ?_; first | rfl | (simp [go_sem]; done)) | (with_reducible refine M.Var.alloc ?_ _) | (with_reducible refine M.Var.drewN ?_ _) | (with_reducible refine M.Var.drew ?_) | (with_reducible refine M.Var.far ?_ _ _ ?hFar; case hFar => (first | omega | ((try simp [go_sem]) <;> omega))) | fail))) hb) (M.Var.mono (b := w.heap.size) (cs := #[.int .i64 (k : Int)]) (by (repeat (first | (with_reducible assumption) | (with_reducible apply M.var_set45) | (with_reducible refine M.var_alloc' _ _ _ ?_; first | rfl | (simp [go_sem]; done)) | (with_reducible refine M.Var.alloc ?_ _) | (with_reducible refine M.Var.drewN ?_ _) | (with_reducible refine M.Var.drew ?_) | (with_reducible refine M.Var.far ?_ _ _ ?hFar; case hFar => (first | omega | ((try simp [go_sem]) <;> omega))) | fail))) hb) (C.out _ _ _ _ w1' ⟨(M.Var.mono (b := w.heap.size + 1) (cs := #[.int .i64 n]) (by (repeat (first | (with_reducible assumption) | (with_reducible apply M.var_set45) | (with_reducible refine M.var_alloc' _ _ _ ?_; first | rfl | (simp [go_sem]; done)) | (with_reducible refine M.Var.alloc ?_ _) | (with_reducible refine M.Var.drewN ?_ _) | (with_reducible refine M.Var.drew ?_) | (with_reducible refine M.Var.far ?_ _ _ ?hFar; case hFar => (first | omega | ((try simp [go_sem]) <;> omega))) | fail))) hb), (M.Var.mono (b := w1.heap.size + 1) (cs := #[.func (.func 45) #[] (capsN (w.heap.size + 1) (w1.heap.size + 1) (w1.heap.size) (w.heap.size + 1 + 1))]) (by (repeat (first | (with_reducible assumption) | (with_reducible apply M.var_set45) | (with_reducible refine M.var_alloc' _ _ _ ?_; first | rfl | (simp [go_sem]; done)) | (with_reducible refine M.Var.alloc ?_ _) | (with_reducible refine M.Var.drewN ?_ _) | (with_reducible refine M.Var.drew ?_) | (with_reducible refine M.Var.far ?_ _ _ ?hFar; case hFar => (first | omega | ((try simp [go_sem]) <;> omega))) | fail))) hb), (M.Var.mono (b := w1.heap.size) (cs := #[.int .i64 0]) (by (repeat (first | (with_reducible assumption) | (with_reducible apply M.var_set45) | (with_reducible refine M.var_alloc' _ _ _ ?_; first | rfl | (simp [go_sem]; done)) | (with_reducible refine M.Var.alloc ?_ _) | (with_reducible refine M.Var.drewN ?_ _) | (with_reducible refine M.Var.drew ?_) | (with_reducible refine M.Var.far ?_ _ _ ?hFar; case hFar => (first | omega | ((try simp [go_sem]) <;> omega))) | fail))) hb), (M.Var.mono (b := w.heap.size + 1 + 1) (cs := #[.bool true]) (by (repeat (first | (with_reducible assumption) | (with_reducible apply M.var_set45) | (with_reducible refine M.var_alloc' _ _ _ ?_; first | rfl | (simp [go_sem]; done)) | (with_reducible refine M.Var.alloc ?_ _) | (with_reducible refine M.Var.drewN ?_ _) | (with_reducible refine M.Var.drew ?_) | (with_reducible refine M.Var.far ?_ _ _ ?hFar; case hFar => (first | omega | ((try simp [go_sem]) <;> omega))) | fail))) hb), by omega, by omega, by omega⟩)).mono fun e w' h => h
    rintro en w2 ⟨rfl, hb⟩
    have G2 : Below w.heap.size w w2 := by refine Below.trans ?_ (hb.mono (by go_size)); exact M.below_sets_own _ (by (repeat (with_reducible refine M.Below.drewN ?_ _)); go_grown) (by intro u hu; (try simp only [List.mem_append] at hu); (repeat' (obtain hu | hu := (hu : _ ∨ _))); all_goals (first | with_reducible rw [M.cell_block1 hu] | with_reducible rw [M.usBx_block hu] | with_reducible rw [M.usV_block hu] | with_reducible rw [M.usI_block hu] | with_reducible rw [M.usHt_block hu] | with_reducible rw [M.usBd_block hu] | with_reducible rw [M.usB_block hu] | rw [M.cell_block1 hu] | (exfalso; simp at hu; done)); all_goals ((try simp [go_sem]) <;> omega))
    have V2_d : M.Var w2 (w.heap.size) #[.int .i64 (k : Int)] := by refine M.Var.mono' ?_ (M.sets_size _ _) hb; (try simp only [M.sets_append]); exact (M.var_sets_far _ (by (repeat (first | (with_reducible assumption) | (with_reducible apply M.var_set45) | (with_reducible refine M.var_alloc' _ _ _ ?_; first | rfl | (simp [go_sem]; done)) | (with_reducible refine M.Var.alloc ?_ _) | (with_reducible refine M.Var.drewN ?_ _) | (with_reducible refine M.Var.drew ?_) | (with_reducible refine M.Var.far ?_ _ _ ?hFar; case hFar => (first | omega | ((try simp [go_sem]) <;> omega))) | fail)) : M.Var _ (w.heap.size) #[.int .i64 (k : Int)]) (by intro u hu; all_goals (first | with_reducible rw [M.cell_block1 hu] | with_reducible rw [M.usBx_block hu] | with_reducible rw [M.usV_block hu] | with_reducible rw [M.usI_block hu] | with_reducible rw [M.usHt_block hu] | with_reducible rw [M.usBd_block hu] | with_reducible rw [M.usB_block hu] | rw [M.cell_block1 hu] | (exfalso; simp at hu; done)); all_goals ((try simp [go_sem]) <;> omega)))
    have V2_n : M.Var w2 (w.heap.size + 1) #[.int .i64 n] := by refine M.Var.mono' ?_ (M.sets_size _ _) hb; (try simp only [M.sets_append]); exact (M.var_sets_far _ (by (repeat (first | (with_reducible assumption) | (with_reducible apply M.var_set45) | (with_reducible refine M.var_alloc' _ _ _ ?_; first | rfl | (simp [go_sem]; done)) | (with_reducible refine M.Var.alloc ?_ _) | (with_reducible refine M.Var.drewN ?_ _) | (with_reducible refine M.Var.drew ?_) | (with_reducible refine M.Var.far ?_ _ _ ?hFar; case hFar => (first | omega | ((try simp [go_sem]) <;> omega))) | fail)) : M.Var _ (w.heap.size + 1) #[.int .i64 n]) (by intro u hu; all_goals (first | with_reducible rw [M.cell_block1 hu] | with_reducible rw [M.usBx_block hu] | with_reducible rw [M.usV_block hu] | with_reducible rw [M.usI_block hu] | with_reducible rw [M.usHt_block hu] | with_reducible rw [M.usBd_block hu] | with_reducible rw [M.usB_block hu] | rw [M.cell_block1 hu] | (exfalso; simp at hu; done)); all_goals ((try simp [go_sem]) <;> omega)))
    have V2_g : M.Var w2 (w.heap.size + 1 + 1) #[.bool true] := by refine M.Var.mono' ?_ (M.sets_size _ _) hb; (try simp only [M.sets_append]); exact (M.var_sets_far _ (by (repeat (first | (with_reducible assumption) | (with_reducible apply M.var_set45) | (with_reducible refine M.var_alloc' _ _ _ ?_; first | rfl | (simp [go_sem]; done)) | (with_reducible refine M.Var.alloc ?_ _) | (with_reducible refine M.Var.drewN ?_ _) | (with_reducible refine M.Var.drew ?_) | (with_reducible refine M.Var.far ?_ _ _ ?hFar; case hFar => (first | omega | ((try simp [go_sem]) <;> omega))) | fail)) : M.Var _ (w.heap.size + 1 + 1) #[.bool true]) (by intro u hu; all_goals (first | with_reducible rw [M.cell_block1 hu] | with_reducible rw [M.usBx_block hu] | with_reducible rw [M.usV_block hu] | with_reducible rw [M.usI_block hu] | with_reducible rw [M.usHt_block hu] | with_reducible rw [M.usBd_block hu] | with_reducible rw [M.usB_block hu] | rw [M.cell_block1 hu] | (exfalso; simp at hu; done)); all_goals ((try simp [go_sem]) <;> omega)))
    have V2_s : M.Var w2 (w1.heap.size) #[.int .i64 (k : Int)] := by refine M.Var.mono' ?_ (M.sets_size _ _) hb; (try simp only [M.sets_append]); exact (M.var_setI (by (repeat (first | (with_reducible assumption) | (with_reducible apply M.var_set45) | (with_reducible refine M.var_alloc' _ _ _ ?_; first | rfl | (simp [go_sem]; done)) | (with_reducible refine M.Var.alloc ?_ _) | (with_reducible refine M.Var.drewN ?_ _) | (with_reducible refine M.Var.drew ?_) | (with_reducible refine M.Var.far ?_ _ _ ?hFar; case hFar => (first | omega | ((try simp [go_sem]) <;> omega))) | fail)) : M.Var _ (w1.heap.size) #[.int .i64 0]) _)
    have V2_i : M.Var w2 (w1.heap.size + 1) #[.func (.func 45) #[] (capsN (w.heap.size + 1) (w1.heap.size + 1) (w1.heap.size) (w.heap.size + 1 + 1))] := by refine M.Var.mono' ?_ (M.sets_size _ _) hb; (try simp only [M.sets_append]); exact (M.var_sets_far _ (by (repeat (first | (with_reducible assumption) | (with_reducible apply M.var_set45) | (with_reducible refine M.var_alloc' _ _ _ ?_; first | rfl | (simp [go_sem]; done)) | (with_reducible refine M.Var.alloc ?_ _) | (with_reducible refine M.Var.drewN ?_ _) | (with_reducible refine M.Var.drew ?_) | (with_reducible refine M.Var.far ?_ _ _ ?hFar; case hFar => (first | omega | ((try simp [go_sem]) <;> omega))) | fail)) : M.Var _ (w1.heap.size + 1) #[.func (.func 45) #[] (capsN (w.heap.size + 1) (w1.heap.size + 1) (w1.heap.size) (w.heap.size + 1 + 1))]) (by intro u hu; all_goals (first | with_reducible rw [M.cell_block1 hu] | with_reducible rw [M.usBx_block hu] | with_reducible rw [M.usV_block hu] | with_reducible rw [M.usI_block hu] | with_reducible rw [M.usHt_block hu] | with_reducible rw [M.usBd_block hu] | with_reducible rw [M.usB_block hu] | rw [M.cell_block1 hu] | (exfalso; simp at hu; done)); all_goals ((try simp [go_sem]) <;> omega)))
    have q2_d_0 : w2.cell? ⟨w.heap.size, 0, none⟩ = some (.int .i64 (k : Int)) := V2_d.c 0 _ rfl
    have f2_d := V2_d.2.2; have L2_d := V2_d.lt; have N2_d := Nat.ne_of_gt L2_d; have M2_d := Nat.ne_of_lt L2_d
    have HV2_d := Lib.hid V2_d
    have q2_n_0 : w2.cell? ⟨w.heap.size + 1, 0, none⟩ = some (.int .i64 n) := V2_n.c 0 _ rfl
    have f2_n := V2_n.2.2; have L2_n := V2_n.lt; have N2_n := Nat.ne_of_gt L2_n; have M2_n := Nat.ne_of_lt L2_n
    have HV2_n := Lib.hid V2_n
    have q2_g_0 : w2.cell? ⟨w.heap.size + 1 + 1, 0, none⟩ = some (.bool true) := V2_g.c 0 _ rfl
    have f2_g := V2_g.2.2; have L2_g := V2_g.lt; have N2_g := Nat.ne_of_gt L2_g; have M2_g := Nat.ne_of_lt L2_g
    have HV2_g := Lib.hid V2_g
    have q2_s_0 : w2.cell? ⟨w1.heap.size, 0, none⟩ = some (.int .i64 (k : Int)) := V2_s.c 0 _ rfl
    have f2_s := V2_s.2.2; have L2_s := V2_s.lt; have N2_s := Nat.ne_of_gt L2_s; have M2_s := Nat.ne_of_lt L2_s
    have HV2_s := Lib.hid V2_s
    have q2_i_0 : w2.cell? ⟨w1.heap.size + 1, 0, none⟩ = some (.func (.func 45) #[] (capsN (w.heap.size + 1) (w1.heap.size + 1) (w1.heap.size) (w.heap.size + 1 + 1))) := V2_i.c 0 _ rfl
    have f2_i := V2_i.2.2; have L2_i := V2_i.lt; have N2_i := Nat.ne_of_gt L2_i; have M2_i := Nat.ne_of_lt L2_i
    have HV2_i := Lib.hid V2_i
    have S2 := G2.size; clear hb
    go_wp2_with fail
    go_ret
    exact ⟨rfl, by (repeat (with_reducible refine M.Below.drewN ?_ _)); go_grown⟩

theorem lifted (os : Os) (started : os.Started) (H : Type) (enc : TypeId × Value → H) :
    ReturnsInHanded {} Try.checked os 12 .any (Rows.calcNestedSpec.pre6 enc Try.prog Try.f12 Rows.calcNestedRow.domain false) (Rows.calcNestedSpec.post enc Try.prog Try.f12 false true false false) := by
  refine returnsInHanded_of_change (C := Try.checked) own started (by kernel_rfl) Try.func12
    (ChangeSpec.witness6 (enc := enc) (C := Try.checked) false ⟨#[], #[.int .i64 0, .int .i64 0, .bool false], []⟩ 8 (by kernel_rfl) (by kernel_rfl) (by kernel_rfl) (by kernel_rfl)) ?_
  intro W base args ds gs before hval0 hW hcnd _
  have hval : ∀ (j : Nat) t v, Try.f12.params[j]? = some t → args[j]? = some v → Value.okWide Try.prog W .any base t v := hval0
  have hW' := hW
  obtain ⟨p, q, hA0, hV, rfl, hfz, hnd⟩ := hW
  have hA : DataW.TrodAll enc Try.prog W 0 (fun _ => true) true Try.f12.params.toList args.toList ds p := hA0
  rw [Try.params12] at hA hval
  obtain ⟨v0, vs0, d0, ds0, p0, q0, hargs, rfl, rfl, h0, r0⟩ := trodAll_cons hA
  obtain ⟨v1, vs1, d1, ds1, p1, q1, rfl, rfl, rfl, h1, r1⟩ := trodAll_cons r0
  obtain ⟨v2, vs2, d2, ds2, p2, q2, rfl, rfl, rfl, h2, r2⟩ := trodAll_cons r1
  obtain ⟨rfl, rfl, rfl⟩ := trodAll_nil r2
  obtain rfl : args = #[v0, v1, v2] := by cases args; simp_all
  obtain ⟨rfl, rfl⟩ := trodVars_none hV
  obtain ⟨d, rfl, rfl, rfl, wd⟩ := open_int Try.underlying3 (hval 0 3 v0 rfl rfl) h0
  obtain ⟨n, rfl, rfl, rfl, wn⟩ := open_int Try.underlying3 (hval 1 3 v1 rfl rfl) h1
  obtain ⟨g, rfl, rfl, rfl⟩ := open_bool Try.underlying4 (hval 2 4 v2 rfl rfl) h2
  clear hA0 hval0
  simp only [List.append_nil] at hW'
  refine (walk W d (i64_wf wd) n (i64_wf wn) g).mono fun e W' ⟨he, hg⟩ => ?_
  subst he
  exact ⟨_, rfl, post_below (pa := []) (pv := []) hW' (fun _ _ _ => (trodAll_cons_mk (shut_bool Try.underlying4 _) trodAll_mk0)) (fun sp hsp => (trodAll_cons_mk (shut_int Try.underlying3 wd) (trodAll_cons_mk (shut_int Try.underlying3 wn) (trodAll_cons_mk (shut_bool Try.underlying4 _) trodAll_mk0)))) (fun _ _ => rfl) rfl
    hg (ok_one (by kernel_rfl) rfl (okWide_bool_mk Try.underlying4 _))⟩

theorem closed : joinedFacts Try.prog 12 Try.f12 Rows.calcNestedSpec Rows.calcNestedRow = true := by
  unfold joinedFacts
  rw [fact_laid, fact_maps, fact_keys, fact_heard, fact_stops, fact_knobs, fact_enter, fact_lifts, fact_make]
  kernel_rfl

theorem over : Rows.calcNestedRow.holds Try.pinned (OpenSpec.ofChange Rows.calcNestedSpec) :=
  OpenClaim.holds_of_wide 12 Try.f12 rfl rfl rfl rfl rfl rfl rfl ⟨rfl, rfl, rfl, rfl, rfl⟩ rfl rfl rfl rfl rfl (by kernel_rfl) Try.func12 closed
    (of_decide_eq_true (by kernel_rfl)) (by unfold Func.isWrapper; first | (rw [if_pos (by decide +kernel)]; kernel_rfl) | (rw [if_neg (by decide +kernel)]; exact ⟨rfl, rfl⟩))
    (fun os started H enc _ => lifted os started H enc)

/-- The statement. -/
theorem proved : Rows.CalcNestedSaid :=
  over
#print axioms proved
end Go.Proofs.Ytcaibieaobhheaa.calcNested
