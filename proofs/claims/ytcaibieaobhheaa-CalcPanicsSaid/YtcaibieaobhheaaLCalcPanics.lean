/- For every text and number CalcPanics returns true: a panic that is no Fault goes on, with its value; a Fault in a Try in a Try is caught by the inner one. -/
import Derived.Test.YtcaibieaobhheaaRows
import Derived.WalkKit
import Derived.ProofKit
import Derived.OpenShut
import Derived.Test.YtcaibieaobhheaaFacts
import Derived.Test.YtcaibieaobhheaaArgs
import Derived.Test.YtcaibieaobhheaaPan2
import Derived.Test.YtcaibieaobhheaaClo3
import Derived.Test.YtcaibieaobhheaaTill
import Derived.ChangeMaps5
import Derived.Deep.RegionHeld2
import Derived.Deep.DrawnRows
namespace Go.Proofs.Ytcaibieaobhheaa.calcPanics
open Go.ChangeShapes Go.WideShapes Go.ChangeAt Go.RowKit M
set_option maxRecDepth 100000
set_option maxHeartbeats 8000000
set_option linter.unusedVariables false
set_option linter.unusedSimpArgs false
attribute [local go_sem ↓] Go.wp_at_zero Go.wp_at_succ
theorem own : ownKnob Try.prog.godebug = none := by kernel_rfl

/-- The walk: the Go text returns true; of what was there nothing turns. -/
theorem walk (w : World) (t : ByteArray) (ht : t.size ≤ maxLen) (n : Int) (hn : I64 n) :
    Calls Try.prog 11 #[.string t, .int .i64 n] w fun e w' => e = .returned (.bool true) ∧ Bw w w' := by
  have c0 := Lib.hid alive3_c
  cases he : t.toList.isEmpty
  rotate_left
  · go_enter Try.func11, Try.ntmps11
    go_wp2_with fail
    (with_reducible refine (c0.out _).mono ?_); rintro en w1 ⟨rfl, hb⟩
    have G1 : Below w.heap.size w w1 := Below.trans (by (repeat (with_reducible refine M.Below.drewN ?_ _)); go_grown) (hb.mono (by go_size))
    have V1_t : M.Var w1 (w.heap.size) #[.string t] := M.Var.mono (by (repeat (first | (with_reducible assumption) | (with_reducible apply M.var_set45) | (with_reducible refine M.var_alloc' _ _ _ ?_; first | rfl | (simp [go_sem]; done)) | (with_reducible refine M.Var.alloc ?_ _) | (with_reducible refine M.Var.drewN ?_ _) | (with_reducible refine M.Var.drew ?_) | (with_reducible refine M.Var.far ?_ _ _ ?hFar; case hFar => (first | omega | ((try simp [go_sem]) <;> omega))) | fail))) hb
    have V1_n : M.Var w1 (w.heap.size + 1) #[.int .i64 n] := M.Var.mono (by (repeat (first | (with_reducible assumption) | (with_reducible apply M.var_set45) | (with_reducible refine M.var_alloc' _ _ _ ?_; first | rfl | (simp [go_sem]; done)) | (with_reducible refine M.Var.alloc ?_ _) | (with_reducible refine M.Var.drewN ?_ _) | (with_reducible refine M.Var.drew ?_) | (with_reducible refine M.Var.far ?_ _ _ ?hFar; case hFar => (first | omega | ((try simp [go_sem]) <;> omega))) | fail))) hb
    have q1_t_0 : w1.cell? ⟨w.heap.size, 0, none⟩ = some (.string t) := V1_t.c 0 _ rfl
    have f1_t := V1_t.2.2; have L1_t := V1_t.lt; have N1_t := Nat.ne_of_gt L1_t; have M1_t := Nat.ne_of_lt L1_t
    have HV1_t := Lib.hid V1_t
    have q1_n_0 : w1.cell? ⟨w.heap.size + 1, 0, none⟩ = some (.int .i64 n) := V1_n.c 0 _ rfl
    have f1_n := V1_n.2.2; have L1_n := V1_n.lt; have N1_n := Nat.ne_of_gt L1_n; have M1_n := Nat.ne_of_lt L1_n
    have HV1_n := Lib.hid V1_n
    have S1 := G1.size; clear hb
    go_wp2_with fail
    go_ret
    exact ⟨rfl, by (repeat (with_reducible refine M.Below.drewN ?_ _)); go_grown⟩
  by_cases hl : 60 < t.size
  · have hl2 : (60 : Int) < (t.size : Int) := by omega
    go_enter Try.func11, Try.ntmps11
    go_wp2_with fail
    (with_reducible refine (c0.out _).mono ?_); rintro en w1 ⟨rfl, hb⟩
    have G1 : Below w.heap.size w w1 := Below.trans (by (repeat (with_reducible refine M.Below.drewN ?_ _)); go_grown) (hb.mono (by go_size))
    have V1_t : M.Var w1 (w.heap.size) #[.string t] := M.Var.mono (by (repeat (first | (with_reducible assumption) | (with_reducible apply M.var_set45) | (with_reducible refine M.var_alloc' _ _ _ ?_; first | rfl | (simp [go_sem]; done)) | (with_reducible refine M.Var.alloc ?_ _) | (with_reducible refine M.Var.drewN ?_ _) | (with_reducible refine M.Var.drew ?_) | (with_reducible refine M.Var.far ?_ _ _ ?hFar; case hFar => (first | omega | ((try simp [go_sem]) <;> omega))) | fail))) hb
    have V1_n : M.Var w1 (w.heap.size + 1) #[.int .i64 n] := M.Var.mono (by (repeat (first | (with_reducible assumption) | (with_reducible apply M.var_set45) | (with_reducible refine M.var_alloc' _ _ _ ?_; first | rfl | (simp [go_sem]; done)) | (with_reducible refine M.Var.alloc ?_ _) | (with_reducible refine M.Var.drewN ?_ _) | (with_reducible refine M.Var.drew ?_) | (with_reducible refine M.Var.far ?_ _ _ ?hFar; case hFar => (first | omega | ((try simp [go_sem]) <;> omega))) | fail))) hb
    have q1_t_0 : w1.cell? ⟨w.heap.size, 0, none⟩ = some (.string t) := V1_t.c 0 _ rfl
    have f1_t := V1_t.2.2; have L1_t := V1_t.lt; have N1_t := Nat.ne_of_gt L1_t; have M1_t := Nat.ne_of_lt L1_t
    have HV1_t := Lib.hid V1_t
    have q1_n_0 : w1.cell? ⟨w.heap.size + 1, 0, none⟩ = some (.int .i64 n) := V1_n.c 0 _ rfl
    have f1_n := V1_n.2.2; have L1_n := V1_n.lt; have N1_n := Nat.ne_of_gt L1_n; have M1_n := Nat.ne_of_lt L1_n
    have HV1_n := Lib.hid V1_n
    have S1 := G1.size; clear hb
    go_wp2_with fail
    go_ret
    exact ⟨rfl, by (repeat (with_reducible refine M.Below.drewN ?_ _)); go_grown⟩
  have hl2 : ¬ (60 : Int) < (t.size : Int) := by omega
  have HE := Lib.hid he
  go_enter Try.func11, Try.ntmps11
  go_wp2_with fail
  (with_reducible refine (c0.out _).mono ?_); rintro en w1 ⟨rfl, hb⟩
  have G1 : Below w.heap.size w w1 := Below.trans (by (repeat (with_reducible refine M.Below.drewN ?_ _)); go_grown) (hb.mono (by go_size))
  have V1_t : M.Var w1 (w.heap.size) #[.string t] := M.Var.mono (by (repeat (first | (with_reducible assumption) | (with_reducible apply M.var_set45) | (with_reducible refine M.var_alloc' _ _ _ ?_; first | rfl | (simp [go_sem]; done)) | (with_reducible refine M.Var.alloc ?_ _) | (with_reducible refine M.Var.drewN ?_ _) | (with_reducible refine M.Var.drew ?_) | (with_reducible refine M.Var.far ?_ _ _ ?hFar; case hFar => (first | omega | ((try simp [go_sem]) <;> omega))) | fail))) hb
  have V1_n : M.Var w1 (w.heap.size + 1) #[.int .i64 n] := M.Var.mono (by (repeat (first | (with_reducible assumption) | (with_reducible apply M.var_set45) | (with_reducible refine M.var_alloc' _ _ _ ?_; first | rfl | (simp [go_sem]; done)) | (with_reducible refine M.Var.alloc ?_ _) | (with_reducible refine M.Var.drewN ?_ _) | (with_reducible refine M.Var.drew ?_) | (with_reducible refine M.Var.far ?_ _ _ ?hFar; case hFar => (first | omega | ((try simp [go_sem]) <;> omega))) | fail))) hb
  have q1_t_0 : w1.cell? ⟨w.heap.size, 0, none⟩ = some (.string t) := V1_t.c 0 _ rfl
  have f1_t := V1_t.2.2; have L1_t := V1_t.lt; have N1_t := Nat.ne_of_gt L1_t; have M1_t := Nat.ne_of_lt L1_t
  have HV1_t := Lib.hid V1_t
  have q1_n_0 : w1.cell? ⟨w.heap.size + 1, 0, none⟩ = some (.int .i64 n) := V1_n.c 0 _ rfl
  have f1_n := V1_n.2.2; have L1_n := V1_n.lt; have N1_n := Nat.ne_of_gt L1_n; have M1_n := Nat.ne_of_lt L1_n
  have HV1_n := Lib.hid V1_n
  have S1 := G1.size; clear hb
  go_wp2_with fail
  refine wp_region_till (S := fun sT wT' => Hid (M.Var wT' (w.heap.size) #[.string t] ∧ True)) (by kernel_rfl) (Lib.hid ⟨(by (repeat (first | (with_reducible assumption) | (with_reducible apply M.var_setV) | (with_reducible apply M.var_setI) | (with_reducible apply M.var_setB) | (with_reducible apply M.var_setHt) | (with_reducible apply M.var_setBd) | (with_reducible apply M.var_set2) | (with_reducible apply M.var_set3) | (with_reducible apply M.var_set4) | (with_reducible apply M.var_set45) | (with_reducible apply M.var_set67) | (with_reducible apply M.var_setF) | (with_reducible refine M.var_alloc' _ _ _ ?_; first | rfl | (focus (simp [go_sem]; done))) | (with_reducible refine M.Var.alloc ?_ _) | (with_reducible refine M.Var.drewN ?_ _) | (with_reducible refine M.Var.drew ?_) | (with_reducible refine M.Var.far ?_ _ _ ?hFar; case hFar => (first | omega | ((try simp [go_sem]) <;> omega))) | fail))), trivial⟩) ?_
  intro hTb hTS
  refine wpTill_take (i := 2) (v := ?_) rfl (by kernel_rfl) (by kernel_rfl) (by kernel_rfl) hTb (fun _ _ _ h => h) (fun _ _ => Iff.rfl) (Or.inl ⟨by rfl, ?_⟩) hTS ?_
  rotate_left
  · rintro wT ⟨sT, hbT, huT, hST⟩
    have zT_t_0 := hST.out.1.c 0 _ rfl
    clear hST hbT huT
    go_simp
    all_goals with_reducible rfl
  clear hTb hTS; intro hTb hTS
  try simp only [Act.put, List.setIfInBounds_toArray, List.set_cons_zero, List.set_cons_succ]
  refine wpTill_one (i := 0) (by kernel_rfl) rfl hTb (fun K hK => ?_)
  go_simp
  (try go_simp)
  refine hK.out _ _ (Lib.hid ⟨(by (repeat (first | (with_reducible assumption) | (with_reducible apply M.var_setV) | (with_reducible apply M.var_setI) | (with_reducible apply M.var_setB) | (with_reducible apply M.var_setHt) | (with_reducible apply M.var_setBd) | (with_reducible apply M.var_set2) | (with_reducible apply M.var_set3) | (with_reducible apply M.var_set4) | (with_reducible apply M.var_set45) | (with_reducible apply M.var_set67) | (with_reducible apply M.var_setF) | (with_reducible refine M.var_alloc' _ _ _ ?_; first | rfl | (focus (simp [go_sem]; done))) | (with_reducible refine M.Var.alloc ?_ _) | (with_reducible refine M.Var.drewN ?_ _) | (with_reducible refine M.Var.drew ?_) | (with_reducible refine M.Var.far ?_ _ _ ?hFar; case hFar => (first | omega | ((try simp [go_sem]) <;> omega))) | fail))), trivial⟩) ?_
  clear hK K hTb hTS; intro hTb hTS
  try simp only [Act.put, List.setIfInBounds_toArray, List.set_cons_zero, List.set_cons_succ]
  refine wpTill_one (i := 1) (by kernel_rfl) rfl hTb (fun K hK => ?_)
  go_simp
  refine (caughtS_c 41 #[.pointer (some ⟨w.heap.size, 0, none⟩)] _ t HE.out (fun _ => rfl) (fun w1' hb => pan1_c _ t w1' (M.Var.mono (b := w.heap.size) (cs := #[.string t]) (by (repeat (first | (with_reducible assumption) | (with_reducible apply M.var_set45) | (with_reducible refine M.var_alloc' _ _ _ ?_; first | rfl | (simp [go_sem]; done)) | (with_reducible refine M.Var.alloc ?_ _) | (with_reducible refine M.Var.drewN ?_ _) | (with_reducible refine M.Var.drew ?_) | (with_reducible refine M.Var.far ?_ _ _ ?hFar; case hFar => (first | omega | ((try simp [go_sem]) <;> omega))) | fail))) hb))).mono ?_; rintro en w2 ⟨rfl, hb⟩
  have G2 : Below w.heap.size w w2 := Below.trans (by (repeat (with_reducible refine M.Below.drewN ?_ _)); go_grown) (hb.mono (by go_size))
  have V2_t : M.Var w2 (w.heap.size) #[.string t] := M.Var.mono (by (repeat (first | (with_reducible assumption) | (with_reducible apply M.var_set45) | (with_reducible refine M.var_alloc' _ _ _ ?_; first | rfl | (simp [go_sem]; done)) | (with_reducible refine M.Var.alloc ?_ _) | (with_reducible refine M.Var.drewN ?_ _) | (with_reducible refine M.Var.drew ?_) | (with_reducible refine M.Var.far ?_ _ _ ?hFar; case hFar => (first | omega | ((try simp [go_sem]) <;> omega))) | fail))) hb
  have V2_n : M.Var w2 (w.heap.size + 1) #[.int .i64 n] := M.Var.mono (by (repeat (first | (with_reducible assumption) | (with_reducible apply M.var_set45) | (with_reducible refine M.var_alloc' _ _ _ ?_; first | rfl | (simp [go_sem]; done)) | (with_reducible refine M.Var.alloc ?_ _) | (with_reducible refine M.Var.drewN ?_ _) | (with_reducible refine M.Var.drew ?_) | (with_reducible refine M.Var.far ?_ _ _ ?hFar; case hFar => (first | omega | ((try simp [go_sem]) <;> omega))) | fail))) hb
  have q2_t_0 : w2.cell? ⟨w.heap.size, 0, none⟩ = some (.string t) := V2_t.c 0 _ rfl
  have f2_t := V2_t.2.2; have L2_t := V2_t.lt; have N2_t := Nat.ne_of_gt L2_t; have M2_t := Nat.ne_of_lt L2_t
  have HV2_t := Lib.hid V2_t
  have q2_n_0 : w2.cell? ⟨w.heap.size + 1, 0, none⟩ = some (.int .i64 n) := V2_n.c 0 _ rfl
  have f2_n := V2_n.2.2; have L2_n := V2_n.lt; have N2_n := Nat.ne_of_gt L2_n; have M2_n := Nat.ne_of_lt L2_n
  have HV2_n := Lib.hid V2_n
  have S2 := G2.size; clear hb
  (try go_simp)
  refine hK.out _ _ (Lib.hid ⟨(by (repeat (first | (with_reducible assumption) | (with_reducible apply M.var_setV) | (with_reducible apply M.var_setI) | (with_reducible apply M.var_setB) | (with_reducible apply M.var_setHt) | (with_reducible apply M.var_setBd) | (with_reducible apply M.var_set2) | (with_reducible apply M.var_set3) | (with_reducible apply M.var_set4) | (with_reducible apply M.var_set45) | (with_reducible apply M.var_set67) | (with_reducible apply M.var_setF) | (with_reducible refine M.var_alloc' _ _ _ ?_; first | rfl | (focus (simp [go_sem]; done))) | (with_reducible refine M.Var.alloc ?_ _) | (with_reducible refine M.Var.drewN ?_ _) | (with_reducible refine M.Var.drew ?_) | (with_reducible refine M.Var.far ?_ _ _ ?hFar; case hFar => (first | omega | ((try simp [go_sem]) <;> omega))) | fail))), trivial⟩) ?_
  clear hK K hTb hTS; intro hTb hTS
  try simp only [Act.put, List.setIfInBounds_toArray, List.set_cons_zero, List.set_cons_succ]
  refine wpTill_take (i := 3) (v := ?_) rfl (by kernel_rfl) (by kernel_rfl) (by kernel_rfl) hTb (fun _ _ _ h => h) (fun _ _ => Iff.rfl) (Or.inl ⟨by rfl, ?_⟩) hTS ?_
  rotate_left
  · intro wT hT; clear hT
    go_simp
    all_goals with_reducible rfl
  clear hTb hTS; intro hTb hTS
  try simp only [Act.put, List.setIfInBounds_toArray, List.set_cons_zero, List.set_cons_succ]
  refine wpTill_done (by kernel_rfl) ?_ _; clear hTb hTS
  go_wp2_with (with_reducible refine M.stopPost ?_)
  (try refine M.Stop.mk ?_)
  refine (try_c 43 #[.pointer (some ⟨w.heap.size + 1, 0, none⟩), .pointer (some ⟨w2.heap.size, 0, none⟩)] _ (0) (usI (w2.heap.size) (.ok n)) (fun _ => rfl) ?_ ?_).mono ?_
  · intro u hu; (try simp only [List.mem_append] at hu); (repeat' (obtain hu | hu := (hu : _ ∨ _))); all_goals (first | with_reducible rw [M.cell_block1 hu] | with_reducible rw [M.usBx_block hu] | with_reducible rw [M.usV_block hu] | with_reducible rw [M.usI_block hu] | with_reducible rw [M.usHt_block hu] | with_reducible rw [M.usBd_block hu] | with_reducible rw [M.usB_block hu] | rw [M.cell_block1 hu] | (exfalso; simp at hu; done)); all_goals ((try simp [go_sem]) <;> omega)
  · intro w1' hb; exact (pan2_c _ _ n w1' (M.Var.mono (b := w.heap.size + 1) (cs := #[.int .i64 n]) (by (repeat (first | (with_reducible assumption) | (with_reducible apply M.var_set45) | (with_reducible refine M.var_alloc' _ _ _ ?_; first | rfl | (simp [go_sem]; done)) | (with_reducible refine M.Var.alloc ?_ _) | (with_reducible refine M.Var.drewN ?_ _) | (with_reducible refine M.Var.drew ?_) | (with_reducible refine M.Var.far ?_ _ _ ?hFar; case hFar => (first | omega | ((try simp [go_sem]) <;> omega))) | fail))) hb) (M.Var.mono (b := w2.heap.size) (cs := #[.int .i64 0]) (by (repeat (first | (with_reducible assumption) | (with_reducible apply M.var_set45) | (with_reducible refine M.var_alloc' _ _ _ ?_; first | rfl | (simp [go_sem]; done)) | (with_reducible refine M.Var.alloc ?_ _) | (with_reducible refine M.Var.drewN ?_ _) | (with_reducible refine M.Var.drew ?_) | (with_reducible refine M.Var.far ?_ _ _ ?hFar; case hFar => (first | omega | ((try simp [go_sem]) <;> omega))) | fail))) hb) (by omega)).mono fun e w' h => h
  rintro en w3 ⟨rfl, hb⟩
  have G3 : Below w.heap.size w w3 := by refine Below.trans ?_ (hb.mono (by go_size)); exact M.below_sets_own _ (by (repeat (with_reducible refine M.Below.drewN ?_ _)); go_grown) (by intro u hu; (try simp only [List.mem_append] at hu); (repeat' (obtain hu | hu := (hu : _ ∨ _))); all_goals (first | with_reducible rw [M.cell_block1 hu] | with_reducible rw [M.usBx_block hu] | with_reducible rw [M.usV_block hu] | with_reducible rw [M.usI_block hu] | with_reducible rw [M.usHt_block hu] | with_reducible rw [M.usBd_block hu] | with_reducible rw [M.usB_block hu] | rw [M.cell_block1 hu] | (exfalso; simp at hu; done)); all_goals ((try simp [go_sem]) <;> omega))
  have V3_t : M.Var w3 (w.heap.size) #[.string t] := by refine M.Var.mono' ?_ (M.sets_size _ _) hb; (try simp only [M.sets_append]); exact (M.var_sets_far _ (by (repeat (first | (with_reducible assumption) | (with_reducible apply M.var_set45) | (with_reducible refine M.var_alloc' _ _ _ ?_; first | rfl | (simp [go_sem]; done)) | (with_reducible refine M.Var.alloc ?_ _) | (with_reducible refine M.Var.drewN ?_ _) | (with_reducible refine M.Var.drew ?_) | (with_reducible refine M.Var.far ?_ _ _ ?hFar; case hFar => (first | omega | ((try simp [go_sem]) <;> omega))) | fail)) : M.Var _ (w.heap.size) #[.string t]) (by intro u hu; all_goals (first | with_reducible rw [M.cell_block1 hu] | with_reducible rw [M.usBx_block hu] | with_reducible rw [M.usV_block hu] | with_reducible rw [M.usI_block hu] | with_reducible rw [M.usHt_block hu] | with_reducible rw [M.usBd_block hu] | with_reducible rw [M.usB_block hu] | rw [M.cell_block1 hu] | (exfalso; simp at hu; done)); all_goals ((try simp [go_sem]) <;> omega)))
  have V3_n : M.Var w3 (w.heap.size + 1) #[.int .i64 n] := by refine M.Var.mono' ?_ (M.sets_size _ _) hb; (try simp only [M.sets_append]); exact (M.var_sets_far _ (by (repeat (first | (with_reducible assumption) | (with_reducible apply M.var_set45) | (with_reducible refine M.var_alloc' _ _ _ ?_; first | rfl | (simp [go_sem]; done)) | (with_reducible refine M.Var.alloc ?_ _) | (with_reducible refine M.Var.drewN ?_ _) | (with_reducible refine M.Var.drew ?_) | (with_reducible refine M.Var.far ?_ _ _ ?hFar; case hFar => (first | omega | ((try simp [go_sem]) <;> omega))) | fail)) : M.Var _ (w.heap.size + 1) #[.int .i64 n]) (by intro u hu; all_goals (first | with_reducible rw [M.cell_block1 hu] | with_reducible rw [M.usBx_block hu] | with_reducible rw [M.usV_block hu] | with_reducible rw [M.usI_block hu] | with_reducible rw [M.usHt_block hu] | with_reducible rw [M.usBd_block hu] | with_reducible rw [M.usB_block hu] | rw [M.cell_block1 hu] | (exfalso; simp at hu; done)); all_goals ((try simp [go_sem]) <;> omega)))
  have V3_i : M.Var w3 (w2.heap.size) #[.int .i64 n] := by refine M.Var.mono' ?_ (M.sets_size _ _) hb; (try simp only [M.sets_append]); exact (M.var_setI (by (repeat (first | (with_reducible assumption) | (with_reducible apply M.var_set45) | (with_reducible refine M.var_alloc' _ _ _ ?_; first | rfl | (simp [go_sem]; done)) | (with_reducible refine M.Var.alloc ?_ _) | (with_reducible refine M.Var.drewN ?_ _) | (with_reducible refine M.Var.drew ?_) | (with_reducible refine M.Var.far ?_ _ _ ?hFar; case hFar => (first | omega | ((try simp [go_sem]) <;> omega))) | fail)) : M.Var _ (w2.heap.size) #[.int .i64 0]) _)
  have q3_t_0 : w3.cell? ⟨w.heap.size, 0, none⟩ = some (.string t) := V3_t.c 0 _ rfl
  have f3_t := V3_t.2.2; have L3_t := V3_t.lt; have N3_t := Nat.ne_of_gt L3_t; have M3_t := Nat.ne_of_lt L3_t
  have HV3_t := Lib.hid V3_t
  have q3_n_0 : w3.cell? ⟨w.heap.size + 1, 0, none⟩ = some (.int .i64 n) := V3_n.c 0 _ rfl
  have f3_n := V3_n.2.2; have L3_n := V3_n.lt; have N3_n := Nat.ne_of_gt L3_n; have M3_n := Nat.ne_of_lt L3_n
  have HV3_n := Lib.hid V3_n
  have q3_i_0 : w3.cell? ⟨w2.heap.size, 0, none⟩ = some (.int .i64 n) := V3_i.c 0 _ rfl
  have f3_i := V3_i.2.2; have L3_i := V3_i.lt; have N3_i := Nat.ne_of_gt L3_i; have M3_i := Nat.ne_of_lt L3_i
  have HV3_i := Lib.hid V3_i
  have S3 := G3.size; clear hb
  go_wp2_with fail
  (with_reducible refine (try_nil _).mono ?_); rintro en w4 ⟨rfl, hb⟩
  have G4 : Below w.heap.size w w4 := Below.trans (by (repeat (with_reducible refine M.Below.drewN ?_ _)); go_grown) (hb.mono (by go_size))
  have V4_t : M.Var w4 (w.heap.size) #[.string t] := M.Var.mono (by (repeat (first | (with_reducible assumption) | (with_reducible apply M.var_set45) | (with_reducible refine M.var_alloc' _ _ _ ?_; first | rfl | (simp [go_sem]; done)) | (with_reducible refine M.Var.alloc ?_ _) | (with_reducible refine M.Var.drewN ?_ _) | (with_reducible refine M.Var.drew ?_) | (with_reducible refine M.Var.far ?_ _ _ ?hFar; case hFar => (first | omega | ((try simp [go_sem]) <;> omega))) | fail))) hb
  have V4_n : M.Var w4 (w.heap.size + 1) #[.int .i64 n] := M.Var.mono (by (repeat (first | (with_reducible assumption) | (with_reducible apply M.var_set45) | (with_reducible refine M.var_alloc' _ _ _ ?_; first | rfl | (simp [go_sem]; done)) | (with_reducible refine M.Var.alloc ?_ _) | (with_reducible refine M.Var.drewN ?_ _) | (with_reducible refine M.Var.drew ?_) | (with_reducible refine M.Var.far ?_ _ _ ?hFar; case hFar => (first | omega | ((try simp [go_sem]) <;> omega))) | fail))) hb
  have V4_i : M.Var w4 (w2.heap.size) #[.int .i64 n] := M.Var.mono (by (repeat (first | (with_reducible assumption) | (with_reducible apply M.var_set45) | (with_reducible refine M.var_alloc' _ _ _ ?_; first | rfl | (simp [go_sem]; done)) | (with_reducible refine M.Var.alloc ?_ _) | (with_reducible refine M.Var.drewN ?_ _) | (with_reducible refine M.Var.drew ?_) | (with_reducible refine M.Var.far ?_ _ _ ?hFar; case hFar => (first | omega | ((try simp [go_sem]) <;> omega))) | fail))) hb
  have q4_t_0 : w4.cell? ⟨w.heap.size, 0, none⟩ = some (.string t) := V4_t.c 0 _ rfl
  have f4_t := V4_t.2.2; have L4_t := V4_t.lt; have N4_t := Nat.ne_of_gt L4_t; have M4_t := Nat.ne_of_lt L4_t
  have HV4_t := Lib.hid V4_t
  have q4_n_0 : w4.cell? ⟨w.heap.size + 1, 0, none⟩ = some (.int .i64 n) := V4_n.c 0 _ rfl
  have f4_n := V4_n.2.2; have L4_n := V4_n.lt; have N4_n := Nat.ne_of_gt L4_n; have M4_n := Nat.ne_of_lt L4_n
  have HV4_n := Lib.hid V4_n
  have q4_i_0 : w4.cell? ⟨w2.heap.size, 0, none⟩ = some (.int .i64 n) := V4_i.c 0 _ rfl
  have f4_i := V4_i.2.2; have L4_i := V4_i.lt; have N4_i := Nat.ne_of_gt L4_i; have M4_i := Nat.ne_of_lt L4_i
  have HV4_i := Lib.hid V4_i
  have S4 := G4.size; clear hb
  go_wp2_with fail
  go_ret
  exact ⟨rfl, by (repeat (with_reducible refine M.Below.drewN ?_ _)); go_grown⟩

theorem lifted (os : Os) (started : os.Started) (H : Type) (enc : TypeId × Value → H) :
    ReturnsInHanded {} Try.checked os 11 .any (Rows.calcPanicsSpec.pre6 enc Try.prog Try.f11 Rows.calcPanicsRow.domain false) (Rows.calcPanicsSpec.post enc Try.prog Try.f11 false true false false) := by
  refine returnsInHanded_of_change (C := Try.checked) own started (by kernel_rfl) Try.func11
    (ChangeSpec.witness6 (enc := enc) (C := Try.checked) false ⟨#[], #[.string ⟨#[]⟩, .int .i64 0], []⟩ 8 (by kernel_rfl) (by kernel_rfl) (by kernel_rfl) (by kernel_rfl)) ?_
  intro W base args ds gs before hval0 hW hcnd _
  have hval : ∀ (j : Nat) t v, Try.f11.params[j]? = some t → args[j]? = some v → Value.okWide Try.prog W .any base t v := hval0
  have hW' := hW
  obtain ⟨p, q, hA0, hV, rfl, hfz, hnd⟩ := hW
  have hA : DataW.TrodAll enc Try.prog W 0 (fun _ => true) true Try.f11.params.toList args.toList ds p := hA0
  rw [Try.params11] at hA hval
  obtain ⟨v0, vs0, d0, ds0, p0, q0, hargs, rfl, rfl, h0, r0⟩ := trodAll_cons hA
  obtain ⟨v1, vs1, d1, ds1, p1, q1, rfl, rfl, rfl, h1, r1⟩ := trodAll_cons r0
  obtain ⟨rfl, rfl, rfl⟩ := trodAll_nil r1
  obtain rfl : args = #[v0, v1] := by cases args; simp_all
  obtain ⟨rfl, rfl⟩ := trodVars_none hV
  obtain ⟨t, rfl, rfl, rfl, wt⟩ := Go.ChangeMaps.open_string Try.underlying9 (hval 0 9 v0 rfl rfl) h0
  obtain ⟨n, rfl, rfl, rfl, wn⟩ := open_int Try.underlying3 (hval 1 3 v1 rfl rfl) h1
  clear hA0 hval0
  simp only [List.append_nil] at hW'
  refine (walk W t wt n (i64_wf wn)).mono fun e W' ⟨he, hg⟩ => ?_
  subst he
  exact ⟨_, rfl, post_below (pa := []) (pv := []) hW' (fun _ _ _ => (trodAll_cons_mk (shut_bool Try.underlying4 _) trodAll_mk0)) (fun sp hsp => (trodAll_cons_mk (Go.ChangeMaps.shut_string Try.underlying9 wt) (trodAll_cons_mk (shut_int Try.underlying3 wn) trodAll_mk0))) (fun _ _ => rfl) rfl
    hg (ok_one (by kernel_rfl) rfl (okWide_bool_mk Try.underlying4 _))⟩

theorem closed : joinedFacts Try.prog 11 Try.f11 Rows.calcPanicsSpec Rows.calcPanicsRow = true := by
  unfold joinedFacts
  rw [fact_laid, fact_maps, fact_keys, fact_heard, fact_stops, fact_knobs, fact_enter, fact_lifts, fact_make]
  kernel_rfl

theorem over : Rows.calcPanicsRow.holds Try.pinned (OpenSpec.ofChange Rows.calcPanicsSpec) :=
  OpenClaim.holds_of_wide 11 Try.f11 rfl rfl rfl rfl rfl rfl rfl ⟨rfl, rfl, rfl, rfl, rfl⟩ rfl rfl rfl rfl rfl (by kernel_rfl) Try.func11 closed
    (of_decide_eq_true (by kernel_rfl)) (by unfold Func.isWrapper; first | (rw [if_pos (by decide +kernel)]; kernel_rfl) | (rw [if_neg (by decide +kernel)]; exact ⟨rfl, rfl⟩))
    (fun os started H enc _ => lifted os started H enc)

/-- The statement. -/
theorem proved : Rows.CalcPanicsSaid :=
  over
#print axioms proved
end Go.Proofs.Ytcaibieaobhheaa.calcPanics
