/- calc.Dot and calc.Sum. -/
import Derived.Test.YtcaibieaobhheaaDot
import Derived.Test.YtcaibieaobhheaaVar3
namespace Go.Proofs.Ytcaibieaobhheaa
open Go.RowKit M
set_option maxRecDepth 100000
set_option maxHeartbeats 2000000
set_option linter.unusedVariables false
set_option linter.unusedSimpArgs false

theorem Row.keep {w w' : World} {oa : Option Addr} {xs : List Int} (h : Row w oa xs) (hb : Bw w w') : Row w' oa xs := by
  intro i x hx
  obtain ⟨b, o, e, c, hi⟩ := h i x hx
  exact ⟨b, o, e, (hb.cell (p := ⟨b, o + i, none⟩) (World.block_lt_of_cell? w _ c)).trans c, hi⟩
theorem Row.lt {w : World} {oa : Option Addr} {xs : List Int} (h : Row w oa xs) {i : Nat} {x : Int} {b o : Nat} (hx : xs[i]? = some x) (e : oa = some ⟨b, o, none⟩) : b < w.heap.size := by
  obtain ⟨b', o', e', c, _⟩ := h i x hx
  rw [e] at e'
  injection e' with e'; injection e' with e1 e2
  subst e1
  exact World.block_lt_of_cell? w _ c
theorem Row.i64 {w : World} {oa : Option Addr} {xs : List Int} (h : Row w oa xs) : ∀ x ∈ xs, I64 x := by
  intro x hx
  obtain ⟨i, hi⟩ := List.mem_iff_getElem?.1 hx
  obtain ⟨_, _, _, _, k⟩ := h i x hi
  exact k

theorem dot1_t (ba bs bb : Nat) (xs ys : List Int) (oa ob : Option Addr) (ca cb : Nat) (w0 w : World) (hw : Bw w0 w)
    (h1 : Var w ba #[.slice oa xs.length ca]) (h2 : Var w bb #[.slice ob ys.length cb]) (h3 : Var w bs #[.int .i64 0])
    (ha : Row w0 oa xs) (hb : Row w0 ob ys) (hl : xs.length = ys.length) (hl2 : xs.length < 9223372036854775807)
    (n1 : ba ≠ bs) (n2 : bb ≠ bs) (n3 : w0.heap.size ≤ bs) {s e : Int} (hd : dotR xs ys 0 = (s, e)) :
    Calls Try.prog 126 #[.pointer (some ⟨ba, 0, none⟩), .pointer (some ⟨bs, 0, none⟩), .pointer (some ⟨bb, 0, none⟩)] w fun en w' =>
      en = outU e ∧ Below w.heap.size (sets w (usI bs (.ok s))) w' := by
  refine (dot1_c ba bs bb xs ys oa ob ca cb 0 w (h1.c 0 _ rfl) (h2.c 0 _ rfl) (h3.c 0 _ rfl) (h3.2.2 0) (ha.keep hw) (hb.keep hw) hl hl2 (i64_lit (by decide)) n1 n2
    (fun i x b o hx he => by have := ha.lt hx he; omega) (fun i x b o hx he => by have := hb.lt hx he; omega)).mono ?_
  rintro en w' ⟨rfl, n, rfl⟩
  rw [hd]
  have h := (Dr.bw ⟨n, rfl⟩ : Bw (w.setCell ⟨bs, 0, none⟩ (.int .i64 s)) ((w.setCell ⟨bs, 0, none⟩ (.int .i64 s)).drewN n))
  exact ⟨rfl, h.mono (by rw [setCell_size]; exact Nat.le_refl _)⟩

theorem dot_c (xs ys : List Int) (oa ob : Option Addr) (ca cb : Nat) (w : World) (ha : Row w oa xs) (hb : Row w ob ys) (hlx : xs.length < 9223372036854775807) (hly : ys.length < 9223372036854775807) :
    Calls Try.prog 117 #[.slice oa xs.length ca, .slice ob ys.length cb] w fun en w' =>
      en = .returned (.tuple #[.int .i64 (dotE xs ys).1, .int .i64 (dotE xs ys).2]) ∧ Bw w w' := by
  have HA := Lib.hid ha; have HB := Lib.hid hb; have HL2 := Lib.hid hlx
  clear ha hb
  by_cases hl : xs.length = ys.length
  · have HL := Lib.hid hl
    have l1 : ((xs.length : Int) != (ys.length : Int)) = false := by rw [hl]; simp
    have l2 : ((xs.length : Int) == (ys.length : Int)) = true := by rw [hl]; simp
    rcases hd : dotR xs ys 0 with ⟨s, e⟩
    have HD := Lib.hid hd
    by_cases he : e = 0
    · subst he
      have hE : dotE xs ys = (s, 0) := by unfold dotE; rw [if_pos hl, hd]; exact toldR_ok rfl
      rw [hE]
      clear hE hd hl
      go_enter Try.func117, Try.ntmps117
      go_wp2_with fail
      refine (try_c 126 #[.pointer (some ⟨w.heap.size, 0, none⟩), .pointer (some ⟨w.heap.size + 1 + 1, 0, none⟩), .pointer (some ⟨w.heap.size + 1, 0, none⟩)] _ (0) (usI (w.heap.size + 1 + 1) (.ok s)) (fun _ => rfl) ?_ ?_).mono ?_
      · intro u hu; (try simp only [List.mem_append] at hu); (repeat' (obtain hu | hu := (hu : _ ∨ _))); all_goals (first | rw [M.usBx_block hu] | rw [M.usV_block hu] | rw [M.usI_block hu] | rw [M.usHt_block hu] | rw [M.usBd_block hu] | rw [M.usB_block hu] | rw [M.cell_block1 hu] | (exfalso; simp at hu; done)); all_goals ((try simp [go_sem]) <;> omega)
      · intro w1' hb; exact (dot1_t _ _ _ xs ys oa ob ca cb w w1' (Below.trans (by (repeat (with_reducible refine M.Below.drewN ?_ _)); go_grown) (hb.mono (by go_size))) (M.Var.mono (b := w.heap.size) (cs := #[.slice oa xs.length ca]) (by (repeat (first | (with_reducible assumption) | (with_reducible apply M.var_set45) | (with_reducible refine M.var_alloc' _ _ _ ?_; first | rfl | (simp [go_sem]; done)) | (with_reducible refine M.Var.alloc ?_ _) | (with_reducible refine M.Var.drewN ?_ _) | (with_reducible refine M.Var.drew ?_) | (with_reducible refine M.Var.far ?_ _ _ ?hFar; case hFar => (first | omega | ((try simp [go_sem]) <;> omega))) | fail))) hb) (M.Var.mono (b := w.heap.size + 1) (cs := #[.slice ob ys.length cb]) (by (repeat (first | (with_reducible assumption) | (with_reducible apply M.var_set45) | (with_reducible refine M.var_alloc' _ _ _ ?_; first | rfl | (simp [go_sem]; done)) | (with_reducible refine M.Var.alloc ?_ _) | (with_reducible refine M.Var.drewN ?_ _) | (with_reducible refine M.Var.drew ?_) | (with_reducible refine M.Var.far ?_ _ _ ?hFar; case hFar => (first | omega | ((try simp [go_sem]) <;> omega))) | fail))) hb) (M.Var.mono (b := w.heap.size + 1 + 1) (cs := #[.int .i64 0]) (by (repeat (first | (with_reducible assumption) | (with_reducible apply M.var_set45) | (with_reducible refine M.var_alloc' _ _ _ ?_; first | rfl | (simp [go_sem]; done)) | (with_reducible refine M.Var.alloc ?_ _) | (with_reducible refine M.Var.drewN ?_ _) | (with_reducible refine M.Var.drew ?_) | (with_reducible refine M.Var.far ?_ _ _ ?hFar; case hFar => (first | omega | ((try simp [go_sem]) <;> omega))) | fail))) hb) HA.out HB.out HL.out HL2.out (by omega) (by omega) (by omega) HD.out).mono fun e w' h => h
      rintro en w1 ⟨rfl, hb⟩
      have G1 : Below w.heap.size w w1 := Below.trans (M.below_sets_own (usI (w.heap.size + 1 + 1) (.ok s)) (by (repeat (with_reducible refine M.Below.drewN ?_ _)); go_grown) (by intro u hu; (try simp only [List.mem_append] at hu); (repeat' (obtain hu | hu := (hu : _ ∨ _))); all_goals (first | rw [M.usBx_block hu] | rw [M.usV_block hu] | rw [M.usI_block hu] | rw [M.usHt_block hu] | rw [M.usBd_block hu] | rw [M.usB_block hu] | rw [M.cell_block1 hu] | (exfalso; simp at hu; done)); all_goals ((try simp [go_sem]) <;> omega))) (hb.mono (by go_size))
      have V1_a : M.Var w1 (w.heap.size) #[.slice oa xs.length ca] := M.Var.mono' (u := M.sets _ (usI (w.heap.size + 1 + 1) (.ok s))) (by (try simp only [M.sets_append]); exact (M.var_sets_far (usI (w.heap.size + 1 + 1) (.ok s)) (by (repeat (first | (with_reducible assumption) | (with_reducible apply M.var_set45) | (with_reducible refine M.var_alloc' _ _ _ ?_; first | rfl | (simp [go_sem]; done)) | (with_reducible refine M.Var.alloc ?_ _) | (with_reducible refine M.Var.drewN ?_ _) | (with_reducible refine M.Var.drew ?_) | (with_reducible refine M.Var.far ?_ _ _ ?hFar; case hFar => (first | omega | ((try simp [go_sem]) <;> omega))) | fail)) : M.Var _ (w.heap.size) #[.slice oa xs.length ca]) (by intro u hu; all_goals (first | rw [M.usBx_block hu] | rw [M.usV_block hu] | rw [M.usI_block hu] | rw [M.usHt_block hu] | rw [M.usBd_block hu] | rw [M.usB_block hu] | rw [M.cell_block1 hu] | (exfalso; simp at hu; done)); all_goals ((try simp [go_sem]) <;> omega)))) (M.sets_size _ _) hb
      have V1_b : M.Var w1 (w.heap.size + 1) #[.slice ob ys.length cb] := M.Var.mono' (u := M.sets _ (usI (w.heap.size + 1 + 1) (.ok s))) (by (try simp only [M.sets_append]); exact (M.var_sets_far (usI (w.heap.size + 1 + 1) (.ok s)) (by (repeat (first | (with_reducible assumption) | (with_reducible apply M.var_set45) | (with_reducible refine M.var_alloc' _ _ _ ?_; first | rfl | (simp [go_sem]; done)) | (with_reducible refine M.Var.alloc ?_ _) | (with_reducible refine M.Var.drewN ?_ _) | (with_reducible refine M.Var.drew ?_) | (with_reducible refine M.Var.far ?_ _ _ ?hFar; case hFar => (first | omega | ((try simp [go_sem]) <;> omega))) | fail)) : M.Var _ (w.heap.size + 1) #[.slice ob ys.length cb]) (by intro u hu; all_goals (first | rw [M.usBx_block hu] | rw [M.usV_block hu] | rw [M.usI_block hu] | rw [M.usHt_block hu] | rw [M.usBd_block hu] | rw [M.usB_block hu] | rw [M.cell_block1 hu] | (exfalso; simp at hu; done)); all_goals ((try simp [go_sem]) <;> omega)))) (M.sets_size _ _) hb
      have V1_s : M.Var w1 (w.heap.size + 1 + 1) #[.int .i64 s] := M.Var.mono' (u := M.sets _ (usI (w.heap.size + 1 + 1) (.ok s))) (by (try simp only [M.sets_append]); exact (M.var_setI (by (repeat (first | (with_reducible assumption) | (with_reducible apply M.var_set45) | (with_reducible refine M.var_alloc' _ _ _ ?_; first | rfl | (simp [go_sem]; done)) | (with_reducible refine M.Var.alloc ?_ _) | (with_reducible refine M.Var.drewN ?_ _) | (with_reducible refine M.Var.drew ?_) | (with_reducible refine M.Var.far ?_ _ _ ?hFar; case hFar => (first | omega | ((try simp [go_sem]) <;> omega))) | fail)) : M.Var _ (w.heap.size + 1 + 1) #[.int .i64 0]) _)) (M.sets_size _ _) hb
      have q1_a_0 : w1.cell? ⟨w.heap.size, 0, none⟩ = some (.slice oa xs.length ca) := V1_a.c 0 _ rfl
      have f1_a := V1_a.2.2; have L1_a := V1_a.lt; have N1_a := Nat.ne_of_gt L1_a; have M1_a := Nat.ne_of_lt L1_a
      have HV1_a := Lib.hid V1_a
      have q1_b_0 : w1.cell? ⟨w.heap.size + 1, 0, none⟩ = some (.slice ob ys.length cb) := V1_b.c 0 _ rfl
      have f1_b := V1_b.2.2; have L1_b := V1_b.lt; have N1_b := Nat.ne_of_gt L1_b; have M1_b := Nat.ne_of_lt L1_b
      have HV1_b := Lib.hid V1_b
      have q1_s_0 : w1.cell? ⟨w.heap.size + 1 + 1, 0, none⟩ = some (.int .i64 s) := V1_s.c 0 _ rfl
      have f1_s := V1_s.2.2; have L1_s := V1_s.lt; have N1_s := Nat.ne_of_gt L1_s; have M1_s := Nat.ne_of_lt L1_s
      have HV1_s := Lib.hid V1_s
      have S1 := G1.size; clear hb
      go_wp2_with fail
      go_ret2
      exact ⟨rfl, by (repeat (with_reducible refine M.Below.drewN ?_ _)); go_grown⟩
    · have hE : dotE xs ys = (0, e) := by unfold dotE; rw [if_pos hl, hd]; exact toldR_err he
      rw [hE]
      have z1 := bne_iff_ne.2 he; have z2 := beq_eq_false_iff_ne.2 he
      clear hE hd hl
      go_enter Try.func117, Try.ntmps117
      go_wp2_with fail
      refine (try_c 126 #[.pointer (some ⟨w.heap.size, 0, none⟩), .pointer (some ⟨w.heap.size + 1 + 1, 0, none⟩), .pointer (some ⟨w.heap.size + 1, 0, none⟩)] _ (e) (usI (w.heap.size + 1 + 1) (.ok s)) (fun _ => rfl) ?_ ?_).mono ?_
      · intro u hu; (try simp only [List.mem_append] at hu); (repeat' (obtain hu | hu := (hu : _ ∨ _))); all_goals (first | rw [M.usBx_block hu] | rw [M.usV_block hu] | rw [M.usI_block hu] | rw [M.usHt_block hu] | rw [M.usBd_block hu] | rw [M.usB_block hu] | rw [M.cell_block1 hu] | (exfalso; simp at hu; done)); all_goals ((try simp [go_sem]) <;> omega)
      · intro w1' hb; exact (dot1_t _ _ _ xs ys oa ob ca cb w w1' (Below.trans (by (repeat (with_reducible refine M.Below.drewN ?_ _)); go_grown) (hb.mono (by go_size))) (M.Var.mono (b := w.heap.size) (cs := #[.slice oa xs.length ca]) (by (repeat (first | (with_reducible assumption) | (with_reducible apply M.var_set45) | (with_reducible refine M.var_alloc' _ _ _ ?_; first | rfl | (simp [go_sem]; done)) | (with_reducible refine M.Var.alloc ?_ _) | (with_reducible refine M.Var.drewN ?_ _) | (with_reducible refine M.Var.drew ?_) | (with_reducible refine M.Var.far ?_ _ _ ?hFar; case hFar => (first | omega | ((try simp [go_sem]) <;> omega))) | fail))) hb) (M.Var.mono (b := w.heap.size + 1) (cs := #[.slice ob ys.length cb]) (by (repeat (first | (with_reducible assumption) | (with_reducible apply M.var_set45) | (with_reducible refine M.var_alloc' _ _ _ ?_; first | rfl | (simp [go_sem]; done)) | (with_reducible refine M.Var.alloc ?_ _) | (with_reducible refine M.Var.drewN ?_ _) | (with_reducible refine M.Var.drew ?_) | (with_reducible refine M.Var.far ?_ _ _ ?hFar; case hFar => (first | omega | ((try simp [go_sem]) <;> omega))) | fail))) hb) (M.Var.mono (b := w.heap.size + 1 + 1) (cs := #[.int .i64 0]) (by (repeat (first | (with_reducible assumption) | (with_reducible apply M.var_set45) | (with_reducible refine M.var_alloc' _ _ _ ?_; first | rfl | (simp [go_sem]; done)) | (with_reducible refine M.Var.alloc ?_ _) | (with_reducible refine M.Var.drewN ?_ _) | (with_reducible refine M.Var.drew ?_) | (with_reducible refine M.Var.far ?_ _ _ ?hFar; case hFar => (first | omega | ((try simp [go_sem]) <;> omega))) | fail))) hb) HA.out HB.out HL.out HL2.out (by omega) (by omega) (by omega) HD.out).mono fun e w' h => h
      rintro en w1 ⟨rfl, hb⟩
      have G1 : Below w.heap.size w w1 := Below.trans (M.below_sets_own (usI (w.heap.size + 1 + 1) (.ok s)) (by (repeat (with_reducible refine M.Below.drewN ?_ _)); go_grown) (by intro u hu; (try simp only [List.mem_append] at hu); (repeat' (obtain hu | hu := (hu : _ ∨ _))); all_goals (first | rw [M.usBx_block hu] | rw [M.usV_block hu] | rw [M.usI_block hu] | rw [M.usHt_block hu] | rw [M.usBd_block hu] | rw [M.usB_block hu] | rw [M.cell_block1 hu] | (exfalso; simp at hu; done)); all_goals ((try simp [go_sem]) <;> omega))) (hb.mono (by go_size))
      have V1_a : M.Var w1 (w.heap.size) #[.slice oa xs.length ca] := M.Var.mono' (u := M.sets _ (usI (w.heap.size + 1 + 1) (.ok s))) (by (try simp only [M.sets_append]); exact (M.var_sets_far (usI (w.heap.size + 1 + 1) (.ok s)) (by (repeat (first | (with_reducible assumption) | (with_reducible apply M.var_set45) | (with_reducible refine M.var_alloc' _ _ _ ?_; first | rfl | (simp [go_sem]; done)) | (with_reducible refine M.Var.alloc ?_ _) | (with_reducible refine M.Var.drewN ?_ _) | (with_reducible refine M.Var.drew ?_) | (with_reducible refine M.Var.far ?_ _ _ ?hFar; case hFar => (first | omega | ((try simp [go_sem]) <;> omega))) | fail)) : M.Var _ (w.heap.size) #[.slice oa xs.length ca]) (by intro u hu; all_goals (first | rw [M.usBx_block hu] | rw [M.usV_block hu] | rw [M.usI_block hu] | rw [M.usHt_block hu] | rw [M.usBd_block hu] | rw [M.usB_block hu] | rw [M.cell_block1 hu] | (exfalso; simp at hu; done)); all_goals ((try simp [go_sem]) <;> omega)))) (M.sets_size _ _) hb
      have V1_b : M.Var w1 (w.heap.size + 1) #[.slice ob ys.length cb] := M.Var.mono' (u := M.sets _ (usI (w.heap.size + 1 + 1) (.ok s))) (by (try simp only [M.sets_append]); exact (M.var_sets_far (usI (w.heap.size + 1 + 1) (.ok s)) (by (repeat (first | (with_reducible assumption) | (with_reducible apply M.var_set45) | (with_reducible refine M.var_alloc' _ _ _ ?_; first | rfl | (simp [go_sem]; done)) | (with_reducible refine M.Var.alloc ?_ _) | (with_reducible refine M.Var.drewN ?_ _) | (with_reducible refine M.Var.drew ?_) | (with_reducible refine M.Var.far ?_ _ _ ?hFar; case hFar => (first | omega | ((try simp [go_sem]) <;> omega))) | fail)) : M.Var _ (w.heap.size + 1) #[.slice ob ys.length cb]) (by intro u hu; all_goals (first | rw [M.usBx_block hu] | rw [M.usV_block hu] | rw [M.usI_block hu] | rw [M.usHt_block hu] | rw [M.usBd_block hu] | rw [M.usB_block hu] | rw [M.cell_block1 hu] | (exfalso; simp at hu; done)); all_goals ((try simp [go_sem]) <;> omega)))) (M.sets_size _ _) hb
      have V1_s : M.Var w1 (w.heap.size + 1 + 1) #[.int .i64 s] := M.Var.mono' (u := M.sets _ (usI (w.heap.size + 1 + 1) (.ok s))) (by (try simp only [M.sets_append]); exact (M.var_setI (by (repeat (first | (with_reducible assumption) | (with_reducible apply M.var_set45) | (with_reducible refine M.var_alloc' _ _ _ ?_; first | rfl | (simp [go_sem]; done)) | (with_reducible refine M.Var.alloc ?_ _) | (with_reducible refine M.Var.drewN ?_ _) | (with_reducible refine M.Var.drew ?_) | (with_reducible refine M.Var.far ?_ _ _ ?hFar; case hFar => (first | omega | ((try simp [go_sem]) <;> omega))) | fail)) : M.Var _ (w.heap.size + 1 + 1) #[.int .i64 0]) _)) (M.sets_size _ _) hb
      have q1_a_0 : w1.cell? ⟨w.heap.size, 0, none⟩ = some (.slice oa xs.length ca) := V1_a.c 0 _ rfl
      have f1_a := V1_a.2.2; have L1_a := V1_a.lt; have N1_a := Nat.ne_of_gt L1_a; have M1_a := Nat.ne_of_lt L1_a
      have HV1_a := Lib.hid V1_a
      have q1_b_0 : w1.cell? ⟨w.heap.size + 1, 0, none⟩ = some (.slice ob ys.length cb) := V1_b.c 0 _ rfl
      have f1_b := V1_b.2.2; have L1_b := V1_b.lt; have N1_b := Nat.ne_of_gt L1_b; have M1_b := Nat.ne_of_lt L1_b
      have HV1_b := Lib.hid V1_b
      have q1_s_0 : w1.cell? ⟨w.heap.size + 1 + 1, 0, none⟩ = some (.int .i64 s) := V1_s.c 0 _ rfl
      have f1_s := V1_s.2.2; have L1_s := V1_s.lt; have N1_s := Nat.ne_of_gt L1_s; have M1_s := Nat.ne_of_lt L1_s
      have HV1_s := Lib.hid V1_s
      have S1 := G1.size; clear hb
      go_wp2_with fail
      go_ret2
      exact ⟨rfl, by (repeat (with_reducible refine M.Below.drewN ?_ _)); go_grown⟩
  · have l1 : ((xs.length : Int) != (ys.length : Int)) = true := by rw [bne_iff_ne]; omega
    have l2 : ((xs.length : Int) == (ys.length : Int)) = false := by rw [beq_eq_false_iff_ne]; omega
    have hE : dotE xs ys = (0, 9) := by unfold dotE; rw [if_neg hl]
    rw [hE]
    clear hE hl
    go_enter Try.func117, Try.ntmps117
    go_wp2_with fail
    go_ret2
    exact ⟨rfl, by (repeat (with_reducible refine M.Below.drewN ?_ _)); go_grown⟩
end Go.Proofs.Ytcaibieaobhheaa
