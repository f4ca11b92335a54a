/- What the closures of the laws of chapter 11 do that push, or join, two bodies. -/
import Derived.Test.YtcaibieaobhheaaVar3
import Derived.Test.YtcaibieaobhheaaPush2
namespace Go.Proofs.Ytcaibieaobhheaa
open Go.RowKit M
set_option maxRecDepth 100000
set_option maxHeartbeats 4000000
set_option linter.unusedVariables false
set_option linter.unusedSimpArgs false
theorem cloApA (p_a p_b p_x p_y : Nat) (a : Bd) (ha : a.ok) (b : Bd) (hb : b.ok) (o0 o1 o2 o3 o4 o5 o6 o7 u0 u1 u2 u3 u4 u5 u6 u7 : Value) (P : X (Bd × Bd)) (hP : applyX a b (4294967296, 0) = P)  (w : World)
    (h_a : Var w p_a #[.int .i64 a.shape, .int .i64 a.sx, .int .i64 a.sy, .int .i64 a.mass, .int .i64 a.px, .int .i64 a.py, .int .i64 a.mx, .int .i64 a.my]) (h_b : Var w p_b #[.int .i64 b.shape, .int .i64 b.sx, .int .i64 b.sy, .int .i64 b.mass, .int .i64 b.px, .int .i64 b.py, .int .i64 b.mx, .int .i64 b.my]) (h_x : Var w p_x #[o0, o1, o2, o3, o4, o5, o6, o7]) (h_y : Var w p_y #[u0, u1, u2, u3, u4, u5, u6, u7]) (nd : p_x ≠ p_y) :
    Calls Try.prog 66 #[.pointer (some ⟨p_a, 0, none⟩), .pointer (some ⟨p_b, 0, none⟩), .pointer (some ⟨p_x, 0, none⟩), .pointer (some ⟨p_y, 0, none⟩)] w fun e w' => e = outU (errX P) ∧ Below w.heap.size (sets w (usBd p_x (fstX P) ++ usBd p_y (sndX P))) w' := by
  have c := apply_x a b 4294967296 0 ha hb (i64_lit (by decide)) (i64_lit (by decide))
  have q_a_0 := h_a.c 0 _ rfl
  have q_a_1 := h_a.c 1 _ rfl
  have q_a_2 := h_a.c 2 _ rfl
  have q_a_3 := h_a.c 3 _ rfl
  have q_a_4 := h_a.c 4 _ rfl
  have q_a_5 := h_a.c 5 _ rfl
  have q_a_6 := h_a.c 6 _ rfl
  have q_a_7 := h_a.c 7 _ rfl
  have q_b_0 := h_b.c 0 _ rfl
  have q_b_1 := h_b.c 1 _ rfl
  have q_b_2 := h_b.c 2 _ rfl
  have q_b_3 := h_b.c 3 _ rfl
  have q_b_4 := h_b.c 4 _ rfl
  have q_b_5 := h_b.c 5 _ rfl
  have q_b_6 := h_b.c 6 _ rfl
  have q_b_7 := h_b.c 7 _ rfl
  cases P with
  | error n =>
    have C := Lib.hid (fun w => (c w).mono fun e w' h => (⟨M.err_BB hP h.1, h.2⟩ : (n ≠ 0 ∧ e = panics n) ∧ Bw w w'))
    clear c hP
    go_enter Try.func66, Try.ntmps66
    go_wp2_with fail
    (with_reducible refine (C.out _).mono ?_); rintro en w1 ⟨⟨hz, rfl⟩, hb⟩
    exact ⟨rfl, (outU_n hz).symm, hb⟩
  | ok xy =>
    obtain ⟨x, y⟩ := xy
    have C := Lib.hid (fun w => (c w).mono fun e w' h => (⟨M.ret_BB hP h.1, h.2⟩ : e = .returned (.tuple #[.agg #[.int .i64 x.shape, .int .i64 x.sx, .int .i64 x.sy, .int .i64 x.mass, .int .i64 x.px, .int .i64 x.py, .int .i64 x.mx, .int .i64 x.my], .agg #[.int .i64 y.shape, .int .i64 y.sx, .int .i64 y.sy, .int .i64 y.mass, .int .i64 y.px, .int .i64 y.py, .int .i64 y.mx, .int .i64 y.my]]) ∧ Bw w w'))
    have HR1 := Lib.hid h_x
    have HR2 := Lib.hid h_y
    have nd' := Ne.symm nd
    clear c hP h_x h_y
    go_enter Try.func66, Try.ntmps66
    go_wp2_with fail
    (with_reducible refine (C.out _).mono ?_); rintro en w1 ⟨rfl, hb⟩
    have HB := Lib.hid (M.below_sets (usBd p_x (fstX (.ok (x, y) : X (Bd × Bd))) ++ usBd p_y (sndX (.ok (x, y) : X (Bd × Bd)))) hb (fun u hu => by rcases List.mem_append.1 hu with hu | hu; exact (by rw [usBd_block hu]; exact HR1.out.lt); exact (by rw [usBd_block hu]; exact HR2.out.lt)))
    have V1 := HR1.out.mono hb
    have V2 := HR2.out.mono hb
    have r0 := V1.c 0 _ rfl
    have r1 := V1.c 1 _ rfl
    have r2 := V1.c 2 _ rfl
    have r3 := V1.c 3 _ rfl
    have r4 := V1.c 4 _ rfl
    have r5 := V1.c 5 _ rfl
    have r6 := V1.c 6 _ rfl
    have r7 := V1.c 7 _ rfl
    have t0 := V2.c 0 _ rfl
    have t1 := V2.c 1 _ rfl
    have t2 := V2.c 2 _ rfl
    have t3 := V2.c 3 _ rfl
    have t4 := V2.c 4 _ rfl
    have t5 := V2.c 5 _ rfl
    have t6 := V2.c 6 _ rfl
    have t7 := V2.c 7 _ rfl
    have hf1 := V1.2.2
    have hf2 := V2.2.2
    clear V1 V2 hb
    go_wp2_with fail
    exact bodyPost_end (v := .tuple #[]) (by first | rfl | kernel_rfl | simp [results, go_sem]) rfl ⟨rfl, HB.out⟩
end Go.Proofs.Ytcaibieaobhheaa
