/- What the closures of the laws of chapter 8 do. -/
import Derived.Test.YtaagpkacningdaaVar2
import Derived.Test.YtaagpkacningdaaBounds
namespace Go.Proofs.Ytaagpkacningdaa
open Go.RowKit M
set_option maxRecDepth 100000
set_option maxHeartbeats 4000000
set_option linter.unusedVariables false
set_option linter.unusedSimpArgs false
theorem cloOf (p_b p_o : Nat) (b : Bd) (hb : b.ok) (o0 o1 o2 o3 : Value) (P : X Bx) (hP : boxX b = P)  (w : World)
    (h_b : Var w p_b #[.int .i64 b.shape, .int .i64 b.sx, .int .i64 b.sy, .int .i64 b.mass, .int .i64 b.px, .int .i64 b.py, .int .i64 b.mx, .int .i64 b.my]) (h_o : Var w p_o #[o0, o1, o2, o3]) :
    Calls Try.prog 47 #[.pointer (some ⟨p_b, 0, none⟩), .pointer (some ⟨p_o, 0, none⟩)] w fun e w' => e = outU (errX P) ∧ Below w.heap.size (sets w (usBx p_o P)) w' := by
  have c := boundsOf_x b hb
  have q_b_0 := h_b.c 0 _ rfl
  have q_b_1 := h_b.c 1 _ rfl
  have q_b_2 := h_b.c 2 _ rfl
  have q_b_3 := h_b.c 3 _ rfl
  have q_b_4 := h_b.c 4 _ rfl
  have q_b_5 := h_b.c 5 _ rfl
  have q_b_6 := h_b.c 6 _ rfl
  have q_b_7 := h_b.c 7 _ rfl
  cases P with
  | error n =>
    have C := Lib.hid (fun w => (c w).mono fun e w' h => (⟨M.err_Bx hP h.1, h.2⟩ : (n ≠ 0 ∧ e = panics n) ∧ Bw w w'))
    clear c hP
    go_enter Try.func47, Try.ntmps47
    go_wp2_with fail
    (with_reducible refine (C.out _).mono ?_); rintro en w1 ⟨⟨hz, rfl⟩, hb⟩
    exact ⟨rfl, (outU_n hz).symm, hb⟩
  | ok x =>
    have C := Lib.hid (fun w => (c w).mono fun e w' h => (⟨M.ret_Bx hP h.1, h.2⟩ : e = .returned (.agg #[.int .i64 x.lx, .int .i64 x.ly, .int .i64 x.hx, .int .i64 x.hy]) ∧ Bw w w'))
    have HR := Lib.hid h_o
    clear c hP h_o
    go_enter Try.func47, Try.ntmps47
    go_wp2_with fail
    (with_reducible refine (C.out _).mono ?_); rintro en w1 ⟨rfl, hb⟩
    have HB := Lib.hid (M.below_sets (usBx p_o (.ok x)) hb (fun u hu => by rw [usBx_block hu]; exact HR.out.lt))
    have V := HR.out.mono hb
    have r0 := V.c 0 _ rfl
    have r1 := V.c 1 _ rfl
    have r2 := V.c 2 _ rfl
    have r3 := V.c 3 _ rfl
    have hf := V.2.2
    clear V hb
    go_wp2_with fail
    exact bodyPost_end (v := .tuple #[]) (by first | rfl | kernel_rfl | simp [results, go_sem]) rfl ⟨rfl, HB.out⟩
theorem cloTells8 (p_b p_o : Nat) (b : Bd) (hb : b.ok) (o0 o1 o2 o3 : Value) (P : X Bx) (hP : boxX b = P)  (w : World)
    (h_b : Var w p_b #[.int .i64 b.shape, .int .i64 b.sx, .int .i64 b.sy, .int .i64 b.mass, .int .i64 b.px, .int .i64 b.py, .int .i64 b.mx, .int .i64 b.my]) (h_o : Var w p_o #[o0, o1, o2, o3]) :
    Calls Try.prog 51 #[.pointer (some ⟨p_b, 0, none⟩), .pointer (some ⟨p_o, 0, none⟩)] w fun e w' => e = outU (errX P) ∧ Below w.heap.size (sets w (usBx p_o P)) w' := by
  have c := boundsOf_x b hb
  have q_b_0 := h_b.c 0 _ rfl
  have q_b_1 := h_b.c 1 _ rfl
  have q_b_2 := h_b.c 2 _ rfl
  have q_b_3 := h_b.c 3 _ rfl
  have q_b_4 := h_b.c 4 _ rfl
  have q_b_5 := h_b.c 5 _ rfl
  have q_b_6 := h_b.c 6 _ rfl
  have q_b_7 := h_b.c 7 _ rfl
  cases P with
  | error n =>
    have C := Lib.hid (fun w => (c w).mono fun e w' h => (⟨M.err_Bx hP h.1, h.2⟩ : (n ≠ 0 ∧ e = panics n) ∧ Bw w w'))
    clear c hP
    go_enter Try.func51, Try.ntmps51
    go_wp2_with fail
    (with_reducible refine (C.out _).mono ?_); rintro en w1 ⟨⟨hz, rfl⟩, hb⟩
    exact ⟨rfl, (outU_n hz).symm, hb⟩
  | ok x =>
    have C := Lib.hid (fun w => (c w).mono fun e w' h => (⟨M.ret_Bx hP h.1, h.2⟩ : e = .returned (.agg #[.int .i64 x.lx, .int .i64 x.ly, .int .i64 x.hx, .int .i64 x.hy]) ∧ Bw w w'))
    have HR := Lib.hid h_o
    clear c hP h_o
    go_enter Try.func51, Try.ntmps51
    go_wp2_with fail
    (with_reducible refine (C.out _).mono ?_); rintro en w1 ⟨rfl, hb⟩
    have HB := Lib.hid (M.below_sets (usBx p_o (.ok x)) hb (fun u hu => by rw [usBx_block hu]; exact HR.out.lt))
    have V := HR.out.mono hb
    have r0 := V.c 0 _ rfl
    have r1 := V.c 1 _ rfl
    have r2 := V.c 2 _ rfl
    have r3 := V.c 3 _ rfl
    have hf := V.2.2
    clear V hb
    go_wp2_with fail
    exact bodyPost_end (v := .tuple #[]) (by first | rfl | kernel_rfl | simp [results, go_sem]) rfl ⟨rfl, HB.out⟩
end Go.Proofs.Ytaagpkacningdaa
