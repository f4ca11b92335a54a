/- What the closures of the laws of chapter 6 do. -/
import Derived.Test.YtaagpkacningdaaVar2
import Derived.Test.YtaagpkacningdaaVec
namespace Go.Proofs.Ytaagpkacningdaa
open Go.RowKit M
set_option maxRecDepth 100000
set_option maxHeartbeats 4000000
set_option linter.unusedVariables false
set_option linter.unusedSimpArgs false
theorem cloDot1 (p_a p_b p_o : Nat) (a1 a2 : Int) (ha1 : I64 a1) (ha2 : I64 a2) (b1 b2 : Int) (hb1 : I64 b1) (hb2 : I64 b2) (o0 : Value) (P : X Int) (hP : dotX (a1, a2) (b1, b2) = P)  (w : World)
    (h_a : Var w p_a #[.int .i64 a1, .int .i64 a2]) (h_b : Var w p_b #[.int .i64 b1, .int .i64 b2]) (h_o : Var w p_o #[o0]) :
    Calls Try.prog 96 #[.pointer (some ⟨p_a, 0, none⟩), .pointer (some ⟨p_b, 0, none⟩), .pointer (some ⟨p_o, 0, none⟩)] w fun e w' => e = outU (errX P) ∧ Below w.heap.size (sets w (usI p_o P)) w' := by
  have c := vecDot_x a1 a2 b1 b2 ha1 ha2 hb1 hb2
  have q_a_0 := h_a.c 0 _ rfl
  have q_a_1 := h_a.c 1 _ rfl
  have q_b_0 := h_b.c 0 _ rfl
  have q_b_1 := h_b.c 1 _ rfl
  cases P with
  | error n =>
    have C := Lib.hid (fun w => (c w).mono fun e w' h => (⟨M.err_I hP h.1, h.2⟩ : (n ≠ 0 ∧ e = panics n) ∧ Bw w w'))
    clear c hP
    go_enter Try.func96, Try.ntmps96
    go_wp2_with fail
    (with_reducible refine (C.out _).mono ?_); rintro en w1 ⟨⟨hz, rfl⟩, hb⟩
    exact ⟨rfl, (outU_n hz).symm, hb⟩
  | ok x =>
    have C := Lib.hid (fun w => (c w).mono fun e w' h => (⟨M.ret_I hP h.1, h.2⟩ : e = .returned (.int .i64 x) ∧ Bw w w'))
    have HR := Lib.hid h_o
    clear c hP h_o
    go_enter Try.func96, Try.ntmps96
    go_wp2_with fail
    (with_reducible refine (C.out _).mono ?_); rintro en w1 ⟨rfl, hb⟩
    have HB := Lib.hid (M.below_sets (usI p_o (.ok x)) hb (fun u hu => by rw [usI_block hu]; exact HR.out.lt))
    have V := HR.out.mono hb
    have r0 := V.c 0 _ rfl
    have hf := V.2.2
    clear V hb
    go_wp2_with fail
    exact bodyPost_end (v := .tuple #[]) (by first | rfl | kernel_rfl | simp [results, go_sem]) rfl ⟨rfl, HB.out⟩
theorem cloDot2 (p_b p_a p_o : Nat) (b1 b2 : Int) (hb1 : I64 b1) (hb2 : I64 b2) (a1 a2 : Int) (ha1 : I64 a1) (ha2 : I64 a2) (o0 : Value) (P : X Int) (hP : dotX (b1, b2) (a1, a2) = P)  (w : World)
    (h_b : Var w p_b #[.int .i64 b1, .int .i64 b2]) (h_a : Var w p_a #[.int .i64 a1, .int .i64 a2]) (h_o : Var w p_o #[o0]) :
    Calls Try.prog 98 #[.pointer (some ⟨p_b, 0, none⟩), .pointer (some ⟨p_a, 0, none⟩), .pointer (some ⟨p_o, 0, none⟩)] w fun e w' => e = outU (errX P) ∧ Below w.heap.size (sets w (usI p_o P)) w' := by
  have c := vecDot_x b1 b2 a1 a2 hb1 hb2 ha1 ha2
  have q_b_0 := h_b.c 0 _ rfl
  have q_b_1 := h_b.c 1 _ rfl
  have q_a_0 := h_a.c 0 _ rfl
  have q_a_1 := h_a.c 1 _ rfl
  cases P with
  | error n =>
    have C := Lib.hid (fun w => (c w).mono fun e w' h => (⟨M.err_I hP h.1, h.2⟩ : (n ≠ 0 ∧ e = panics n) ∧ Bw w w'))
    clear c hP
    go_enter Try.func98, Try.ntmps98
    go_wp2_with fail
    (with_reducible refine (C.out _).mono ?_); rintro en w1 ⟨⟨hz, rfl⟩, hb⟩
    exact ⟨rfl, (outU_n hz).symm, hb⟩
  | ok x =>
    have C := Lib.hid (fun w => (c w).mono fun e w' h => (⟨M.ret_I hP h.1, h.2⟩ : e = .returned (.int .i64 x) ∧ Bw w w'))
    have HR := Lib.hid h_o
    clear c hP h_o
    go_enter Try.func98, Try.ntmps98
    go_wp2_with fail
    (with_reducible refine (C.out _).mono ?_); rintro en w1 ⟨rfl, hb⟩
    have HB := Lib.hid (M.below_sets (usI p_o (.ok x)) hb (fun u hu => by rw [usI_block hu]; exact HR.out.lt))
    have V := HR.out.mono hb
    have r0 := V.c 0 _ rfl
    have hf := V.2.2
    clear V hb
    go_wp2_with fail
    exact bodyPost_end (v := .tuple #[]) (by first | rfl | kernel_rfl | simp [results, go_sem]) rfl ⟨rfl, HB.out⟩
theorem cloDot3 (p_a p_o : Nat) (a1 a2 : Int) (ha1 : I64 a1) (ha2 : I64 a2) (o0 : Value) (P : X Int) (hP : dotX (a1, a2) (a1, a2) = P)  (w : World)
    (h_a : Var w p_a #[.int .i64 a1, .int .i64 a2]) (h_o : Var w p_o #[o0]) :
    Calls Try.prog 99 #[.pointer (some ⟨p_a, 0, none⟩), .pointer (some ⟨p_o, 0, none⟩)] w fun e w' => e = outU (errX P) ∧ Below w.heap.size (sets w (usI p_o P)) w' := by
  have c := vecDot_x a1 a2 a1 a2 ha1 ha2 ha1 ha2
  have q_a_0 := h_a.c 0 _ rfl
  have q_a_1 := h_a.c 1 _ rfl
  cases P with
  | error n =>
    have C := Lib.hid (fun w => (c w).mono fun e w' h => (⟨M.err_I hP h.1, h.2⟩ : (n ≠ 0 ∧ e = panics n) ∧ Bw w w'))
    clear c hP
    go_enter Try.func99, Try.ntmps99
    go_wp2_with fail
    (with_reducible refine (C.out _).mono ?_); rintro en w1 ⟨⟨hz, rfl⟩, hb⟩
    exact ⟨rfl, (outU_n hz).symm, hb⟩
  | ok x =>
    have C := Lib.hid (fun w => (c w).mono fun e w' h => (⟨M.ret_I hP h.1, h.2⟩ : e = .returned (.int .i64 x) ∧ Bw w w'))
    have HR := Lib.hid h_o
    clear c hP h_o
    go_enter Try.func99, Try.ntmps99
    go_wp2_with fail
    (with_reducible refine (C.out _).mono ?_); rintro en w1 ⟨rfl, hb⟩
    have HB := Lib.hid (M.below_sets (usI p_o (.ok x)) hb (fun u hu => by rw [usI_block hu]; exact HR.out.lt))
    have V := HR.out.mono hb
    have r0 := V.c 0 _ rfl
    have hf := V.2.2
    clear V hb
    go_wp2_with fail
    exact bodyPost_end (v := .tuple #[]) (by first | rfl | kernel_rfl | simp [results, go_sem]) rfl ⟨rfl, HB.out⟩
theorem cloLen1 (p_a p_o : Nat) (a1 a2 : Int) (ha1 : I64 a1) (ha2 : I64 a2) (o0 : Value) (P : X Int) (hP : lenX a1 a2 = P)  (w : World)
    (h_a : Var w p_a #[.int .i64 a1, .int .i64 a2]) (h_o : Var w p_o #[o0]) :
    Calls Try.prog 92 #[.pointer (some ⟨p_a, 0, none⟩), .pointer (some ⟨p_o, 0, none⟩)] w fun e w' => e = outU (errX P) ∧ Below w.heap.size (sets w (usI p_o P)) w' := by
  have c := vecLen_x a1 a2 ha1 ha2
  have q_a_0 := h_a.c 0 _ rfl
  have q_a_1 := h_a.c 1 _ rfl
  cases P with
  | error n =>
    have C := Lib.hid (fun w => (c w).mono fun e w' h => (⟨M.err_I hP h.1, h.2⟩ : (n ≠ 0 ∧ e = panics n) ∧ Bw w w'))
    clear c hP
    go_enter Try.func92, Try.ntmps92
    go_wp2_with fail
    (with_reducible refine (C.out _).mono ?_); rintro en w1 ⟨⟨hz, rfl⟩, hb⟩
    exact ⟨rfl, (outU_n hz).symm, hb⟩
  | ok x =>
    have C := Lib.hid (fun w => (c w).mono fun e w' h => (⟨M.ret_I hP h.1, h.2⟩ : e = .returned (.int .i64 x) ∧ Bw w w'))
    have HR := Lib.hid h_o
    clear c hP h_o
    go_enter Try.func92, Try.ntmps92
    go_wp2_with fail
    (with_reducible refine (C.out _).mono ?_); rintro en w1 ⟨rfl, hb⟩
    have HB := Lib.hid (M.below_sets (usI p_o (.ok x)) hb (fun u hu => by rw [usI_block hu]; exact HR.out.lt))
    have V := HR.out.mono hb
    have r0 := V.c 0 _ rfl
    have hf := V.2.2
    clear V hb
    go_wp2_with fail
    exact bodyPost_end (v := .tuple #[]) (by first | rfl | kernel_rfl | simp [results, go_sem]) rfl ⟨rfl, HB.out⟩
theorem cloLen2 (p_a p_o : Nat) (a1 a2 : Int) (ha1 : I64 a1) (ha2 : I64 a2) (o0 : Value) (P : X Int) (hP : lenX (-a2) a1 = P) (hn : -9223372036854775807 ≤ a2) (w : World)
    (h_a : Var w p_a #[.int .i64 a1, .int .i64 a2]) (h_o : Var w p_o #[o0]) :
    Calls Try.prog 93 #[.pointer (some ⟨p_a, 0, none⟩), .pointer (some ⟨p_o, 0, none⟩)] w fun e w' => e = outU (errX P) ∧ Below w.heap.size (sets w (usI p_o P)) w' := by
  have c := vecLen_x (-a2) a1 (by unfold I64 at *; omega) ha1
  have hn2 : a2 ≤ 9223372036854775807 := by unfold I64 at *; omega
  have q_a_0 := h_a.c 0 _ rfl
  have q_a_1 := h_a.c 1 _ rfl
  cases P with
  | error n =>
    have C := Lib.hid (fun w => (c w).mono fun e w' h => (⟨M.err_I hP h.1, h.2⟩ : (n ≠ 0 ∧ e = panics n) ∧ Bw w w'))
    clear c hP
    go_enter Try.func93, Try.ntmps93
    go_wp2_with fail
    (with_reducible refine (C.out _).mono ?_); rintro en w1 ⟨⟨hz, rfl⟩, hb⟩
    exact ⟨rfl, (outU_n hz).symm, hb⟩
  | ok x =>
    have C := Lib.hid (fun w => (c w).mono fun e w' h => (⟨M.ret_I hP h.1, h.2⟩ : e = .returned (.int .i64 x) ∧ Bw w w'))
    have HR := Lib.hid h_o
    clear c hP h_o
    go_enter Try.func93, Try.ntmps93
    go_wp2_with fail
    (with_reducible refine (C.out _).mono ?_); rintro en w1 ⟨rfl, hb⟩
    have HB := Lib.hid (M.below_sets (usI p_o (.ok x)) hb (fun u hu => by rw [usI_block hu]; exact HR.out.lt))
    have V := HR.out.mono hb
    have r0 := V.c 0 _ rfl
    have hf := V.2.2
    clear V hb
    go_wp2_with fail
    exact bodyPost_end (v := .tuple #[]) (by first | rfl | kernel_rfl | simp [results, go_sem]) rfl ⟨rfl, HB.out⟩
end Go.Proofs.Ytaagpkacningdaa
