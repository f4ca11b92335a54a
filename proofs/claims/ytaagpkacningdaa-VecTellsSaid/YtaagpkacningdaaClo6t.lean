/- What the closure of VecTells does, operation by operation. -/
import Derived.Test.YtaagpkacningdaaVar3
import Derived.Test.YtaagpkacningdaaVec
namespace Go.Proofs.Ytaagpkacningdaa
open Go.RowKit M
set_option maxRecDepth 100000
set_option maxHeartbeats 4000000
set_option linter.unusedVariables false
set_option linter.unusedSimpArgs false
theorem cloVT0 (p_op p_a p_b p_k p_y p_n p_v : Nat)  (a1 a2 : Int) (ha1 : I64 a1) (ha2 : I64 a2) (b1 b2 : Int) (hb1 : I64 b1) (hb2 : I64 b2) (o0 o1 : Value) (P : X V) (hP : addV (a1, a2) (b1, b2) = P)  (w : World)
    (h_op : Var w p_op #[.int .i64 0]) (h_a : Var w p_a #[.int .i64 a1, .int .i64 a2]) (h_b : Var w p_b #[.int .i64 b1, .int .i64 b2]) (h_v : Var w p_v #[o0, o1]) :
    Calls Try.prog 110 #[.pointer (some ⟨p_op, 0, none⟩), .pointer (some ⟨p_a, 0, none⟩), .pointer (some ⟨p_b, 0, none⟩), .pointer (some ⟨p_v, 0, none⟩), .pointer (some ⟨p_k, 0, none⟩), .pointer (some ⟨p_y, 0, none⟩), .pointer (some ⟨p_n, 0, none⟩)] w fun e w' => e = outU (errX P) ∧ Below w.heap.size (sets w (usV p_v P)) w' := by
  have c := vecAdd_x a1 a2 b1 b2 ha1 ha2 hb1 hb2
  have q_op_0 := h_op.c 0 _ rfl
  have q_a_0 := h_a.c 0 _ rfl
  have q_a_1 := h_a.c 1 _ rfl
  have q_b_0 := h_b.c 0 _ rfl
  have q_b_1 := h_b.c 1 _ rfl
  cases P with
  | error n =>
    have C := Lib.hid (fun w => (c w).mono fun e w' h => (⟨M.err_V hP h.1, h.2⟩ : (n ≠ 0 ∧ e = panics n) ∧ Bw w w'))
    clear c hP
    go_enter Try.func110, Try.ntmps110
    go_wp2_with fail
    (with_reducible refine (C.out _).mono ?_); rintro en w1 ⟨⟨hz, rfl⟩, hb⟩
    exact ⟨rfl, (outU_n hz).symm, hb⟩
  | ok xy =>
    obtain ⟨x, y⟩ := xy
    have C := Lib.hid (fun w => (c w).mono fun e w' h => (⟨M.ret_V hP h.1, h.2⟩ : e = .returned (.agg #[.int .i64 x, .int .i64 y]) ∧ Bw w w'))
    have HR := Lib.hid h_v
    clear c hP h_v
    go_enter Try.func110, Try.ntmps110
    go_wp2_with fail
    (with_reducible refine (C.out _).mono ?_); rintro en w1 ⟨rfl, hb⟩
    have HB := Lib.hid (M.below_sets (usV p_v (.ok (x, y))) hb (fun u hu => by rw [usV_block hu]; exact HR.out.lt))
    have V := HR.out.mono hb
    have r0 := V.c 0 _ rfl
    have r1 := V.c 1 _ rfl
    have hf := V.2.2
    clear V hb
    go_wp2_with fail
    exact bodyPost_end (v := .tuple #[]) (by first | rfl | kernel_rfl | simp [results, go_sem]) rfl ⟨rfl, HB.out⟩
theorem cloVT1 (p_op p_a p_b p_k p_y p_n p_v : Nat)  (a1 a2 : Int) (ha1 : I64 a1) (ha2 : I64 a2) (b1 b2 : Int) (hb1 : I64 b1) (hb2 : I64 b2) (o0 o1 : Value) (P : X V) (hP : subV (a1, a2) (b1, b2) = P)  (w : World)
    (h_op : Var w p_op #[.int .i64 1]) (h_a : Var w p_a #[.int .i64 a1, .int .i64 a2]) (h_b : Var w p_b #[.int .i64 b1, .int .i64 b2]) (h_v : Var w p_v #[o0, o1]) :
    Calls Try.prog 110 #[.pointer (some ⟨p_op, 0, none⟩), .pointer (some ⟨p_a, 0, none⟩), .pointer (some ⟨p_b, 0, none⟩), .pointer (some ⟨p_v, 0, none⟩), .pointer (some ⟨p_k, 0, none⟩), .pointer (some ⟨p_y, 0, none⟩), .pointer (some ⟨p_n, 0, none⟩)] w fun e w' => e = outU (errX P) ∧ Below w.heap.size (sets w (usV p_v P)) w' := by
  have c := vecSub_x a1 a2 b1 b2 ha1 ha2 hb1 hb2
  have q_op_0 := h_op.c 0 _ rfl
  have q_a_0 := h_a.c 0 _ rfl
  have q_a_1 := h_a.c 1 _ rfl
  have q_b_0 := h_b.c 0 _ rfl
  have q_b_1 := h_b.c 1 _ rfl
  cases P with
  | error n =>
    have C := Lib.hid (fun w => (c w).mono fun e w' h => (⟨M.err_V hP h.1, h.2⟩ : (n ≠ 0 ∧ e = panics n) ∧ Bw w w'))
    clear c hP
    go_enter Try.func110, Try.ntmps110
    go_wp2_with fail
    (with_reducible refine (C.out _).mono ?_); rintro en w1 ⟨⟨hz, rfl⟩, hb⟩
    exact ⟨rfl, (outU_n hz).symm, hb⟩
  | ok xy =>
    obtain ⟨x, y⟩ := xy
    have C := Lib.hid (fun w => (c w).mono fun e w' h => (⟨M.ret_V hP h.1, h.2⟩ : e = .returned (.agg #[.int .i64 x, .int .i64 y]) ∧ Bw w w'))
    have HR := Lib.hid h_v
    clear c hP h_v
    go_enter Try.func110, Try.ntmps110
    go_wp2_with fail
    (with_reducible refine (C.out _).mono ?_); rintro en w1 ⟨rfl, hb⟩
    have HB := Lib.hid (M.below_sets (usV p_v (.ok (x, y))) hb (fun u hu => by rw [usV_block hu]; exact HR.out.lt))
    have V := HR.out.mono hb
    have r0 := V.c 0 _ rfl
    have r1 := V.c 1 _ rfl
    have hf := V.2.2
    clear V hb
    go_wp2_with fail
    exact bodyPost_end (v := .tuple #[]) (by first | rfl | kernel_rfl | simp [results, go_sem]) rfl ⟨rfl, HB.out⟩
theorem cloVT2 (p_op p_a p_k p_b p_y p_n p_v : Nat)  (a1 a2 : Int) (ha1 : I64 a1) (ha2 : I64 a2) (k : Int) (hk : I64 k) (o0 o1 : Value) (P : X V) (hP : scaleV (a1, a2) k = P)  (w : World)
    (h_op : Var w p_op #[.int .i64 2]) (h_a : Var w p_a #[.int .i64 a1, .int .i64 a2]) (h_k : Var w p_k #[.int .i64 k]) (h_v : Var w p_v #[o0, o1]) :
    Calls Try.prog 110 #[.pointer (some ⟨p_op, 0, none⟩), .pointer (some ⟨p_a, 0, none⟩), .pointer (some ⟨p_b, 0, none⟩), .pointer (some ⟨p_v, 0, none⟩), .pointer (some ⟨p_k, 0, none⟩), .pointer (some ⟨p_y, 0, none⟩), .pointer (some ⟨p_n, 0, none⟩)] w fun e w' => e = outU (errX P) ∧ Below w.heap.size (sets w (usV p_v P)) w' := by
  have c := vecScale_x a1 a2 k ha1 ha2 hk
  have q_op_0 := h_op.c 0 _ rfl
  have q_a_0 := h_a.c 0 _ rfl
  have q_a_1 := h_a.c 1 _ rfl
  have q_k_0 := h_k.c 0 _ rfl
  cases P with
  | error n =>
    have C := Lib.hid (fun w => (c w).mono fun e w' h => (⟨M.err_V hP h.1, h.2⟩ : (n ≠ 0 ∧ e = panics n) ∧ Bw w w'))
    clear c hP
    go_enter Try.func110, Try.ntmps110
    go_wp2_with fail
    (with_reducible refine (C.out _).mono ?_); rintro en w1 ⟨⟨hz, rfl⟩, hb⟩
    exact ⟨rfl, (outU_n hz).symm, hb⟩
  | ok xy =>
    obtain ⟨x, y⟩ := xy
    have C := Lib.hid (fun w => (c w).mono fun e w' h => (⟨M.ret_V hP h.1, h.2⟩ : e = .returned (.agg #[.int .i64 x, .int .i64 y]) ∧ Bw w w'))
    have HR := Lib.hid h_v
    clear c hP h_v
    go_enter Try.func110, Try.ntmps110
    go_wp2_with fail
    (with_reducible refine (C.out _).mono ?_); rintro en w1 ⟨rfl, hb⟩
    have HB := Lib.hid (M.below_sets (usV p_v (.ok (x, y))) hb (fun u hu => by rw [usV_block hu]; exact HR.out.lt))
    have V := HR.out.mono hb
    have r0 := V.c 0 _ rfl
    have r1 := V.c 1 _ rfl
    have hf := V.2.2
    clear V hb
    go_wp2_with fail
    exact bodyPost_end (v := .tuple #[]) (by first | rfl | kernel_rfl | simp [results, go_sem]) rfl ⟨rfl, HB.out⟩
theorem cloVT3 (p_op p_a p_k p_b p_y p_n p_v : Nat)  (a1 a2 : Int) (ha1 : I64 a1) (ha2 : I64 a2) (k : Int) (hk : I64 k) (o0 o1 : Value) (P : X V) (hP : overV (a1, a2) k = P)  (w : World)
    (h_op : Var w p_op #[.int .i64 3]) (h_a : Var w p_a #[.int .i64 a1, .int .i64 a2]) (h_k : Var w p_k #[.int .i64 k]) (h_v : Var w p_v #[o0, o1]) :
    Calls Try.prog 110 #[.pointer (some ⟨p_op, 0, none⟩), .pointer (some ⟨p_a, 0, none⟩), .pointer (some ⟨p_b, 0, none⟩), .pointer (some ⟨p_v, 0, none⟩), .pointer (some ⟨p_k, 0, none⟩), .pointer (some ⟨p_y, 0, none⟩), .pointer (some ⟨p_n, 0, none⟩)] w fun e w' => e = outU (errX P) ∧ Below w.heap.size (sets w (usV p_v P)) w' := by
  have c := vecOver_x a1 a2 k ha1 ha2 hk
  have q_op_0 := h_op.c 0 _ rfl
  have q_a_0 := h_a.c 0 _ rfl
  have q_a_1 := h_a.c 1 _ rfl
  have q_k_0 := h_k.c 0 _ rfl
  cases P with
  | error n =>
    have C := Lib.hid (fun w => (c w).mono fun e w' h => (⟨M.err_V hP h.1, h.2⟩ : (n ≠ 0 ∧ e = panics n) ∧ Bw w w'))
    clear c hP
    go_enter Try.func110, Try.ntmps110
    go_wp2_with fail
    (with_reducible refine (C.out _).mono ?_); rintro en w1 ⟨⟨hz, rfl⟩, hb⟩
    exact ⟨rfl, (outU_n hz).symm, hb⟩
  | ok xy =>
    obtain ⟨x, y⟩ := xy
    have C := Lib.hid (fun w => (c w).mono fun e w' h => (⟨M.ret_V hP h.1, h.2⟩ : e = .returned (.agg #[.int .i64 x, .int .i64 y]) ∧ Bw w w'))
    have HR := Lib.hid h_v
    clear c hP h_v
    go_enter Try.func110, Try.ntmps110
    go_wp2_with fail
    (with_reducible refine (C.out _).mono ?_); rintro en w1 ⟨rfl, hb⟩
    have HB := Lib.hid (M.below_sets (usV p_v (.ok (x, y))) hb (fun u hu => by rw [usV_block hu]; exact HR.out.lt))
    have V := HR.out.mono hb
    have r0 := V.c 0 _ rfl
    have r1 := V.c 1 _ rfl
    have hf := V.2.2
    clear V hb
    go_wp2_with fail
    exact bodyPost_end (v := .tuple #[]) (by first | rfl | kernel_rfl | simp [results, go_sem]) rfl ⟨rfl, HB.out⟩
theorem cloVT4 (p_op p_a p_b p_v p_k p_n p_y : Nat)  (a1 a2 : Int) (ha1 : I64 a1) (ha2 : I64 a2) (b1 b2 : Int) (hb1 : I64 b1) (hb2 : I64 b2) (o0 : Value) (P : X Int) (hP : dotX (a1, a2) (b1, b2) = P)  (w : World)
    (h_op : Var w p_op #[.int .i64 4]) (h_a : Var w p_a #[.int .i64 a1, .int .i64 a2]) (h_b : Var w p_b #[.int .i64 b1, .int .i64 b2]) (h_y : Var w p_y #[o0]) :
    Calls Try.prog 110 #[.pointer (some ⟨p_op, 0, none⟩), .pointer (some ⟨p_a, 0, none⟩), .pointer (some ⟨p_b, 0, none⟩), .pointer (some ⟨p_v, 0, none⟩), .pointer (some ⟨p_k, 0, none⟩), .pointer (some ⟨p_y, 0, none⟩), .pointer (some ⟨p_n, 0, none⟩)] w fun e w' => e = outU (errX P) ∧ Below w.heap.size (sets w (usI p_y P)) w' := by
  have c := vecDot_x a1 a2 b1 b2 ha1 ha2 hb1 hb2
  have q_op_0 := h_op.c 0 _ rfl
  have q_a_0 := h_a.c 0 _ rfl
  have q_a_1 := h_a.c 1 _ rfl
  have q_b_0 := h_b.c 0 _ rfl
  have q_b_1 := h_b.c 1 _ rfl
  cases P with
  | error n =>
    have C := Lib.hid (fun w => (c w).mono fun e w' h => (⟨M.err_I hP h.1, h.2⟩ : (n ≠ 0 ∧ e = panics n) ∧ Bw w w'))
    clear c hP
    go_enter Try.func110, Try.ntmps110
    go_wp2_with fail
    (with_reducible refine (C.out _).mono ?_); rintro en w1 ⟨⟨hz, rfl⟩, hb⟩
    exact ⟨rfl, (outU_n hz).symm, hb⟩
  | ok x =>
    have C := Lib.hid (fun w => (c w).mono fun e w' h => (⟨M.ret_I hP h.1, h.2⟩ : e = .returned (.int .i64 x) ∧ Bw w w'))
    have HR := Lib.hid h_y
    clear c hP h_y
    go_enter Try.func110, Try.ntmps110
    go_wp2_with fail
    (with_reducible refine (C.out _).mono ?_); rintro en w1 ⟨rfl, hb⟩
    have HB := Lib.hid (M.below_sets (usI p_y (.ok x)) hb (fun u hu => by rw [usI_block hu]; exact HR.out.lt))
    have V := HR.out.mono hb
    have r0 := V.c 0 _ rfl
    have hf := V.2.2
    clear V hb
    go_wp2_with fail
    exact bodyPost_end (v := .tuple #[]) (by first | rfl | kernel_rfl | simp [results, go_sem]) rfl ⟨rfl, HB.out⟩
theorem cloVT5 (p_op p_a p_b p_v p_k p_n p_y : Nat)  (a1 a2 : Int) (ha1 : I64 a1) (ha2 : I64 a2) (o0 : Value) (P : X Int) (hP : lenX a1 a2 = P)  (w : World)
    (h_op : Var w p_op #[.int .i64 5]) (h_a : Var w p_a #[.int .i64 a1, .int .i64 a2]) (h_y : Var w p_y #[o0]) :
    Calls Try.prog 110 #[.pointer (some ⟨p_op, 0, none⟩), .pointer (some ⟨p_a, 0, none⟩), .pointer (some ⟨p_b, 0, none⟩), .pointer (some ⟨p_v, 0, none⟩), .pointer (some ⟨p_k, 0, none⟩), .pointer (some ⟨p_y, 0, none⟩), .pointer (some ⟨p_n, 0, none⟩)] w fun e w' => e = outU (errX P) ∧ Below w.heap.size (sets w (usI p_y P)) w' := by
  have c := vecLen_x a1 a2 ha1 ha2
  have q_op_0 := h_op.c 0 _ rfl
  have q_a_0 := h_a.c 0 _ rfl
  have q_a_1 := h_a.c 1 _ rfl
  cases P with
  | error n =>
    have C := Lib.hid (fun w => (c w).mono fun e w' h => (⟨M.err_I hP h.1, h.2⟩ : (n ≠ 0 ∧ e = panics n) ∧ Bw w w'))
    clear c hP
    go_enter Try.func110, Try.ntmps110
    go_wp2_with fail
    (with_reducible refine (C.out _).mono ?_); rintro en w1 ⟨⟨hz, rfl⟩, hb⟩
    exact ⟨rfl, (outU_n hz).symm, hb⟩
  | ok x =>
    have C := Lib.hid (fun w => (c w).mono fun e w' h => (⟨M.ret_I hP h.1, h.2⟩ : e = .returned (.int .i64 x) ∧ Bw w w'))
    have HR := Lib.hid h_y
    clear c hP h_y
    go_enter Try.func110, Try.ntmps110
    go_wp2_with fail
    (with_reducible refine (C.out _).mono ?_); rintro en w1 ⟨rfl, hb⟩
    have HB := Lib.hid (M.below_sets (usI p_y (.ok x)) hb (fun u hu => by rw [usI_block hu]; exact HR.out.lt))
    have V := HR.out.mono hb
    have r0 := V.c 0 _ rfl
    have hf := V.2.2
    clear V hb
    go_wp2_with fail
    exact bodyPost_end (v := .tuple #[]) (by first | rfl | kernel_rfl | simp [results, go_sem]) rfl ⟨rfl, HB.out⟩
theorem cloVT6 (p_op p_a p_b p_k p_n p_v p_y : Nat)  (a1 a2 : Int) (ha1 : I64 a1) (ha2 : I64 a2) (o0 o1 u0 : Value) (P : X (V × Int)) (hP : unitX (a1, a2) = P)  (w : World)
    (h_op : Var w p_op #[.int .i64 6]) (h_a : Var w p_a #[.int .i64 a1, .int .i64 a2]) (h_v : Var w p_v #[o0, o1]) (h_y : Var w p_y #[u0]) (nd : p_v ≠ p_y) :
    Calls Try.prog 110 #[.pointer (some ⟨p_op, 0, none⟩), .pointer (some ⟨p_a, 0, none⟩), .pointer (some ⟨p_b, 0, none⟩), .pointer (some ⟨p_v, 0, none⟩), .pointer (some ⟨p_k, 0, none⟩), .pointer (some ⟨p_y, 0, none⟩), .pointer (some ⟨p_n, 0, none⟩)] w fun e w' => e = outU (errX P) ∧ Below w.heap.size (sets w (usV p_v (fstX P) ++ usI p_y (sndX P))) w' := by
  have c := vecUnit_x a1 a2 ha1 ha2
  have q_op_0 := h_op.c 0 _ rfl
  have q_a_0 := h_a.c 0 _ rfl
  have q_a_1 := h_a.c 1 _ rfl
  cases P with
  | error n =>
    have C := Lib.hid (fun w => (c w).mono fun e w' h => (⟨M.err_VI hP h.1, h.2⟩ : (n ≠ 0 ∧ e = panics n) ∧ Bw w w'))
    clear c hP
    go_enter Try.func110, Try.ntmps110
    go_wp2_with fail
    (with_reducible refine (C.out _).mono ?_); rintro en w1 ⟨⟨hz, rfl⟩, hb⟩
    exact ⟨rfl, (outU_n hz).symm, hb⟩
  | ok xy =>
    obtain ⟨⟨x1, x2⟩, y⟩ := xy
    have C := Lib.hid (fun w => (c w).mono fun e w' h => (⟨M.ret_VI hP h.1, h.2⟩ : e = .returned (.tuple #[.agg #[.int .i64 x1, .int .i64 x2], .int .i64 y]) ∧ Bw w w'))
    have HR1 := Lib.hid h_v
    have HR2 := Lib.hid h_y
    have nd' := Ne.symm nd
    clear c hP h_v h_y
    go_enter Try.func110, Try.ntmps110
    go_wp2_with fail
    (with_reducible refine (C.out _).mono ?_); rintro en w1 ⟨rfl, hb⟩
    have HB := Lib.hid (M.below_sets (usV p_v (fstX (.ok ((x1, x2), y) : X (V × Int))) ++ usI p_y (sndX (.ok ((x1, x2), y) : X (V × Int)))) hb (fun u hu => by rcases List.mem_append.1 hu with hu | hu; exact (by rw [usV_block hu]; exact HR1.out.lt); exact (by rw [usI_block hu]; exact HR2.out.lt)))
    have V1 := HR1.out.mono hb
    have V2 := HR2.out.mono hb
    have r0 := V1.c 0 _ rfl
    have r1 := V1.c 1 _ rfl
    have t0 := V2.c 0 _ rfl
    have hf1 := V1.2.2
    have hf2 := V2.2.2
    clear V1 V2 hb
    go_wp2_with fail
    exact bodyPost_end (v := .tuple #[]) (by first | rfl | kernel_rfl | simp [results, go_sem]) rfl ⟨rfl, HB.out⟩
theorem cloVT7 (p_op p_a p_n p_b p_k p_y p_v : Nat)  (a1 a2 : Int) (ha1 : I64 a1) (ha2 : I64 a2) (n : Int) (hn : I64 n) (o0 o1 : Value) (P : X V) (hP : shareV (a1, a2) n = P)  (w : World)
    (h_op : Var w p_op #[.int .i64 7]) (h_a : Var w p_a #[.int .i64 a1, .int .i64 a2]) (h_n : Var w p_n #[.int .i64 n]) (h_v : Var w p_v #[o0, o1]) :
    Calls Try.prog 110 #[.pointer (some ⟨p_op, 0, none⟩), .pointer (some ⟨p_a, 0, none⟩), .pointer (some ⟨p_b, 0, none⟩), .pointer (some ⟨p_v, 0, none⟩), .pointer (some ⟨p_k, 0, none⟩), .pointer (some ⟨p_y, 0, none⟩), .pointer (some ⟨p_n, 0, none⟩)] w fun e w' => e = outU (errX P) ∧ Below w.heap.size (sets w (usV p_v P)) w' := by
  have c := vecShare_x a1 a2 n ha1 ha2 hn
  have q_op_0 := h_op.c 0 _ rfl
  have q_a_0 := h_a.c 0 _ rfl
  have q_a_1 := h_a.c 1 _ rfl
  have q_n_0 := h_n.c 0 _ rfl
  cases P with
  | error n =>
    have C := Lib.hid (fun w => (c w).mono fun e w' h => (⟨M.err_V hP h.1, h.2⟩ : (n ≠ 0 ∧ e = panics n) ∧ Bw w w'))
    clear c hP
    go_enter Try.func110, Try.ntmps110
    go_wp2_with fail
    (with_reducible refine (C.out _).mono ?_); rintro en w1 ⟨⟨hz, rfl⟩, hb⟩
    exact ⟨rfl, (outU_n hz).symm, hb⟩
  | ok xy =>
    obtain ⟨x, y⟩ := xy
    have C := Lib.hid (fun w => (c w).mono fun e w' h => (⟨M.ret_V hP h.1, h.2⟩ : e = .returned (.agg #[.int .i64 x, .int .i64 y]) ∧ Bw w w'))
    have HR := Lib.hid h_v
    clear c hP h_v
    go_enter Try.func110, Try.ntmps110
    go_wp2_with fail
    (with_reducible refine (C.out _).mono ?_); rintro en w1 ⟨rfl, hb⟩
    have HB := Lib.hid (M.below_sets (usV p_v (.ok (x, y))) hb (fun u hu => by rw [usV_block hu]; exact HR.out.lt))
    have V := HR.out.mono hb
    have r0 := V.c 0 _ rfl
    have r1 := V.c 1 _ rfl
    have hf := V.2.2
    clear V hb
    go_wp2_with fail
    exact bodyPost_end (v := .tuple #[]) (by first | rfl | kernel_rfl | simp [results, go_sem]) rfl ⟨rfl, HB.out⟩
end Go.Proofs.Ytaagpkacningdaa
