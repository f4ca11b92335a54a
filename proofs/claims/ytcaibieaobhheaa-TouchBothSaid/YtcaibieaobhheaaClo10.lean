/- What the closures of the laws of chapter 10 do. -/
import Derived.Test.YtcaibieaobhheaaVar3
import Derived.Test.YtcaibieaobhheaaHit
namespace Go.Proofs.Ytcaibieaobhheaa
open Go.RowKit M
set_option maxRecDepth 100000
set_option maxHeartbeats 4000000
set_option linter.unusedVariables false
set_option linter.unusedSimpArgs false
theorem cloHitA (p_a p_b p_o p_k : Nat) (a : Bd) (ha : a.ok) (b : Bd) (hb : b.ok) (o0 o1 o2 u0 : Value) (P : X (Ht × Bool)) (hP : hitX a b = P)  (w : World)
    (h_a : Var w p_a #[.int .i64 a.shape, .int .i64 a.sx, .int .i64 a.sy, .int .i64 a.mass, .int .i64 a.px, .int .i64 a.py, .int .i64 a.mx, .int .i64 a.my]) (h_b : Var w p_b #[.int .i64 b.shape, .int .i64 b.sx, .int .i64 b.sy, .int .i64 b.mass, .int .i64 b.px, .int .i64 b.py, .int .i64 b.mx, .int .i64 b.my]) (h_o : Var w p_o #[o0, o1, o2]) (h_k : Var w p_k #[u0]) (nd : p_o ≠ p_k) :
    Calls Try.prog 57 #[.pointer (some ⟨p_a, 0, none⟩), .pointer (some ⟨p_b, 0, none⟩), .pointer (some ⟨p_o, 0, none⟩), .pointer (some ⟨p_k, 0, none⟩)] w fun e w' => e = outU (errX P) ∧ Below w.heap.size (sets w (usHt p_o (fstX P) ++ usB p_k (sndX P))) w' := by
  have c := hit_x a b ha hb
  have q_a_0 := h_a.c 0 _ rfl
  have q_a_1 := h_a.c 1 _ rfl
  have q_a_2 := h_a.c 2 _ rfl
  have q_a_3 := h_a.c 3 _ rfl
  have q_a_4 := h_a.c 4 _ rfl
  have q_a_5 := h_a.c 5 _ rfl
  have q_a_6 := h_a.c 6 _ rfl
  have q_a_7 := h_a.c 7 _ rfl
  have q_b_0 := h_b.c 0 _ rfl
  have q_b_1 := h_b.c 1 _ rfl
  have q_b_2 := h_b.c 2 _ rfl
  have q_b_3 := h_b.c 3 _ rfl
  have q_b_4 := h_b.c 4 _ rfl
  have q_b_5 := h_b.c 5 _ rfl
  have q_b_6 := h_b.c 6 _ rfl
  have q_b_7 := h_b.c 7 _ rfl
  cases P with
  | error n =>
    have C := Lib.hid (fun w => (c w).mono fun e w' h => (⟨M.err_Hb hP h.1, h.2⟩ : (n ≠ 0 ∧ e = panics n) ∧ Bw w w'))
    clear c hP
    go_enter Try.func57, Try.ntmps57
    go_wp2_with fail
    (with_reducible refine (C.out _).mono ?_); rintro en w1 ⟨⟨hz, rfl⟩, hb⟩
    exact ⟨rfl, (outU_n hz).symm, hb⟩
  | ok xy =>
    obtain ⟨x, y⟩ := xy
    have C := Lib.hid (fun w => (c w).mono fun e w' h => (⟨M.ret_Hb hP h.1, h.2⟩ : e = .returned (.tuple #[.agg #[.int .i64 x.nx, .int .i64 x.ny, .int .i64 x.d], .bool y]) ∧ Bw w w'))
    have HR1 := Lib.hid h_o
    have HR2 := Lib.hid h_k
    have nd' := Ne.symm nd
    clear c hP h_o h_k
    go_enter Try.func57, Try.ntmps57
    go_wp2_with fail
    (with_reducible refine (C.out _).mono ?_); rintro en w1 ⟨rfl, hb⟩
    have HB := Lib.hid (M.below_sets (usHt p_o (fstX (.ok (x, y) : X (Ht × Bool))) ++ usB p_k (sndX (.ok (x, y) : X (Ht × Bool)))) hb (fun u hu => by rcases List.mem_append.1 hu with hu | hu; exact (by rw [usHt_block hu]; exact HR1.out.lt); exact (by rw [usB_block hu]; exact HR2.out.lt)))
    have V1 := HR1.out.mono hb
    have V2 := HR2.out.mono hb
    have r0 := V1.c 0 _ rfl
    have r1 := V1.c 1 _ rfl
    have r2 := V1.c 2 _ rfl
    have t0 := V2.c 0 _ rfl
    have hf1 := V1.2.2
    have hf2 := V2.2.2
    clear V1 V2 hb
    go_wp2_with fail
    exact bodyPost_end (v := .tuple #[]) (by first | rfl | kernel_rfl | simp [results, go_sem]) rfl ⟨rfl, HB.out⟩
theorem cloHitM1 (p_a p_b p_o p_k : Nat) (a : Bd) (ha : a.ok) (b : Bd) (hb : b.ok) (o0 o1 o2 u0 : Value) (P : X (Ht × Bool)) (hP : hitX a b = P)  (w : World)
    (h_a : Var w p_a #[.int .i64 a.shape, .int .i64 a.sx, .int .i64 a.sy, .int .i64 a.mass, .int .i64 a.px, .int .i64 a.py, .int .i64 a.mx, .int .i64 a.my]) (h_b : Var w p_b #[.int .i64 b.shape, .int .i64 b.sx, .int .i64 b.sy, .int .i64 b.mass, .int .i64 b.px, .int .i64 b.py, .int .i64 b.mx, .int .i64 b.my]) (h_o : Var w p_o #[o0, o1, o2]) (h_k : Var w p_k #[u0]) (nd : p_o ≠ p_k) :
    Calls Try.prog 18 #[.pointer (some ⟨p_a, 0, none⟩), .pointer (some ⟨p_b, 0, none⟩), .pointer (some ⟨p_o, 0, none⟩), .pointer (some ⟨p_k, 0, none⟩)] w fun e w' => e = outU (errX P) ∧ Below w.heap.size (sets w (usHt p_o (fstX P) ++ usB p_k (sndX P))) w' := by
  have c := hit_x a b ha hb
  have q_a_0 := h_a.c 0 _ rfl
  have q_a_1 := h_a.c 1 _ rfl
  have q_a_2 := h_a.c 2 _ rfl
  have q_a_3 := h_a.c 3 _ rfl
  have q_a_4 := h_a.c 4 _ rfl
  have q_a_5 := h_a.c 5 _ rfl
  have q_a_6 := h_a.c 6 _ rfl
  have q_a_7 := h_a.c 7 _ rfl
  have q_b_0 := h_b.c 0 _ rfl
  have q_b_1 := h_b.c 1 _ rfl
  have q_b_2 := h_b.c 2 _ rfl
  have q_b_3 := h_b.c 3 _ rfl
  have q_b_4 := h_b.c 4 _ rfl
  have q_b_5 := h_b.c 5 _ rfl
  have q_b_6 := h_b.c 6 _ rfl
  have q_b_7 := h_b.c 7 _ rfl
  cases P with
  | error n =>
    have C := Lib.hid (fun w => (c w).mono fun e w' h => (⟨M.err_Hb hP h.1, h.2⟩ : (n ≠ 0 ∧ e = panics n) ∧ Bw w w'))
    clear c hP
    go_enter Try.func18, Try.ntmps18
    go_wp2_with fail
    (with_reducible refine (C.out _).mono ?_); rintro en w1 ⟨⟨hz, rfl⟩, hb⟩
    exact ⟨rfl, (outU_n hz).symm, hb⟩
  | ok xy =>
    obtain ⟨x, y⟩ := xy
    have C := Lib.hid (fun w => (c w).mono fun e w' h => (⟨M.ret_Hb hP h.1, h.2⟩ : e = .returned (.tuple #[.agg #[.int .i64 x.nx, .int .i64 x.ny, .int .i64 x.d], .bool y]) ∧ Bw w w'))
    have HR1 := Lib.hid h_o
    have HR2 := Lib.hid h_k
    have nd' := Ne.symm nd
    clear c hP h_o h_k
    go_enter Try.func18, Try.ntmps18
    go_wp2_with fail
    (with_reducible refine (C.out _).mono ?_); rintro en w1 ⟨rfl, hb⟩
    have HB := Lib.hid (M.below_sets (usHt p_o (fstX (.ok (x, y) : X (Ht × Bool))) ++ usB p_k (sndX (.ok (x, y) : X (Ht × Bool)))) hb (fun u hu => by rcases List.mem_append.1 hu with hu | hu; exact (by rw [usHt_block hu]; exact HR1.out.lt); exact (by rw [usB_block hu]; exact HR2.out.lt)))
    have V1 := HR1.out.mono hb
    have V2 := HR2.out.mono hb
    have r0 := V1.c 0 _ rfl
    have r1 := V1.c 1 _ rfl
    have r2 := V1.c 2 _ rfl
    have t0 := V2.c 0 _ rfl
    have hf1 := V1.2.2
    have hf2 := V2.2.2
    clear V1 V2 hb
    go_wp2_with fail
    exact bodyPost_end (v := .tuple #[]) (by first | rfl | kernel_rfl | simp [results, go_sem]) rfl ⟨rfl, HB.out⟩
theorem cloHitM2 (p_a p_b p_o p_k : Nat) (a : Bd) (ha : a.ok) (b : Bd) (hb : b.ok) (o0 o1 o2 u0 : Value) (P : X (Ht × Bool)) (hP : hitX a b = P)  (w : World)
    (h_a : Var w p_a #[.int .i64 a.shape, .int .i64 a.sx, .int .i64 a.sy, .int .i64 a.mass, .int .i64 a.px, .int .i64 a.py, .int .i64 a.mx, .int .i64 a.my]) (h_b : Var w p_b #[.int .i64 b.shape, .int .i64 b.sx, .int .i64 b.sy, .int .i64 b.mass, .int .i64 b.px, .int .i64 b.py, .int .i64 b.mx, .int .i64 b.my]) (h_o : Var w p_o #[o0, o1, o2]) (h_k : Var w p_k #[u0]) (nd : p_o ≠ p_k) :
    Calls Try.prog 20 #[.pointer (some ⟨p_a, 0, none⟩), .pointer (some ⟨p_b, 0, none⟩), .pointer (some ⟨p_o, 0, none⟩), .pointer (some ⟨p_k, 0, none⟩)] w fun e w' => e = outU (errX P) ∧ Below w.heap.size (sets w (usHt p_o (fstX P) ++ usB p_k (sndX P))) w' := by
  have c := hit_x a b ha hb
  have q_a_0 := h_a.c 0 _ rfl
  have q_a_1 := h_a.c 1 _ rfl
  have q_a_2 := h_a.c 2 _ rfl
  have q_a_3 := h_a.c 3 _ rfl
  have q_a_4 := h_a.c 4 _ rfl
  have q_a_5 := h_a.c 5 _ rfl
  have q_a_6 := h_a.c 6 _ rfl
  have q_a_7 := h_a.c 7 _ rfl
  have q_b_0 := h_b.c 0 _ rfl
  have q_b_1 := h_b.c 1 _ rfl
  have q_b_2 := h_b.c 2 _ rfl
  have q_b_3 := h_b.c 3 _ rfl
  have q_b_4 := h_b.c 4 _ rfl
  have q_b_5 := h_b.c 5 _ rfl
  have q_b_6 := h_b.c 6 _ rfl
  have q_b_7 := h_b.c 7 _ rfl
  cases P with
  | error n =>
    have C := Lib.hid (fun w => (c w).mono fun e w' h => (⟨M.err_Hb hP h.1, h.2⟩ : (n ≠ 0 ∧ e = panics n) ∧ Bw w w'))
    clear c hP
    go_enter Try.func20, Try.ntmps20
    go_wp2_with fail
    (with_reducible refine (C.out _).mono ?_); rintro en w1 ⟨⟨hz, rfl⟩, hb⟩
    exact ⟨rfl, (outU_n hz).symm, hb⟩
  | ok xy =>
    obtain ⟨x, y⟩ := xy
    have C := Lib.hid (fun w => (c w).mono fun e w' h => (⟨M.ret_Hb hP h.1, h.2⟩ : e = .returned (.tuple #[.agg #[.int .i64 x.nx, .int .i64 x.ny, .int .i64 x.d], .bool y]) ∧ Bw w w'))
    have HR1 := Lib.hid h_o
    have HR2 := Lib.hid h_k
    have nd' := Ne.symm nd
    clear c hP h_o h_k
    go_enter Try.func20, Try.ntmps20
    go_wp2_with fail
    (with_reducible refine (C.out _).mono ?_); rintro en w1 ⟨rfl, hb⟩
    have HB := Lib.hid (M.below_sets (usHt p_o (fstX (.ok (x, y) : X (Ht × Bool))) ++ usB p_k (sndX (.ok (x, y) : X (Ht × Bool)))) hb (fun u hu => by rcases List.mem_append.1 hu with hu | hu; exact (by rw [usHt_block hu]; exact HR1.out.lt); exact (by rw [usB_block hu]; exact HR2.out.lt)))
    have V1 := HR1.out.mono hb
    have V2 := HR2.out.mono hb
    have r0 := V1.c 0 _ rfl
    have r1 := V1.c 1 _ rfl
    have r2 := V1.c 2 _ rfl
    have t0 := V2.c 0 _ rfl
    have hf1 := V1.2.2
    have hf2 := V2.2.2
    clear V1 V2 hb
    go_wp2_with fail
    exact bodyPost_end (v := .tuple #[]) (by first | rfl | kernel_rfl | simp [results, go_sem]) rfl ⟨rfl, HB.out⟩
end Go.Proofs.Ytcaibieaobhheaa
