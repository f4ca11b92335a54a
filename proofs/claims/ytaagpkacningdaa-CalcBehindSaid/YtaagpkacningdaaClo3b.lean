/- The closure of CalcBehind. -/
import Derived.Test.YtaagpkacningdaaClo3
import Derived.Test.YtaagpkacningdaaArgsS
namespace Go.Proofs.Ytaagpkacningdaa
open Go.RowKit M
set_option maxRecDepth 100000
set_option maxHeartbeats 2000000
set_option linter.unusedVariables false
set_option linter.unusedSimpArgs false
/-- One divided by each: how many went well, and the error that stopped it. -/
def behR : List Int → Int → Int × Int
  | x :: l, n => if (divR 4294967296 x).2 = 0 then behR l (n + 1) else (n, (divR 4294967296 x).2)
  | [], n => (n, 0)
theorem behR_drop {xs : List Int} {i : Nat} {x : Int} (hx : xs[i]? = some x) (n : Int) :
    behR (xs.drop i) n = if (divR 4294967296 x).2 = 0 then behR (xs.drop (i + 1)) (n + 1) else (n, (divR 4294967296 x).2) := by
  obtain ⟨h1, rfl⟩ := List.getElem?_eq_some_iff.1 hx
  rw [List.drop_eq_getElem_cons h1, behR]
theorem behR_end {xs : List Int} (n : Int) : behR (xs.drop xs.length) n = (n, 0) := by
  rw [List.drop_eq_nil_of_le (Nat.le_refl _), behR]
theorem beh_end (pn : Nat) (w : World) (s e : Int) (k : Nat) : Below w.heap.size (sets w (usI pn (.ok s))) ((w.setCell ⟨pn, 0, none⟩ (.int .i64 s)).drewN k) :=
  (Dr.bw ⟨k, rfl⟩ : Bw (w.setCell ⟨pn, 0, none⟩ (.int .i64 s)) ((w.setCell ⟨pn, 0, none⟩ (.int .i64 s)).drewN k)).mono (by rw [setCell_size]; exact Nat.le_refl _)
theorem beh1_c (pl pn : Nat) (l : List Int) (ol : Option Addr) (cl : Nat) (w0 w : World) (hw : Bw w0 w) (vl : Var w pl #[.slice ol l.length cl]) (vn : Var w pn #[.int .i64 0]) (rl : Row w0 ol l) (hlen : l.length ≤ 30)
    (n1 : pl ≠ pn) (n3 : w0.heap.size ≤ pn) {S0 E0 : Int} (hS : behR l 0 = (S0, E0)) :
    Calls Try.prog 75 #[.pointer (some ⟨pl, 0, none⟩), .pointer (some ⟨pn, 0, none⟩)] w fun en w' => en = outU E0 ∧ Below w.heap.size (sets w (usI pn (.ok S0))) w' := by
  have R := Lib.hid (rl.keep hw)
  have LT := Lib.hid (fun (i : Nat) (x : Int) (b o : Nat) (hx : l[i]? = some x) (he : ol = some ⟨b, o, none⟩) => (show b ≠ pn by have := rl.lt hx he; omega))
  have h1 := vl.c 0 _ rfl
  have h3 := vn.c 0 _ rfl
  have hfs := vn.2.2 0
  have HW := Lib.hid (setCell_self h3)
  have HS := Lib.hid hS
  clear rl vl vn hw hS
  go_enter Try.func75, Try.ntmps75
  go_wp2_with fail
  go_loopg [6] l.length (fun gf a wx => ∃ (i : Nat) (s : Int), i + gf = l.length ∧ a = .int .i64 i ∧ 0 ≤ s ∧ s ≤ (i : Int) ∧ behR l 0 = behR (l.drop i) s ∧ ∃ k, wx = (w.setCell ⟨pn, 0, none⟩ (.int .i64 s)).drewN k)
  case atStart => exact ⟨0, 0, by omega, rfl, by omega, by omega, rfl, 0, HW.out.symm⟩
  case round =>
    obtain ⟨i, s, hig, rfl, s0, s1, hf, k, rfl⟩ := hrel
    cases gk with
    | zero =>
      have hin : ¬ ((i : Int) < (l.length : Int)) := by omega
      obtain rfl : i = l.length := by omega
      rw [HS.out, behR_end] at hf
      obtain ⟨rfl, rfl⟩ := Prod.mk.inj hf
      clear hf
      go_wp2_with fail
      exact bodyPost_end (v := .tuple #[]) (by first | rfl | kernel_rfl | simp [results, go_sem]) rfl ⟨rfl, beh_end _ _ _ 0 _⟩
    | succ gf =>
      have hin : (i : Int) < (l.length : Int) := by omega
      obtain ⟨x, hx⟩ : ∃ x, l[i]? = some x := ⟨_, List.getElem?_eq_getElem (by omega)⟩
      obtain ⟨b, o, rfl, x1, ix⟩ := R.out i x hx
      have k1 := LT.out i x b o hx rfl
      rw [behR_drop hx] at hf
      have q0 : ((w.setCell ⟨pn, 0, none⟩ (.int .i64 s)).cell? ⟨pn, 0, none⟩) = some (.int .i64 s) := World.cell?_setCell_same _ _ _ h3
      have q1 : ((w.setCell ⟨pn, 0, none⟩ (.int .i64 s)).cell? ⟨b, o + i, none⟩) = some (.int .i64 x) := by
        rw [World.cell?_setCell_far _ _ _ _ (Ne.symm k1)]; exact x1
      have q4 : (w.setCell ⟨pn, 0, none⟩ (.int .i64 s)).frozen? ⟨pn, 0, none⟩ = false := by rw [World.frozen?_setCell]; exact hfs
      have q5 : ∀ v, (w.setCell ⟨pn, 0, none⟩ (.int .i64 s)).setCell ⟨pn, 0, none⟩ v = w.setCell ⟨pn, 0, none⟩ v := fun v => setCell_twice _ _ _ _
      have c := calcDiv_c 4294967296 x (i64_lit (by decide)) ix
      rcases hr : divR 4294967296 x with ⟨r, e⟩
      rw [hr] at c hf
      dsimp only at hf
      clear h1 h3 hfs x1 hr
      by_cases he : e = 0
      · subst he
        rw [outI_ok] at c
        rw [if_pos rfl] at hf
        have C := Lib.hid c; have HF := Lib.hid hf
        clear c hf
        go_wp2_with fail
        (with_reducible refine (C.out _).mono ?_); rintro en w2 ⟨rfl, n2, rfl⟩
        go_wp2_with fail
        go_roundg gf
        case measure => omega
        case rel => exact ⟨i + 1, s + 1, by omega, by go_num, by omega, by omega, HF.out, _, rfl⟩
      · rw [outI_no he] at c
        rw [if_neg he, HS.out] at hf
        obtain ⟨rfl, rfl⟩ := Prod.mk.inj hf
        have C := Lib.hid c
        clear c hf
        go_wp2_with fail
        (with_reducible refine (C.out _).mono ?_); rintro en w2 ⟨rfl, n2, rfl⟩
        exact ⟨rfl, (outU_n he).symm, ((Dr.step ⟨_, rfl⟩ _ : Dr (w.setCell ⟨pn, 0, none⟩ (.int .i64 S0)) _).bw).mono (by rw [setCell_size]; exact Nat.le_refl _)⟩
theorem beh2_c (w : World) : Calls Try.prog 78 #[] w fun en w' => en = outU 0 ∧ Bw w w' := by
  go_enter Try.func78, Try.ntmps78
  go_wp2_with fail
  exact bodyPost_end (v := .tuple #[]) (by first | rfl | kernel_rfl | simp [results, go_sem]) rfl ⟨rfl, Below.refl _ _⟩
end Go.Proofs.Ytaagpkacningdaa
