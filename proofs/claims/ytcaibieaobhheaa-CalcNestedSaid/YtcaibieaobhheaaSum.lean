/- calc.Sum: the product with as many ones. -/
import Derived.Test.YtcaibieaobhheaaDot2
import Derived.OwnWalk
namespace Go.Proofs.Ytcaibieaobhheaa
open Go.RowKit M
set_option maxRecDepth 100000
set_option maxHeartbeats 2000000
set_option linter.unusedVariables false
set_option linter.unusedSimpArgs false

theorem info_fix : (Try.prog.info? 22).map (fun i => (i.zero, i.size, i.bytes)) = some (some (.int .i64 0), 1, 8) := by kernel_rfl
theorem under_fixes : Try.prog.underlying 97 = some (.slice 22) := by kernel_rfl

theorem sum_c (xs : List Int) (oa : Option Addr) (ca : Nat) (w : World) (ha : Row w oa xs) (hl : xs.length ≤ 100000) :
    Calls Try.prog 89 #[.slice oa xs.length ca] w fun en w' =>
      en = .returned (.tuple #[.int .i64 (sumE xs).1, .int .i64 (sumE xs).2]) ∧ Bw w w' := by
  have he : dotE xs (ones xs.length) = sumE xs := dotE_ones xs ha.i64
  rw [← he]
  clear he
  obtain ⟨i9, hi9', hz90, hz91, hz92⟩ := info_parts info_fix
  obtain ⟨W5, hmk5, hown5, hgr5⟩ := run_make_full (P := Try.prog) w w.heap.size 97 22 i9 _ 1 under_fixes hi9' hz90 hz91 .i64 .i64 xs.length (by rw [hz92]; omega) (by unfold maxLen; omega) (Nat.le_refl _)
  have hb5 : Below w.heap.size w W5 := (Below.refl _ _).grown hgr5 (Nat.le_refl _) (fun k hk => by cases hk)
  rw [show (Value.int .i64 0).cells = #[Value.int .i64 0] from rfl, Nat.mul_one, toList_madeCells_one] at hown5
  clear i9 hi9' hz90 hz91 hz92 hgr5
  have HA := Lib.hid ha; have HO := Lib.hid hown5; have HB := Lib.hid hb5
  clear ha hown5 hb5
  generalize hn : xs.length = n at *
  go_enter Try.func89, Try.ntmps89
  go_wp2_with fail
  go_loopg [11] n (fun gf s49 wx => ∃ (i : Nat) (vs : List Value), i + gf = n ∧ s49 = .int .i64 i ∧ (∀ j, j < i → vs[j]? = some (.int .i64 4294967296)) ∧ wx.ownsRow w.heap.size 22 1 (.slice (some ⟨w.heap.size, 0, none⟩) n n) n vs ∧ Below w.heap.size w wx)
  case atStart => exact ⟨0, _, by omega, rfl, fun j hj => by omega, HO.out, HB.out⟩
  case round =>
    obtain ⟨i, vs, hig, rfl, hv, hA, hbr⟩ := hrel
    cases gk with
    | zero =>
      have hin : ¬ ((i : Int) < (n : Int)) := by omega
      obtain rfl : i = n := by omega
      have hB := Lib.hid (show Row wr (some ⟨w.heap.size, 0, none⟩) (ones i) from fun j x hx => by
        have hj : j < i := by
          have := (List.getElem?_eq_some_iff.1 hx).1; simpa [ones] using this
        refine ⟨_, _, rfl, ?_, ?_⟩
        · rw [Nat.zero_add, hA.cellAt j (by omega), hv j hj]
          have : (ones i)[j]? = some 4294967296 := by simp [ones, hj]
          rw [this] at hx; injection hx with hx; rw [← hx]
        · have : (ones i)[j]? = some 4294967296 := by simp [ones, hj]
          rw [this] at hx; injection hx with hx; rw [← hx]; exact i64_lit (by decide))
      have lo : (ones i).length = i := by simp [ones]
      have C := Lib.hid (dot_c xs (ones i) oa (some ⟨w.heap.size, 0, none⟩) ca i wr (HA.out.keep hbr) hB.out (by omega) (by omega))
      rw [hn, lo] at C
      have HBR := Lib.hid hbr
      clear hbr hv hA
      go_wp2_with fail
      (with_reducible refine C.out.mono ?_); rintro en w1 ⟨rfl, hb⟩
      have G1 := Lib.hid (HBR.out.trans (hb.mono HBR.out.size))
      clear hb
      go_wp2_with fail
      go_ret2
      exact ⟨rfl, G1.out⟩
    | succ gf =>
      have hin : (i : Int) < (n : Int) := by omega
      obtain ⟨old, hold⟩ : ∃ old, vs[i]? = some old := ⟨_, List.getElem?_eq_getElem (by have := hA.1; omega)⟩
      have hcA := (hA.cellAt i (by omega)).trans hold
      have hfA := hA.frozenAt i
      go_wp2_with fail
      go_roundg gf
      case measure => omega
      case rel =>
        have hst := hA.stored i (.int .i64 4294967296)
        refine ⟨i + 1, _, by omega, by go_num, ?_, hst.1, hbr.grown hst.2 hbr.size (fun k hk => by cases hk; exact Nat.le_refl _)⟩
        intro j hj
        by_cases e : j = i
        · subst e; rw [List.getElem?_set_self (List.getElem?_eq_some_iff.1 hold).1]
        · rw [List.getElem?_set_ne (Ne.symm e)]; exact hv j (by omega)
end Go.Proofs.Ytcaibieaobhheaa
