/- CalcNested: a function that calls itself through a variable, and through Try. -/
import Derived.Test.YtcaibieaobhheaaPan2
import Derived.Test.YtcaibieaobhheaaDot
namespace Go.Proofs.Ytcaibieaobhheaa
open Go.RowKit M
set_option maxRecDepth 100000
set_option maxHeartbeats 4000000
set_option linter.unusedVariables false
set_option linter.unusedSimpArgs false
abbrev capsN (pE pI pS pA : Nat) : Array Value := #[.pointer (some ⟨pE, 0, none⟩), .pointer (some ⟨pI, 0, none⟩), .pointer (some ⟨pS, 0, none⟩), .pointer (some ⟨pA, 0, none⟩)]
abbrev argsN (k : Int) (pE pI pS pA : Nat) : Array Value := #[.int .i64 k, .pointer (some ⟨pE, 0, none⟩), .pointer (some ⟨pI, 0, none⟩), .pointer (some ⟨pS, 0, none⟩), .pointer (some ⟨pA, 0, none⟩)]
theorem outU_or (r : Int) : (r = 0 ∧ outU r = .returned (.tuple #[])) ∨ (r ≠ 0 ∧ outU r = panics r) := by
  by_cases h : r = 0
  · exact .inl ⟨h, by rw [h]; rfl⟩
  · exact .inr ⟨h, outU_n h⟩
theorem nest11_c (pE pI pS pA pk : Nat) (k r : Int) (us : List (Addr × Value)) (w : World) (h0 : 0 ≤ k) (h1 : k ≤ 100)
    (hI : Var w pI #[.func (.func 45) #[] (capsN pE pI pS pA)]) (hk : Var w pk #[.int .i64 (k + 1)])
    (H : Calls Try.prog 45 (argsN k pE pI pS pA) w fun e w' => e = outU r ∧ Below w.heap.size (sets w us) w') :
    Calls Try.prog 46 #[.pointer (some ⟨pI, 0, none⟩), .pointer (some ⟨pk, 0, none⟩)] w fun e w' => e = outU r ∧ Below w.heap.size (sets w us) w' := by
  have q1 := hI.c 0 _ rfl
  have q2 := hk.c 0 _ rfl
  have HH := Lib.hid H
  clear H hI hk
  rcases outU_or r with ⟨hr, ho⟩ | ⟨hr, ho⟩
  · have HO := Lib.hid ho
    clear ho hr
    go_enter Try.func46, Try.ntmps46
    go_wp2_with fail
    refine HH.out.mono ?_
    rintro en w1 ⟨he, hb⟩
    rw [HO.out] at he
    subst he
    have HB := Lib.hid hb
    clear hb
    go_wp2_with fail
    exact bodyPost_end (v := .tuple #[]) (by first | rfl | kernel_rfl | simp [results, go_sem]) rfl ⟨HO.out.symm, HB.out⟩
  · have HO := Lib.hid ho
    clear ho hr
    go_enter Try.func46, Try.ntmps46
    go_wp2_with fail
    refine HH.out.mono ?_
    rintro en w1 ⟨he, hb⟩
    rw [HO.out] at he
    subst he
    exact ⟨rfl, HO.out.symm, hb⟩
theorem nest2_c (pE pI pS pA pk : Nat) (k r : Int) (us : List (Addr × Value)) (w : World)
    (hI : Var w pI #[.func (.func 45) #[] (capsN pE pI pS pA)]) (hk : Var w pk #[.int .i64 k])
    (H : Calls Try.prog 45 (argsN k pE pI pS pA) w fun e w' => e = outU r ∧ Below w.heap.size (sets w us) w') :
    Calls Try.prog 47 #[.pointer (some ⟨pI, 0, none⟩), .pointer (some ⟨pk, 0, none⟩)] w fun e w' => e = outU r ∧ Below w.heap.size (sets w us) w' := by
  have q1 := hI.c 0 _ rfl
  have q2 := hk.c 0 _ rfl
  have HH := Lib.hid H
  clear H hI hk
  rcases outU_or r with ⟨hr, ho⟩ | ⟨hr, ho⟩
  · have HO := Lib.hid ho
    clear ho hr
    go_enter Try.func47, Try.ntmps47
    go_wp2_with fail
    refine HH.out.mono ?_
    rintro en w1 ⟨he, hb⟩
    rw [HO.out] at he
    subst he
    have HB := Lib.hid hb
    clear hb
    go_wp2_with fail
    exact bodyPost_end (v := .tuple #[]) (by first | rfl | kernel_rfl | simp [results, go_sem]) rfl ⟨HO.out.symm, HB.out⟩
  · have HO := Lib.hid ho
    clear ho hr
    go_enter Try.func47, Try.ntmps47
    go_wp2_with fail
    refine HH.out.mono ?_
    rintro en w1 ⟨he, hb⟩
    rw [HO.out] at he
    subst he
    exact ⟨rfl, HO.out.symm, hb⟩
/-- The variables of CalcNested. -/
structure NestVars (w : World) (pE pI pS pA : Nat) (E s : Int) (again : Bool) : Prop where
  e : Var w pE #[.int .i64 E]
  i : Var w pI #[.func (.func 45) #[] (capsN pE pI pS pA)]
  s : Var w pS #[.int .i64 s]
  a : Var w pA #[.bool again]
  n1 : pE ≠ pS
  n2 : pI ≠ pS
  n3 : pA ≠ pS
theorem NestVars.mono {w w' : World} {pE pI pS pA : Nat} {E s : Int} {again : Bool} (h : NestVars w pE pI pS pA E s again) (k : Below w.heap.size w w') : NestVars w' pE pI pS pA E s again :=
  ⟨h.e.mono k, h.i.mono k, h.s.mono k, h.a.mono k, h.n1, h.n2, h.n3⟩
theorem NestVars.set {w w' : World} {pE pI pS pA : Nat} {E s s' : Int} {again : Bool} (h : NestVars w pE pI pS pA E s again) (k : Below w.heap.size (sets w (usI pS (.ok s'))) w') : NestVars w' pE pI pS pA E s' again :=
  ⟨Var.mono' (h.e.far _ _ (Ne.symm h.n1)) (setCell_size _ _ _) k, Var.mono' (h.i.far _ _ (Ne.symm h.n2)) (setCell_size _ _ _) k, Var.mono' (var_setI h.s _) (setCell_size _ _ _) k, Var.mono' (h.a.far _ _ (Ne.symm h.n3)) (setCell_size _ _ _) k, h.n1, h.n2, h.n3⟩
/-- One step of the descent, given what the Try within tells. -/
theorem nest_step (pE pI pS pA : Nat) (E : Int) (hE : 1 ≤ E ∧ E ≤ 1000) (again : Bool) (k s s1 r : Int) (h0 : 0 ≤ k) (h1 : k ≤ 100) (hs : 0 ≤ s1 ∧ s1 ≤ 1000) (hr : r = 0 ∨ r = E) (w : World) (hv : NestVars w pE pI pS pA E s again)
    (H : ∀ w1, NestVars w1 pE pI pS pA E s again → Calls Try.prog 45 (argsN k pE pI pS pA) w1 fun e w' => e = outU r ∧ Below w1.heap.size (sets w1 (usI pS (.ok s1))) w') :
    Calls Try.prog 45 (argsN (k + 1) pE pI pS pA) w fun e w' => e = outU (if r = 0 then 0 else if again then E else 0) ∧ Below w.heap.size (sets w (usI pS (.ok (if r = 0 then s1 else s1 + 1)))) w' := by
  have hk1 : ¬ k + 1 = 0 := by omega
  have hkb := beq_eq_false_iff_ne.2 hk1
  have HV := Lib.hid hv
  have HH := Lib.hid H
  clear H hv hk1
  have hT : ∀ w0 : World, w0 = w.alloc (.cells #[.int .i64 (k + 1)] 3) → Calls Try.prog 17 #[.func (.func 46) #[] #[.pointer (some ⟨pI, 0, none⟩), .pointer (some ⟨w.heap.size, 0, none⟩)]] w0
      fun e w' => e = .returned (.int .i64 r) ∧ Below w0.heap.size (sets w0 (usI pS (.ok s1))) w' := by
    rintro w0 rfl
    have hv0 := HV.out.mono ((Below.refl _ _).alloc (Nat.le_refl _) (.cells #[.int .i64 (k + 1)] 3))
    have hk0 : Var (w.alloc (.cells #[.int .i64 (k + 1)] 3)) w.heap.size #[.int .i64 (k + 1)] := var_alloc _ _ _
    refine try_c _ _ _ r (usI pS (.ok s1)) (fun _ => rfl) (fun u hu => by rw [usI_block hu]; exact hv0.s.lt) ?_
    intro w1 hb
    have hv1 := hv0.mono hb
    exact nest11_c pE pI pS pA w.heap.size k r _ w1 h0 h1 hv1.i (hk0.mono hb) (HH.out w1 hv1)
  have HT := Lib.hid (hT _ rfl)
  clear hT
  have hfin : ∀ w2, Below (w.alloc (.cells #[.int .i64 (k + 1)] 3)).heap.size (sets (w.alloc (.cells #[.int .i64 (k + 1)] 3)) (usI pS (.ok s1))) w2 →
      NestVars w2 pE pI pS pA E s1 again ∧ Below w.heap.size (sets w (usI pS (.ok s1))) w2 ∧ Below w.heap.size (sets w (usI pS (.ok (s1 + 1)))) (w2.setCell ⟨pS, 0, none⟩ (.int .i64 (s1 + 1))) := by
    intro w2 hb
    have ba := (Below.refl w.heap.size w).alloc (Nat.le_refl _) (.cells #[.int .i64 (k + 1)] 3)
    have hv0 := HV.out.mono ba
    have b1 : Below w.heap.size (sets w (usI pS (.ok s1))) w2 := (below_sets (usI pS (.ok s1)) ba (fun u hu => by rw [usI_block hu]; exact HV.out.s.lt)).trans (hb.mono (by simp))
    refine ⟨hv0.set hb, b1, ?_⟩
    have b2 := below_setCell_both b1 ⟨pS, 0, none⟩ HV.out.s.lt (.int .i64 (s1 + 1))
    have e2 : (sets w (usI pS (.ok s1))).setCell ⟨pS, 0, none⟩ (.int .i64 (s1 + 1)) = sets w (usI pS (.ok (s1 + 1))) := setCell_twice w _ _ _
    rw [e2] at b2
    exact b2
  have HF := Lib.hid hfin
  clear hfin
  have ws : IntKind.i64.wrap (s1 + 1) = s1 + 1 := IntWalk.i64_in _ (by omega)
  rcases hr with rfl | rfl
  · rw [if_pos rfl, if_pos rfl]
    go_enter Try.func45, Try.ntmps45
    go_wp2_with fail
    refine HT.out.mono ?_
    rintro en w2 ⟨rfl, hb⟩
    have HB := Lib.hid (HF.out _ hb).2.1
    clear hb
    go_wp2_with fail
    exact bodyPost_end (v := .tuple #[]) (by first | rfl | kernel_rfl | simp [results, go_sem]) rfl ⟨rfl, HB.out⟩
  · have hr0 : ¬ r = 0 := by omega
    have hrb := bne_iff_ne.2 hr0
    rw [if_neg hr0, if_neg hr0]
    have HE := Lib.hid hr0
    clear hr0
    cases again
    · rw [show outU (if false = true then r else 0) = .returned (.tuple #[]) from rfl]
      go_enter Try.func45, Try.ntmps45
      go_wp2_with fail
      refine HT.out.mono ?_
      rintro en w2 ⟨rfl, hb⟩
      have HB := Lib.hid (HF.out _ hb).2.2
      have v := (HF.out _ hb).1
      have c1 := v.s.c 0 _ rfl
      have c2 := v.s.2.2 0
      have c3 := v.a.c 0 _ rfl
      have c4 : (w2.setCell ⟨pS, 0, none⟩ (.int .i64 (s1 + 1))).cell? ⟨pA, 0, none⟩ = some (.bool false) := (v.a.far ⟨pS, 0, none⟩ (.int .i64 (s1 + 1)) (Ne.symm v.n3)).c 0 _ rfl
      clear hb v
      go_wp2_with fail
      exact bodyPost_end (v := .tuple #[]) (by first | rfl | kernel_rfl | simp [results, go_sem]) rfl ⟨rfl, HB.out⟩
    · rw [show outU (if true = true then r else 0) = panics r from outU_n HE.out]
      go_enter Try.func45, Try.ntmps45
      go_wp2_with fail
      refine HT.out.mono ?_
      rintro en w2 ⟨rfl, hb⟩
      have HB := Lib.hid (HF.out _ hb).2.2
      have v := (HF.out _ hb).1
      have c1 := v.s.c 0 _ rfl
      have c2 := v.s.2.2 0
      have c4 : (w2.setCell ⟨pS, 0, none⟩ (.int .i64 (s1 + 1))).cell? ⟨pA, 0, none⟩ = some (.bool true) := (v.a.far ⟨pS, 0, none⟩ (.int .i64 (s1 + 1)) (Ne.symm v.n3)).c 0 _ rfl
      clear hb v
      go_wp2_with fail
      exact ⟨rfl, rfl, HB.out⟩
theorem nest_base (pE pI pS pA : Nat) (E : Int) (hE : 1 ≤ E ∧ E ≤ 1000) (again : Bool) (s : Int) (w : World) (hv : NestVars w pE pI pS pA E s again) :
    Calls Try.prog 45 (argsN 0 pE pI pS pA) w fun e w' => e = outU E ∧ Below w.heap.size (sets w (usI pS (.ok s))) w' := by
  rw [outU_n (show E ≠ 0 by omega), show sets w (usI pS (.ok s)) = w from setCell_self (hv.s.c 0 _ rfl)]
  have q := hv.e.c 0 _ rfl
  have q' : (w.alloc (.cells #[.int .i64 0] 3)).cell? ⟨pE, 0, none⟩ = some (.int .i64 E) := (hv.e.alloc _).c 0 _ rfl
  have HB := Lib.hid ((Below.refl w.heap.size w).alloc (Nat.le_refl _) (.cells #[.int .i64 0] 3))
  clear hv
  unfold panics fault
  go_enter Try.func45, Try.ntmps45
  go_wp2_with fail
  exact ⟨rfl, rfl, HB.out⟩
def rcN (again : Bool) (E : Int) (k : Nat) : Int := if k = 0 ∨ again = true then E else 0
def snN (again : Bool) (s : Int) (k : Nat) : Int := if k = 0 then s else if again then s + k else s + 1
theorem nest_c (pE pI pS pA : Nat) (E : Int) (hE : 1 ≤ E ∧ E ≤ 1000) (again : Bool) (s : Int) (hs : 0 ≤ s ∧ s ≤ 100) : ∀ (k : Nat), k ≤ 20 → ∀ w, NestVars w pE pI pS pA E s again →
    Calls Try.prog 45 (argsN k pE pI pS pA) w fun e w' => e = outU (rcN again E k) ∧ Below w.heap.size (sets w (usI pS (.ok (snN again s k)))) w' := by
  intro k
  induction k with
  | zero => exact fun _ w hv => nest_base pE pI pS pA E hE again s w hv
  | succ k ih =>
    intro hk w hv
    have hb : 0 ≤ snN again s k ∧ snN again s k ≤ 1000 := by unfold snN; split; omega; split <;> omega
    have hr : rcN again E k = 0 ∨ rcN again E k = E := by unfold rcN; split; exact .inr rfl; exact .inl rfl
    have st := nest_step pE pI pS pA E hE again k s (snN again s k) (rcN again E k) (by omega) (by omega) hb hr w hv (fun w1 h => ih (by omega) w1 h)
    have e1 : (if rcN again E k = 0 then (0 : Int) else if again then E else 0) = rcN again E (k + 1) := by
      unfold rcN; cases again
      · by_cases h : k = 0
        · subst h; simp <;> omega
        · simp [h]
      · simp <;> omega
    have e2 : (if rcN again E k = 0 then snN again s k else snN again s k + 1) = snN again s (k + 1) := by
      unfold rcN snN; cases again
      · by_cases h : k = 0
        · subst h; simp <;> omega
        · simp [h]
      · by_cases h : k = 0
        · subst h; simp <;> omega
        · simp [h] <;> (try split) <;> omega
    rw [e1, e2] at st
    exact st
end Go.Proofs.Ytcaibieaobhheaa
