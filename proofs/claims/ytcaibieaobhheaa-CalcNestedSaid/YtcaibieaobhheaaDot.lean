/- Sums of products. -/
import Derived.Test.YtcaibieaobhheaaCalc
import Derived.Test.YtcaibieaobhheaaDotMath
import Derived.Deep.RegionWith
import Derived.Deep.AppendLies
import Derived.Deep.RegionHeld
namespace Go.Proofs.Ytcaibieaobhheaa
open Go.RowKit M
set_option maxRecDepth 100000
set_option maxHeartbeats 2000000
set_option linter.unusedVariables false

/-- A slice's numbers in a world: at plain addresses of one block. -/
def Row (w : World) (oa : Option Addr) (xs : List Int) : Prop :=
  ∀ i x, xs[i]? = some x → ∃ b o, oa = some ⟨b, o, none⟩ ∧ w.cell? ⟨b, o + i, none⟩ = some (.int .i64 x) ∧ I64 x

theorem dotR_drop (xs ys : List Int) (i : Nat) (s : Int) (x y : Int) (hx : xs[i]? = some x) (hy : ys[i]? = some y) :
    dotR (xs.drop i) (ys.drop i) s = if (mulR x y).2 = 0 then (if (addR s (mulR x y).1).2 = 0 then dotR (xs.drop (i + 1)) (ys.drop (i + 1)) (addR s (mulR x y).1).1 else (s, (addR s (mulR x y).1).2)) else (s, (mulR x y).2) := by
  obtain ⟨h1, rfl⟩ := List.getElem?_eq_some_iff.1 hx
  obtain ⟨h2, rfl⟩ := List.getElem?_eq_some_iff.1 hy
  rw [List.drop_eq_getElem_cons h1, List.drop_eq_getElem_cons h2, dotR]

theorem setCell_twice (w : World) (p : Addr) (u v : Value) : (w.setCell p u).setCell p v = w.setCell p v := by
  have e : ((w.setCell p u).setCell p v).heap = (w.setCell p v).heap := by
    unfold World.setCell
    apply Array.ext_getElem?
    intro i
    rw [Array.getElem?_modify, Array.getElem?_modify, Array.getElem?_modify]
    split
    · cases ho : w.heap[i]? with
      | none => rfl
      | some o =>
        cases o with
        | cells c elem fr =>
          simp only [Option.map_some]
          split
          · rfl
          · simp [Array.setIfInBounds_setIfInBounds]
        | _ => rfl
    · rfl
  exact congrArg (fun h : Array Obj => ({ w with heap := h } : World)) e

theorem dot1_c (ba bs bb : Nat) (xs ys : List Int) (oa ob : Option Addr) (ca cb : Nat) (s0 : Int) (w : World)
    (h1 : w.cell? ⟨ba, 0, none⟩ = some (.slice oa xs.length ca)) (h2 : w.cell? ⟨bb, 0, none⟩ = some (.slice ob ys.length cb))
    (h3 : w.cell? ⟨bs, 0, none⟩ = some (.int .i64 s0)) (hfs : w.frozen? ⟨bs, 0, none⟩ = false)
    (ha : Row w oa xs) (hb : Row w ob ys) (hl : xs.length = ys.length) (hl2 : xs.length < 9223372036854775807) (hs0 : I64 s0)
    (n1 : ba ≠ bs) (n2 : bb ≠ bs) (na : ∀ (i : Nat) (x : Int) (b o : Nat), xs[i]? = some x → oa = some ⟨b, o, none⟩ → b ≠ bs) (nb : ∀ (i : Nat) (x : Int) (b o : Nat), ys[i]? = some x → ob = some ⟨b, o, none⟩ → b ≠ bs) :
    Calls Try.prog 126 #[.pointer (some ⟨ba, 0, none⟩), .pointer (some ⟨bs, 0, none⟩), .pointer (some ⟨bb, 0, none⟩)] w fun en w' =>
      en = outU (dotR xs ys s0).2 ∧ ∃ n, w' = (w.setCell ⟨bs, 0, none⟩ (.int .i64 (dotR xs ys s0).1)).drewN n := by
  have hw0 : w.setCell ⟨bs, 0, none⟩ (.int .i64 s0) = w := setCell_self h3
  have H1 := Lib.hid ha; have H2 := Lib.hid hb; have NA := Lib.hid na; have NB := Lib.hid nb; have HL := Lib.hid hl; have HL2 := Lib.hid hl2
  have HW := Lib.hid hw0
  have HS := Lib.hid hs0
  clear ha hb na nb hl hl2 hw0 hs0
  go_enter Try.func126, Try.ntmps126
  go_wp2_with fail
  go_loopw [7] (fun a w' => ∃ (i : Nat) (s : Int), a = .int .i64 i ∧ i ≤ xs.length ∧ I64 s ∧ dotR xs ys s0 = dotR (xs.drop i) (ys.drop i) s ∧ ∃ n, w' = (w.setCell ⟨bs, 0, none⟩ (.int .i64 s)).drewN n) (fun a _ => (xs.length - intOf a).toNat)
  case atStart => exact ⟨0, s0, rfl, Nat.zero_le _, HS.out, rfl, 0, HW.out.symm⟩
  case round =>
    obtain ⟨i, s, rfl, hi, hs, hd, n, rfl⟩ := hrel
    by_cases hlt : i < xs.length
    · have ex : xs[i]? = some xs[i] := List.getElem?_eq_getElem hlt
      have ey : ys[i]? = some (ys[i]'(by rw [← HL.out]; exact hlt)) := List.getElem?_eq_getElem _
      rw [dotR_drop xs ys i s _ _ ex ey] at hd
      obtain ⟨b, o, rfl, x1, x2⟩ := H1.out i _ ex
      obtain ⟨b', o', rfl, y1, y2⟩ := H2.out i _ ey
      have k1 := NA.out i _ _ _ ex rfl
      have k2 := NB.out i _ _ _ ey rfl
      generalize hX : xs[i] = x at *
      generalize ys[i]'(by rw [← HL.out]; exact hlt) = y at *
      have c1 := calcMul_c x y x2 y2
      generalize hm : mulR x y = m at *
      obtain ⟨m, e⟩ := m
      have hlt' : (i : Int) < (xs.length : Int) := by omega
      have HD := Lib.hid hd
      have C1 := Lib.hid c1
      clear hd c1
      have q0 : ((w.setCell ⟨bs, 0, none⟩ (.int .i64 s)).cell? ⟨bs, 0, none⟩) = some (.int .i64 s) := World.cell?_setCell_same _ _ _ h3
      have q1 : ((w.setCell ⟨bs, 0, none⟩ (.int .i64 s)).cell? ⟨b, o + i, none⟩) = some (.int .i64 x) := by
        rw [World.cell?_setCell_far _ _ _ _ (Ne.symm k1)]; exact x1
      have q2 : ((w.setCell ⟨bs, 0, none⟩ (.int .i64 s)).cell? ⟨b', o' + i, none⟩) = some (.int .i64 y) := by
        rw [World.cell?_setCell_far _ _ _ _ (Ne.symm k2)]; exact y1
      have q3 : ((w.setCell ⟨bs, 0, none⟩ (.int .i64 s)).cell? ⟨bb, 0, none⟩) = some (.slice (some ⟨b', o', none⟩) ys.length cb) := by
        rw [World.cell?_setCell_far _ _ _ _ (Ne.symm n2)]; exact h2
      have q4 : (w.setCell ⟨bs, 0, none⟩ (.int .i64 s)).frozen? ⟨bs, 0, none⟩ = false := by rw [World.frozen?_setCell]; exact hfs
      have q5 : ∀ v, (w.setCell ⟨bs, 0, none⟩ (.int .i64 s)).setCell ⟨bs, 0, none⟩ v = w.setCell ⟨bs, 0, none⟩ v := fun v => setCell_twice _ _ _ _
      have hly : (i : Int) < (ys.length : Int) := by rw [← HL.out]; exact hlt'
      clear h3 hfs x1 y1 h2 h1
      go_upto_region 3 with fail
      generalize hWe : w.setCell ⟨bs, 0, none⟩ (.int .i64 s) = W at *
      have HWE := Lib.hid hWe
      clear hWe
      dsimp only at HD
      by_cases he : e = 0
      · subst he
        rw [outI_ok] at C1
        have hmi : I64 m := by have := mulR_i64 x y; rw [hm] at this; exact this
        have c2 := calcAdd_c s m hs hmi
        have hti := addR_i64 s m
        have hb1 : (i : Int) < 9223372036854775807 := by have := HL2.out; omega
        generalize addR s m = t at *
        obtain ⟨t, f⟩ := t
        have C2 := Lib.hid c2
        clear c2
        have ms : (xs.length - (i + 1) : Int).toNat < (xs.length - (i : Int)).toNat := by omega
        have MS := Lib.hid ms
        clear ms
        by_cases hf : f = 0
        · subst hf
          rw [outI_ok] at C2
          have hd2 : dotR xs ys s0 = dotR (xs.drop (i + 1)) (ys.drop (i + 1)) t := by simpa using HD.out
          have HD2 := Lib.hid hd2
          clear hd2 HD
          go_region_with (first
            | (go_at_call 74; refine (C1.out _).mono ?_; rintro e w' ⟨rfl, n1, rfl⟩)
            | (go_at_call 71; refine (C2.out _).mono ?_; rintro e w' ⟨rfl, n2, rfl⟩))
          all_goals
            go_wp2_with fail
            exact ⟨⟨i + 1, t, rfl, hlt, hti, HD2.out, _, rfl⟩, MS.out⟩
        · rw [outI_no hf] at C2
          have hd2 : dotR xs ys s0 = (s, f) := by have := HD.out; simpa [hf] using this
          have HD2 := Lib.hid hd2
          clear hd2 HD
          have hfin : ∀ w', Dr W w' → (panics f = outU (dotR xs ys s0).2 ∧ ∃ n, w' = (w.setCell ⟨bs, 0, none⟩ (.int .i64 (dotR xs ys s0).1)).drewN n) := by
            rintro w' ⟨k, rfl⟩
            rw [HD2.out]
            exact ⟨(if_neg hf).symm, k, by rw [HWE.out]⟩
          have FIN := Lib.hid hfin
          clear hfin
          go_region_with (first
            | (go_at_call 74; refine (C1.out _).mono ?_; rintro e w' ⟨rfl, n1, rfl⟩)
            | (go_at_call 71; refine (C2.out _).mono ?_; rintro e w' ⟨rfl, n2, rfl⟩; suffices hz : wpAny Try.prog .any #[] (fun _ _ _ => True) 0 #[] { tmps := #[], defers := [] } w from ⟨rfl, FIN.out _ (Dr.step ⟨n + 1 + n1, rfl⟩ _)⟩))
          all_goals trivial
      · rw [outI_no he] at C1
        have hd2 : dotR xs ys s0 = (s, e) := by have := HD.out; simpa [he] using this
        have HD2 := Lib.hid hd2
        clear hd2 HD
        have hfin : ∀ w', Dr W w' → (panics e = outU (dotR xs ys s0).2 ∧ ∃ n, w' = (w.setCell ⟨bs, 0, none⟩ (.int .i64 (dotR xs ys s0).1)).drewN n) := by
          rintro w' ⟨k, rfl⟩
          rw [HD2.out]
          exact ⟨(if_neg he).symm, k, by rw [HWE.out]⟩
        have FIN := Lib.hid hfin
        clear hfin
        go_region_with (first
          | (go_at_call 74; refine (C1.out _).mono ?_; rintro e w' ⟨rfl, n1, rfl⟩; suffices hz : wpAny Try.prog .any #[] (fun _ _ _ => True) 0 #[] { tmps := #[], defers := [] } w from ⟨rfl, FIN.out _ (Dr.step ⟨n + 1, rfl⟩ _)⟩))
        all_goals trivial
    · have hn : i = xs.length := by omega
      have e1 : dotR xs ys s0 = (s, 0) := by rw [hd, List.drop_eq_nil_of_le (by omega)]; rfl
      have E1 := Lib.hid e1
      clear hd e1
      subst hn
      go_wp2_with fail
      rw [E1.out]
      exact bodyPost_end (v := .tuple #[]) (by first | rfl | kernel_rfl | simp [results, go_sem]) rfl ⟨rfl, _, rfl⟩
end Go.Proofs.Ytcaibieaobhheaa
