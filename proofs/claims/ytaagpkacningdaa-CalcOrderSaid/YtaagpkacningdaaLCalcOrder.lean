/- For every list and place CalcOrder returns true: a sum's error does not hang on what stands behind it; put together differently a sum that is told is the same. -/
import Derived.Test.YtaagpkacningdaaRows
import Derived.WalkKit
import Derived.ProofKit
import Derived.OpenShut
import Derived.Test.YtaagpkacningdaaFacts
import Derived.Test.YtaagpkacningdaaArgs
import Derived.Test.YtaagpkacningdaaClo3
import Derived.Test.YtaagpkacningdaaArgsS
import Derived.Deep.DrawnRows
namespace Go.Proofs.Ytaagpkacningdaa.calcOrder
open Go.ChangeShapes Go.WideShapes Go.ChangeAt Go.RowKit M
set_option maxRecDepth 100000
set_option maxHeartbeats 8000000
set_option linter.unusedVariables false
set_option linter.unusedSimpArgs false
attribute [local go_sem ↓] Go.wp_at_zero Go.wp_at_succ
theorem own : ownKnob Try.prog.godebug = none := by kernel_rfl
theorem tmod_len (k : Int) (n : Nat) : ∃ j : Nat, j ≤ n ∧ (k.tmod ((n : Int) + 1) + (n : Int) + 1).tmod ((n : Int) + 1) = (j : Int) ∧ -(n : Int) ≤ k.tmod ((n : Int) + 1) ∧ k.tmod ((n : Int) + 1) ≤ (n : Int) := by
  have h1 := Int.tmod_lt_of_pos k (show (0 : Int) < (n : Int) + 1 by omega)
  have h2 := Int.lt_tmod_of_pos k (show (0 : Int) < (n : Int) + 1 by omega)
  have h3 := Int.tmod_nonneg ((n : Int) + 1) (show 0 ≤ k.tmod ((n : Int) + 1) + (n : Int) + 1 by omega)
  have h4 := Int.tmod_lt_of_pos (k.tmod ((n : Int) + 1) + (n : Int) + 1) (show (0 : Int) < (n : Int) + 1 by omega)
  exact ⟨((k.tmod ((n : Int) + 1) + (n : Int) + 1).tmod ((n : Int) + 1)).toNat, by omega, by omega, by omega, by omega⟩
/-- The walk: the Go text returns true; of what was there nothing turns. -/
theorem walk (w : World) (l : List Int) (ol : Option Addr) (cl : Nat) (rl : Row w ol l) (nl : l.length ≤ cl) (ml : cl < 9223372036854775808) (zl : ol = none → cl = 0) (k : Int) (hk : I64 k) :
    Calls Try.prog 17 #[.slice ol l.length cl, .int .i64 k] w fun e w' => e = .returned (.bool true) ∧ Bw w w' := by
  have c0 := Lib.hid alive3_c
  by_cases h20 : (20 : Int) < (l.length : Int)
  · clear rl zl
    go_enter Try.func17, Try.ntmps17
    go_wp2_with fail
    (with_reducible refine (c0.out _).mono ?_); rintro en w1 ⟨rfl, hb⟩
    have G1 : Below w.heap.size w w1 := Below.trans (by (repeat (with_reducible refine M.Below.drewN ?_ _)); go_grown) (hb.mono (by go_size))
    have S1 := G1.size; clear hb
    go_wp2_with fail
    go_ret
    exact ⟨rfl, by (repeat (with_reducible refine M.Below.drewN ?_ _)); go_grown⟩
  · obtain ⟨j, hj, ej, t1, t2⟩ := tmod_len k l.length
    have c1 := fun w' (hb : Bw w w') => sum_c l ol cl w' (rl.keep hb) (by omega)
    have c2 := fun w' (hb : Bw w w') => sum_c (l.take j) ol cl w' (Row.take (rl.keep hb) j) (by rw [List.length_take]; omega)
    rw [show (l.take j).length = j by rw [List.length_take]; omega] at c2
    have k1 := sumE_order (l.take j) (l.drop j)
    rw [List.take_append_drop] at k1
    have s1 := sumE_i64 (l.take j)
    have s2 := sumE_i64 (l.drop j)
    have c4 := fun (w' : World) (b : Nat) h => sum2_c b w' _ _ s1 s2 h
    have d3 : ∀ w', Bw w w' → Calls Try.prog 72 #[if cl = j then .slice ol (l.length - j) 0 else .slice (ol.map (fun x => x.add j)) (l.length - j) (cl - j)] w' fun e w'' => e = .returned (.tuple #[.int .i64 (sumE (l.drop j)).1, .int .i64 (sumE (l.drop j)).2]) ∧ Bw w' w'' := by
      intro w' hb'
      rw [show l.length - j = (l.drop j).length by rw [List.length_drop]]
      split
      · exact sum_c (l.drop j) ol 0 w' (fun i x hx => by rw [List.drop_eq_nil_of_le (by omega)] at hx; simp at hx) (by rw [List.length_drop]; omega)
      · exact sum_c (l.drop j) _ _ w' ((rl.keep hb').dropMap j) (by rw [List.length_drop]; omega)
    rcases hA : sumE l with ⟨a1, a2⟩
    rcases hB : sumE (l.take j) with ⟨b1, b2⟩
    rcases hC : sumE (l.drop j) with ⟨e1, e2⟩
    simp only [hA] at c1 k1
    simp only [hB] at c2 k1 c4 s1
    simp only [hC] at d3 k1 c4 s2
    have hw : (¬ b2 = 0 ∧ a2 = b2 ∧ a1 = 0) ∨ (a2 = 3 ∧ b2 = 0) ∨ (a2 = 0 ∧ b2 = 0 ∧ ¬ e2 = 0) ∨ (a2 = 0 ∧ b2 = 0 ∧ e2 = 0 ∧ sumE [b1, e1] = (a1, 0)) := by
      by_cases h1 : b2 = 0
      · rcases k1.2.1 h1 with h2 | h2
        · by_cases h3 : e2 = 0
          · exact .inr (.inr (.inr ⟨h2, h1, h3, k1.2.2 h1 h2 h3⟩))
          · exact .inr (.inr (.inl ⟨h2, h1, h3⟩))
        · exact .inr (.inl ⟨h2, h1⟩)
      · exact .inl ⟨h1, k1.1 h1⟩
    clear hA hB hC k1 s1 s2 rl
    by_cases hcj : cl = j
    · simp only [if_pos hcj] at d3
      subst hcj
      rw [show l.length - cl = 0 by omega] at d3
      rcases hw with ⟨g1, rfl, rfl⟩ | ⟨rfl, rfl⟩ | ⟨rfl, rfl, g1⟩ | ⟨rfl, rfl, rfl, g1⟩
      · skip
        have z1 := bne_iff_ne.2 g1; have z2 := beq_eq_false_iff_ne.2 g1
        have C1 := Lib.hid c1; have C2 := Lib.hid c2; have D3 := Lib.hid d3
        clear c1 c2 d3 c4
        go_enter Try.func17, Try.ntmps17
        go_wp2_with fail
        (with_reducible refine (c0.out _).mono ?_); rintro en w1 ⟨rfl, hb⟩
        have G1 : Below w.heap.size w w1 := Below.trans (by (repeat (with_reducible refine M.Below.drewN ?_ _)); go_grown) (hb.mono (by go_size))
        have S1 := G1.size; clear hb
        go_wp2_with fail
        (with_reducible refine (C1.out _ G1).mono ?_); rintro en w2 ⟨rfl, hb⟩
        have G2 : Below w.heap.size w w2 := Below.trans (by (repeat (with_reducible refine M.Below.drewN ?_ _)); go_grown) (hb.mono (by go_size))
        have S2 := G2.size; clear hb
        go_wp2_with fail
        (with_reducible refine (C2.out _ G2).mono ?_); rintro en w3 ⟨rfl, hb⟩
        have G3 : Below w.heap.size w w3 := Below.trans (by (repeat (with_reducible refine M.Below.drewN ?_ _)); go_grown) (hb.mono (by go_size))
        have S3 := G3.size; clear hb
        go_wp2_with fail
        (with_reducible refine (D3.out _ G3).mono ?_); rintro en w4 ⟨rfl, hb⟩
        have G4 : Below w.heap.size w w4 := Below.trans (by (repeat (with_reducible refine M.Below.drewN ?_ _)); go_grown) (hb.mono (by go_size))
        have S4 := G4.size; clear hb
        go_wp2_with fail
        go_ret
        exact ⟨rfl, by (repeat (with_reducible refine M.Below.drewN ?_ _)); go_grown⟩
      · skip
        have C1 := Lib.hid c1; have C2 := Lib.hid c2; have D3 := Lib.hid d3
        clear c1 c2 d3 c4
        go_enter Try.func17, Try.ntmps17
        go_wp2_with fail
        (with_reducible refine (c0.out _).mono ?_); rintro en w1 ⟨rfl, hb⟩
        have G1 : Below w.heap.size w w1 := Below.trans (by (repeat (with_reducible refine M.Below.drewN ?_ _)); go_grown) (hb.mono (by go_size))
        have S1 := G1.size; clear hb
        go_wp2_with fail
        (with_reducible refine (C1.out _ G1).mono ?_); rintro en w2 ⟨rfl, hb⟩
        have G2 : Below w.heap.size w w2 := Below.trans (by (repeat (with_reducible refine M.Below.drewN ?_ _)); go_grown) (hb.mono (by go_size))
        have S2 := G2.size; clear hb
        go_wp2_with fail
        (with_reducible refine (C2.out _ G2).mono ?_); rintro en w3 ⟨rfl, hb⟩
        have G3 : Below w.heap.size w w3 := Below.trans (by (repeat (with_reducible refine M.Below.drewN ?_ _)); go_grown) (hb.mono (by go_size))
        have S3 := G3.size; clear hb
        go_wp2_with fail
        (with_reducible refine (D3.out _ G3).mono ?_); rintro en w4 ⟨rfl, hb⟩
        have G4 : Below w.heap.size w w4 := Below.trans (by (repeat (with_reducible refine M.Below.drewN ?_ _)); go_grown) (hb.mono (by go_size))
        have S4 := G4.size; clear hb
        go_wp2_with fail
        go_ret
        exact ⟨rfl, by (repeat (with_reducible refine M.Below.drewN ?_ _)); go_grown⟩
      · skip
        have z1 := bne_iff_ne.2 g1; have z2 := beq_eq_false_iff_ne.2 g1
        have C1 := Lib.hid c1; have C2 := Lib.hid c2; have D3 := Lib.hid d3
        clear c1 c2 d3 c4
        go_enter Try.func17, Try.ntmps17
        go_wp2_with fail
        (with_reducible refine (c0.out _).mono ?_); rintro en w1 ⟨rfl, hb⟩
        have G1 : Below w.heap.size w w1 := Below.trans (by (repeat (with_reducible refine M.Below.drewN ?_ _)); go_grown) (hb.mono (by go_size))
        have S1 := G1.size; clear hb
        go_wp2_with fail
        (with_reducible refine (C1.out _ G1).mono ?_); rintro en w2 ⟨rfl, hb⟩
        have G2 : Below w.heap.size w w2 := Below.trans (by (repeat (with_reducible refine M.Below.drewN ?_ _)); go_grown) (hb.mono (by go_size))
        have S2 := G2.size; clear hb
        go_wp2_with fail
        (with_reducible refine (C2.out _ G2).mono ?_); rintro en w3 ⟨rfl, hb⟩
        have G3 : Below w.heap.size w w3 := Below.trans (by (repeat (with_reducible refine M.Below.drewN ?_ _)); go_grown) (hb.mono (by go_size))
        have S3 := G3.size; clear hb
        go_wp2_with fail
        (with_reducible refine (D3.out _ G3).mono ?_); rintro en w4 ⟨rfl, hb⟩
        have G4 : Below w.heap.size w w4 := Below.trans (by (repeat (with_reducible refine M.Below.drewN ?_ _)); go_grown) (hb.mono (by go_size))
        have S4 := G4.size; clear hb
        go_wp2_with fail
        go_ret
        exact ⟨rfl, by (repeat (with_reducible refine M.Below.drewN ?_ _)); go_grown⟩
      · skip
        rw [g1] at c4; have C4 := Lib.hid c4
        have C1 := Lib.hid c1; have C2 := Lib.hid c2; have D3 := Lib.hid d3
        clear c1 c2 d3 c4
        go_enter Try.func17, Try.ntmps17
        go_wp2_with fail
        (with_reducible refine (c0.out _).mono ?_); rintro en w1 ⟨rfl, hb⟩
        have G1 : Below w.heap.size w w1 := Below.trans (by (repeat (with_reducible refine M.Below.drewN ?_ _)); go_grown) (hb.mono (by go_size))
        have S1 := G1.size; clear hb
        go_wp2_with fail
        (with_reducible refine (C1.out _ G1).mono ?_); rintro en w2 ⟨rfl, hb⟩
        have G2 : Below w.heap.size w w2 := Below.trans (by (repeat (with_reducible refine M.Below.drewN ?_ _)); go_grown) (hb.mono (by go_size))
        have S2 := G2.size; clear hb
        go_wp2_with fail
        (with_reducible refine (C2.out _ G2).mono ?_); rintro en w3 ⟨rfl, hb⟩
        have G3 : Below w.heap.size w w3 := Below.trans (by (repeat (with_reducible refine M.Below.drewN ?_ _)); go_grown) (hb.mono (by go_size))
        have S3 := G3.size; clear hb
        go_wp2_with fail
        (with_reducible refine (D3.out _ G3).mono ?_); rintro en w4 ⟨rfl, hb⟩
        have G4 : Below w.heap.size w w4 := Below.trans (by (repeat (with_reducible refine M.Below.drewN ?_ _)); go_grown) (hb.mono (by go_size))
        have S4 := G4.size; clear hb
        go_wp2_with fail
        (with_reducible refine (C4.out _ _ (M.var_alloc' _ _ _ rfl)).mono ?_); rintro en w5 ⟨rfl, hb⟩
        have G5 : Below w.heap.size w w5 := Below.trans (by (repeat (with_reducible refine M.Below.drewN ?_ _)); go_grown) (hb.mono (by go_size))
        have S5 := G5.size; clear hb
        go_wp2_with fail
        go_ret
        exact ⟨rfl, by (repeat (with_reducible refine M.Below.drewN ?_ _)); go_grown⟩
    · simp only [if_neg hcj] at d3
      rcases hw with ⟨g1, rfl, rfl⟩ | ⟨rfl, rfl⟩ | ⟨rfl, rfl, g1⟩ | ⟨rfl, rfl, rfl, g1⟩
      · skip
        have z1 := bne_iff_ne.2 g1; have z2 := beq_eq_false_iff_ne.2 g1
        have C1 := Lib.hid c1; have C2 := Lib.hid c2; have D3 := Lib.hid d3
        clear c1 c2 d3 c4
        go_enter Try.func17, Try.ntmps17
        go_wp2_with fail
        (with_reducible refine (c0.out _).mono ?_); rintro en w1 ⟨rfl, hb⟩
        have G1 : Below w.heap.size w w1 := Below.trans (by (repeat (with_reducible refine M.Below.drewN ?_ _)); go_grown) (hb.mono (by go_size))
        have S1 := G1.size; clear hb
        go_wp2_with fail
        (with_reducible refine (C1.out _ G1).mono ?_); rintro en w2 ⟨rfl, hb⟩
        have G2 : Below w.heap.size w w2 := Below.trans (by (repeat (with_reducible refine M.Below.drewN ?_ _)); go_grown) (hb.mono (by go_size))
        have S2 := G2.size; clear hb
        go_wp2_with fail
        (with_reducible refine (C2.out _ G2).mono ?_); rintro en w3 ⟨rfl, hb⟩
        have G3 : Below w.heap.size w w3 := Below.trans (by (repeat (with_reducible refine M.Below.drewN ?_ _)); go_grown) (hb.mono (by go_size))
        have S3 := G3.size; clear hb
        go_wp2_with fail
        (with_reducible refine (D3.out _ G3).mono ?_); rintro en w4 ⟨rfl, hb⟩
        have G4 : Below w.heap.size w w4 := Below.trans (by (repeat (with_reducible refine M.Below.drewN ?_ _)); go_grown) (hb.mono (by go_size))
        have S4 := G4.size; clear hb
        go_wp2_with fail
        go_ret
        exact ⟨rfl, by (repeat (with_reducible refine M.Below.drewN ?_ _)); go_grown⟩
      · skip
        have C1 := Lib.hid c1; have C2 := Lib.hid c2; have D3 := Lib.hid d3
        clear c1 c2 d3 c4
        go_enter Try.func17, Try.ntmps17
        go_wp2_with fail
        (with_reducible refine (c0.out _).mono ?_); rintro en w1 ⟨rfl, hb⟩
        have G1 : Below w.heap.size w w1 := Below.trans (by (repeat (with_reducible refine M.Below.drewN ?_ _)); go_grown) (hb.mono (by go_size))
        have S1 := G1.size; clear hb
        go_wp2_with fail
        (with_reducible refine (C1.out _ G1).mono ?_); rintro en w2 ⟨rfl, hb⟩
        have G2 : Below w.heap.size w w2 := Below.trans (by (repeat (with_reducible refine M.Below.drewN ?_ _)); go_grown) (hb.mono (by go_size))
        have S2 := G2.size; clear hb
        go_wp2_with fail
        (with_reducible refine (C2.out _ G2).mono ?_); rintro en w3 ⟨rfl, hb⟩
        have G3 : Below w.heap.size w w3 := Below.trans (by (repeat (with_reducible refine M.Below.drewN ?_ _)); go_grown) (hb.mono (by go_size))
        have S3 := G3.size; clear hb
        go_wp2_with fail
        (with_reducible refine (D3.out _ G3).mono ?_); rintro en w4 ⟨rfl, hb⟩
        have G4 : Below w.heap.size w w4 := Below.trans (by (repeat (with_reducible refine M.Below.drewN ?_ _)); go_grown) (hb.mono (by go_size))
        have S4 := G4.size; clear hb
        go_wp2_with fail
        go_ret
        exact ⟨rfl, by (repeat (with_reducible refine M.Below.drewN ?_ _)); go_grown⟩
      · skip
        have z1 := bne_iff_ne.2 g1; have z2 := beq_eq_false_iff_ne.2 g1
        have C1 := Lib.hid c1; have C2 := Lib.hid c2; have D3 := Lib.hid d3
        clear c1 c2 d3 c4
        go_enter Try.func17, Try.ntmps17
        go_wp2_with fail
        (with_reducible refine (c0.out _).mono ?_); rintro en w1 ⟨rfl, hb⟩
        have G1 : Below w.heap.size w w1 := Below.trans (by (repeat (with_reducible refine M.Below.drewN ?_ _)); go_grown) (hb.mono (by go_size))
        have S1 := G1.size; clear hb
        go_wp2_with fail
        (with_reducible refine (C1.out _ G1).mono ?_); rintro en w2 ⟨rfl, hb⟩
        have G2 : Below w.heap.size w w2 := Below.trans (by (repeat (with_reducible refine M.Below.drewN ?_ _)); go_grown) (hb.mono (by go_size))
        have S2 := G2.size; clear hb
        go_wp2_with fail
        (with_reducible refine (C2.out _ G2).mono ?_); rintro en w3 ⟨rfl, hb⟩
        have G3 : Below w.heap.size w w3 := Below.trans (by (repeat (with_reducible refine M.Below.drewN ?_ _)); go_grown) (hb.mono (by go_size))
        have S3 := G3.size; clear hb
        go_wp2_with fail
        (with_reducible refine (D3.out _ G3).mono ?_); rintro en w4 ⟨rfl, hb⟩
        have G4 : Below w.heap.size w w4 := Below.trans (by (repeat (with_reducible refine M.Below.drewN ?_ _)); go_grown) (hb.mono (by go_size))
        have S4 := G4.size; clear hb
        go_wp2_with fail
        go_ret
        exact ⟨rfl, by (repeat (with_reducible refine M.Below.drewN ?_ _)); go_grown⟩
      · skip
        rw [g1] at c4; have C4 := Lib.hid c4
        have C1 := Lib.hid c1; have C2 := Lib.hid c2; have D3 := Lib.hid d3
        clear c1 c2 d3 c4
        go_enter Try.func17, Try.ntmps17
        go_wp2_with fail
        (with_reducible refine (c0.out _).mono ?_); rintro en w1 ⟨rfl, hb⟩
        have G1 : Below w.heap.size w w1 := Below.trans (by (repeat (with_reducible refine M.Below.drewN ?_ _)); go_grown) (hb.mono (by go_size))
        have S1 := G1.size; clear hb
        go_wp2_with fail
        (with_reducible refine (C1.out _ G1).mono ?_); rintro en w2 ⟨rfl, hb⟩
        have G2 : Below w.heap.size w w2 := Below.trans (by (repeat (with_reducible refine M.Below.drewN ?_ _)); go_grown) (hb.mono (by go_size))
        have S2 := G2.size; clear hb
        go_wp2_with fail
        (with_reducible refine (C2.out _ G2).mono ?_); rintro en w3 ⟨rfl, hb⟩
        have G3 : Below w.heap.size w w3 := Below.trans (by (repeat (with_reducible refine M.Below.drewN ?_ _)); go_grown) (hb.mono (by go_size))
        have S3 := G3.size; clear hb
        go_wp2_with fail
        (with_reducible refine (D3.out _ G3).mono ?_); rintro en w4 ⟨rfl, hb⟩
        have G4 : Below w.heap.size w w4 := Below.trans (by (repeat (with_reducible refine M.Below.drewN ?_ _)); go_grown) (hb.mono (by go_size))
        have S4 := G4.size; clear hb
        go_wp2_with fail
        (with_reducible refine (C4.out _ _ (M.var_alloc' _ _ _ rfl)).mono ?_); rintro en w5 ⟨rfl, hb⟩
        have G5 : Below w.heap.size w w5 := Below.trans (by (repeat (with_reducible refine M.Below.drewN ?_ _)); go_grown) (hb.mono (by go_size))
        have S5 := G5.size; clear hb
        go_wp2_with fail
        go_ret
        exact ⟨rfl, by (repeat (with_reducible refine M.Below.drewN ?_ _)); go_grown⟩

theorem lifted (os : Os) (started : os.Started) (H : Type) (enc : TypeId × Value → H) :
    ReturnsInHanded {} Try.checked os 17 .any (Rows.calcOrderSpec.pre6 enc Try.prog Try.f17 Rows.calcOrderRow.domain false) (Rows.calcOrderSpec.post enc Try.prog Try.f17 false true false false) := by
  refine returnsInHanded_of_change (C := Try.checked) own started (by kernel_rfl) Try.func17
    (ChangeSpec.witness6 (enc := enc) (C := Try.checked) false ⟨#[], #[.slice none 0 0, .int .i64 0], []⟩ 8 (by kernel_rfl) (by kernel_rfl) (by kernel_rfl) (by kernel_rfl)) ?_
  intro W base args ds gs before hval0 hW hcnd _
  have hval : ∀ (j : Nat) t v, Try.f17.params[j]? = some t → args[j]? = some v → Value.okWide Try.prog W .any base t v := hval0
  have hW' := hW
  obtain ⟨p, q, hA0, hV, rfl, hfz, hnd⟩ := hW
  have hA : DataW.TrodAll enc Try.prog W 0 (fun _ => true) true Try.f17.params.toList args.toList ds p := hA0
  rw [Try.params17] at hA hval
  obtain ⟨v0, vs0, d0, ds0, p0, q0, hargs, rfl, rfl, h0, r0⟩ := trodAll_cons hA
  obtain ⟨v1, vs1, d1, ds1, p1, q1, rfl, rfl, rfl, h1, r1⟩ := trodAll_cons r0
  obtain ⟨rfl, rfl, rfl⟩ := trodAll_nil r1
  obtain rfl : args = #[v0, v1] := by cases args; simp_all
  obtain ⟨rfl, rfl⟩ := trodVars_none hV
  obtain ⟨ol, cl, l, rfl, Rl, Nl, Ml, Zl⟩ := open_row (hval 0 56 v0 rfl rfl) h0
  obtain ⟨k, rfl, rfl, rfl, wk⟩ := open_int Try.underlying3 (hval 1 3 v1 rfl rfl) h1
  clear hA0 hval0
  have hW2 := Lib.hid hW'
  refine (walk W l ol cl Rl Nl Ml Zl k (i64_wf wk)).mono fun e W' ⟨he, hg⟩ => ?_
  subst he
  exact ⟨_, rfl, post_below (pa := _) (pv := []) hW2.out (fun _ _ _ => (trodAll_cons_mk (shut_bool Try.underlying4 _) trodAll_mk0)) (fun sp hsp => (trodAll_cons_mk (keep_row h0 hg (fun x hx => hW2.out.lt x (by simp [hx])) (fun x hx => hsp x (by simp [hx]))) (trodAll_cons_mk (shut_int Try.underlying3 wk) trodAll_mk0))) (fun _ _ => rfl) rfl
    hg (ok_one (by kernel_rfl) rfl (okWide_bool_mk Try.underlying4 _))⟩

theorem closed : joinedFacts Try.prog 17 Try.f17 Rows.calcOrderSpec Rows.calcOrderRow = true := by
  unfold joinedFacts
  rw [fact_laid, fact_maps, fact_keys, fact_heard, fact_stops, fact_knobs, fact_enter, fact_lifts, fact_make]
  kernel_rfl

theorem over : Rows.calcOrderRow.holds Try.pinned (OpenSpec.ofChange Rows.calcOrderSpec) :=
  OpenClaim.holds_of_wide 17 Try.f17 rfl rfl rfl rfl rfl rfl rfl ⟨rfl, rfl, rfl, rfl, rfl⟩ rfl rfl rfl rfl rfl (by kernel_rfl) Try.func17 closed
    (of_decide_eq_true (by kernel_rfl)) (by unfold Func.isWrapper; first | (rw [if_pos (by decide +kernel)]; kernel_rfl) | (rw [if_neg (by decide +kernel)]; exact ⟨rfl, rfl⟩))
    (fun os started H enc _ => lifted os started H enc)

/-- The statement. -/
theorem proved : Rows.CalcOrderSaid :=
  over
#print axioms proved
end Go.Proofs.Ytaagpkacningdaa.calcOrder
