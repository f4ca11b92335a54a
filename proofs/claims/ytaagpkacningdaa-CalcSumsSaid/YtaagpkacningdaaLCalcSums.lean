/- For every two lists CalcSums returns true: of every numbers the sum, one by one, or the error; of every two lists the sum of products. -/
import Derived.Test.YtaagpkacningdaaRows
import Derived.WalkKit
import Derived.ProofKit
import Derived.OpenShut
import Derived.Test.YtaagpkacningdaaFacts
import Derived.Test.YtaagpkacningdaaArgs
import Derived.Test.YtaagpkacningdaaClo3
import Derived.Test.YtaagpkacningdaaArgsS
import Derived.Deep.DrawnRows
namespace Go.Proofs.Ytaagpkacningdaa.calcSums
open Go.ChangeShapes Go.WideShapes Go.ChangeAt Go.RowKit M
set_option maxRecDepth 100000
set_option maxHeartbeats 8000000
set_option linter.unusedVariables false
set_option linter.unusedSimpArgs false
attribute [local go_sem ↓] Go.wp_at_zero Go.wp_at_succ
theorem own : ownKnob Try.prog.godebug = none := by kernel_rfl

/-- The walk: the Go text returns true; of what was there nothing turns. -/
theorem walk (w : World) (a : List Int) (oa : Option Addr) (ca : Nat) (ra : Row w oa a) (na : a.length ≤ ca) (ma : ca < 9223372036854775808) (za : oa = none → ca = 0) (b : List Int) (ob : Option Addr) (cb : Nat) (rb : Row w ob b) (nb : b.length ≤ cb) (mb : cb < 9223372036854775808) (zb : ob = none → cb = 0) :
    Calls Try.prog 14 #[.slice oa a.length ca, .slice ob b.length cb] w fun e w' => e = .returned (.bool true) ∧ Bw w w' := by
  have c0 := Lib.hid alive3_c
  by_cases g1 : (40 : Int) < (a.length : Int)
  · clear ra rb
    go_enter Try.func14, Try.ntmps14
    go_wp2_with fail
    (with_reducible refine (c0.out _).mono ?_); rintro en w1 ⟨rfl, hb⟩
    have G1 : Below w.heap.size w w1 := Below.trans (by (repeat (with_reducible refine M.Below.drewN ?_ _)); go_grown) (hb.mono (by go_size))
    have S1 := G1.size; clear hb
    go_wp2_with fail
    go_ret
    exact ⟨rfl, by (repeat (with_reducible refine M.Below.drewN ?_ _)); go_grown⟩
  by_cases g2 : (40 : Int) < (b.length : Int)
  · clear ra rb
    go_enter Try.func14, Try.ntmps14
    go_wp2_with fail
    (with_reducible refine (c0.out _).mono ?_); rintro en w1 ⟨rfl, hb⟩
    have G1 : Below w.heap.size w w1 := Below.trans (by (repeat (with_reducible refine M.Below.drewN ?_ _)); go_grown) (hb.mono (by go_size))
    have S1 := G1.size; clear hb
    go_wp2_with fail
    go_ret
    exact ⟨rfl, by (repeat (with_reducible refine M.Below.drewN ?_ _)); go_grown⟩
  have RA := Lib.hid ra; have RB := Lib.hid rb
  have c1 := fun w' (hb : Bw w w') => sum_c a oa ca w' (ra.keep hb) (by omega)
  have c2 := fun w' (hb : Bw w w') => dot_c a b oa ob ca cb w' (ra.keep hb) (rb.keep hb) (by omega) (by omega)
  have C1 := Lib.hid c1; have C2 := Lib.hid c2
  clear c1 c2 ra rb
  go_enter Try.func14, Try.ntmps14
  go_wp2_with fail
  (with_reducible refine (c0.out _).mono ?_); rintro en w1 ⟨rfl, hb⟩
  have G1 : Below w.heap.size w w1 := Below.trans (by (repeat (with_reducible refine M.Below.drewN ?_ _)); go_grown) (hb.mono (by go_size))
  have S1 := G1.size; clear hb
  go_wp2_with fail
  have HG1 := Lib.hid G1
  clear G1
  go_loopg [5, 6, 30] a.length (fun gf s5 s6 s30 wx => ∃ (i : Nat) (u e : Int), i + gf = a.length ∧ s30 = .int .i64 i ∧ s5 = .int .i64 u ∧ s6 = .int .i64 e ∧ I64 u ∧ a.foldl stepS (0, 0) = (a.drop i).foldl stepS (u, e) ∧ Bw w wx)
  case atStart => exact ⟨0, 0, 0, by omega, rfl, rfl, rfl, i64_lit (by decide), rfl, HG1.out⟩
  case round =>
    obtain ⟨i, u, e, hig, rfl, rfl, rfl, hu, hf, hbr⟩ := hrel
    cases gk with
    | zero =>
      have hin : ¬ ((i : Int) < (a.length : Int)) := by omega
      obtain rfl : i = a.length := by omega
      by_cases he : e = 0
      · subst he
        have hE : sumE a = (u, 0) := by rw [← fold_sumE, hf, List.drop_eq_nil_of_le (Nat.le_refl _), List.foldl_nil]; exact toldR_ok rfl
        have C3 := Lib.hid (show ∀ w', Bw w w' → Calls Try.prog 72 #[.slice oa a.length ca] w' fun en w'' => en = .returned (.tuple #[.int .i64 (u), .int .i64 (0)]) ∧ Bw w' w'' by have h := C1.out; rwa [hE] at h)
        have HBR := Lib.hid hbr
        clear hbr hf hE
        by_cases hl : (a.length : Int) = (b.length : Int)
        · have hl2 : a.length = b.length := by omega
          have l1 : ((a.length : Int) != (b.length : Int)) = false := by rw [hl]; simp
          rcases hD : dotE a b with ⟨d, g⟩
          have C4 := Lib.hid (show ∀ w', Bw w w' → Calls Try.prog 73 #[.slice oa a.length ca, .slice ob b.length cb] w' fun en w'' => en = .returned (.tuple #[.int .i64 d, .int .i64 g]) ∧ Bw w' w'' by have h := C2.out; rwa [hD] at h)
          rw [← fold_dotE hl2] at hD
          have HD := Lib.hid hD
          clear hD
          have HL := Lib.hid hl2
          clear hl2
          go_wp2_with fail
          (with_reducible refine (C3.out _ HBR.out).mono ?_); rintro en w2 ⟨rfl, hb2⟩
          have H2 := Lib.hid (HBR.out.trans (hb2.mono HBR.out.size)); clear hb2
          go_wp2_with fail
          (with_reducible refine (C4.out _ H2.out).mono ?_); rintro en w3 ⟨rfl, hb3⟩
          have H3 := Lib.hid (H2.out.trans (hb3.mono H2.out.size)); clear hb3
          go_wp2_with fail
          go_loopg [5, 6, 77] a.length (fun gf s5 s6 s77 wx => ∃ (i : Nat) (u e : Int), i + gf = a.length ∧ s77 = .int .i64 i ∧ s5 = .int .i64 u ∧ s6 = .int .i64 e ∧ I64 u ∧ foldD a b (0, 0) = foldD (a.drop i) (b.drop i) (u, e) ∧ Bw w wx)
          case atStart => exact ⟨0, 0, 0, by omega, rfl, rfl, rfl, i64_lit (by decide), rfl, H3.out⟩
          case round =>
            clear C3 C4 HBR
            obtain ⟨i, u, e, hig, rfl, rfl, rfl, hu, hf, hbr⟩ := hrel
            cases gk with
            | zero =>
              have hin : ¬ ((i : Int) < (a.length : Int)) := by omega
              obtain rfl : i = a.length := by omega
              have hE : (d, g) = toldR (u, e) := by rw [← HD.out, hf, List.drop_eq_nil_of_le (Nat.le_refl _)]; simp [foldD]
              have HBR := Lib.hid hbr
              clear hbr hf
              by_cases he : e = 0
              · subst he
                rw [toldR_ok rfl] at hE
                obtain ⟨rfl, rfl⟩ := Prod.mk.inj hE
                clear hE
                go_wp2_with fail
                go_ret
                exact ⟨rfl, HBR.out⟩
              · rw [toldR_err he] at hE
                obtain ⟨rfl, rfl⟩ := Prod.mk.inj hE
                have z1 := bne_iff_ne.2 he; have z2 := beq_eq_false_iff_ne.2 he
                clear hE
                go_wp2_with fail
                go_ret
                exact ⟨rfl, HBR.out⟩
            | succ gf =>
              have hin : (i : Int) < (a.length : Int) := by omega
              have hin2 : (i : Int) < (b.length : Int) := by have := HL.out; omega
              obtain ⟨x, hx⟩ : ∃ x, a[i]? = some x := ⟨_, List.getElem?_eq_getElem (by omega)⟩
              obtain ⟨y, hy⟩ : ∃ y, b[i]? = some y := ⟨_, List.getElem?_eq_getElem (by have := HL.out; omega)⟩
              obtain ⟨blk, off, rfl, hcx, ix⟩ := (RA.out.keep hbr) i x hx
              obtain ⟨blk2, off2, rfl, hcy, iy⟩ := (RB.out.keep hbr) i y hy
              rw [foldD_drop hx hy] at hf
              have HBR := Lib.hid hbr
              clear hbr
              by_cases he : e = 0
              · subst he
                have k := fixMul_c x y ix iy
                have ki := mulR_i64 x y
                rw [show stepD (u, 0) x y = (if (mulR x y).2 = 0 then addR u (mulR x y).1 else (u, (mulR x y).2)) from if_pos rfl] at hf
                rcases hr : mulR x y with ⟨m, em⟩
                rw [hr] at k hf ki
                have K := Lib.hid k
                clear k hr
                dsimp only at hf ki
                by_cases hm : em = 0
                · subst hm
                  rw [if_pos rfl] at hf
                  have k := fixAdd_c u m hu ki
                  have ti := addR_i64 u m
                  rcases hr : addR u m with ⟨t, et⟩
                  rw [hr] at k hf ti
                  have K2 := Lib.hid k; have HF := Lib.hid hf; have KI := Lib.hid ti
                  clear k hf hr ti
                  go_wp2_with fail
                  go_region_with (go_at_call 74; refine (K.out _).mono ?_; rintro en w' ⟨rfl, n1, rfl⟩)
                  all_goals
                    go_wp2_with fail
                    (with_reducible refine (K2.out _).mono ?_); rintro en w2 ⟨rfl, n2, rfl⟩
                    go_wp2_with fail
                    go_roundg gf
                    case measure => omega
                    case rel => exact ⟨i + 1, _, _, by omega, by go_num, rfl, rfl, KI.out, HF.out, HBR.out.trans ((Dr.bw ⟨_, rfl⟩).mono HBR.out.size)⟩
                · rw [if_neg hm] at hf
                  have z1 := bne_iff_ne.2 hm; have z2 := beq_eq_false_iff_ne.2 hm
                  have HF := Lib.hid hf
                  clear hf
                  go_wp2_with fail
                  go_region_with (go_at_call 74; refine (K.out _).mono ?_; rintro en w' ⟨rfl, n1, rfl⟩)
                  all_goals
                    go_wp2_with fail
                    go_roundg gf
                    case measure => omega
                    case rel => exact ⟨i + 1, _, _, by omega, by go_num, rfl, rfl, hu, HF.out, HBR.out.trans ((Dr.bw ⟨_, rfl⟩).mono HBR.out.size)⟩
              · rw [show stepD (u, e) x y = (u, e) from if_neg he] at hf
                have z1 := bne_iff_ne.2 he; have z2 := beq_eq_false_iff_ne.2 he
                have HF := Lib.hid hf
                clear hf
                go_wp2_with fail
                go_roundg gf
                case measure => omega
                case rel => exact ⟨i + 1, _, _, by omega, by go_num, rfl, rfl, hu, HF.out, HBR.out⟩
        · have l1 : ((a.length : Int) != (b.length : Int)) = true := by rw [bne_iff_ne]; exact hl
          have hD : dotE a b = (0, 9) := by unfold dotE; rw [if_neg (by omega)]
          have C4 := Lib.hid (show ∀ w', Bw w w' → Calls Try.prog 73 #[.slice oa a.length ca, .slice ob b.length cb] w' fun en w'' => en = .returned (.tuple #[.int .i64 0, .int .i64 9]) ∧ Bw w' w'' by have h := C2.out; rwa [hD] at h)
          clear hD
          go_wp2_with fail
          (with_reducible refine (C3.out _ HBR.out).mono ?_); rintro en w2 ⟨rfl, hb2⟩
          have H2 := Lib.hid (HBR.out.trans (hb2.mono HBR.out.size)); clear hb2
          go_wp2_with fail
          (with_reducible refine (C4.out _ H2.out).mono ?_); rintro en w3 ⟨rfl, hb3⟩
          have H3 := Lib.hid (H2.out.trans (hb3.mono H2.out.size)); clear hb3
          go_wp2_with fail
          go_ret
          exact ⟨rfl, H3.out⟩
      · have z1 := bne_iff_ne.2 he; have z2 := beq_eq_false_iff_ne.2 he
        have hE : sumE a = (0, e) := by rw [← fold_sumE, hf, List.drop_eq_nil_of_le (Nat.le_refl _), List.foldl_nil]; exact toldR_err he
        have C3 := Lib.hid (show ∀ w', Bw w w' → Calls Try.prog 72 #[.slice oa a.length ca] w' fun en w'' => en = .returned (.tuple #[.int .i64 (0), .int .i64 (e)]) ∧ Bw w' w'' by have h := C1.out; rwa [hE] at h)
        have HBR := Lib.hid hbr
        clear hbr hf hE
        by_cases hl : (a.length : Int) = (b.length : Int)
        · have hl2 : a.length = b.length := by omega
          have l1 : ((a.length : Int) != (b.length : Int)) = false := by rw [hl]; simp
          rcases hD : dotE a b with ⟨d, g⟩
          have C4 := Lib.hid (show ∀ w', Bw w w' → Calls Try.prog 73 #[.slice oa a.length ca, .slice ob b.length cb] w' fun en w'' => en = .returned (.tuple #[.int .i64 d, .int .i64 g]) ∧ Bw w' w'' by have h := C2.out; rwa [hD] at h)
          rw [← fold_dotE hl2] at hD
          have HD := Lib.hid hD
          clear hD
          have HL := Lib.hid hl2
          clear hl2
          go_wp2_with fail
          (with_reducible refine (C3.out _ HBR.out).mono ?_); rintro en w2 ⟨rfl, hb2⟩
          have H2 := Lib.hid (HBR.out.trans (hb2.mono HBR.out.size)); clear hb2
          go_wp2_with fail
          (with_reducible refine (C4.out _ H2.out).mono ?_); rintro en w3 ⟨rfl, hb3⟩
          have H3 := Lib.hid (H2.out.trans (hb3.mono H2.out.size)); clear hb3
          go_wp2_with fail
          go_loopg [5, 6, 77] a.length (fun gf s5 s6 s77 wx => ∃ (i : Nat) (u e : Int), i + gf = a.length ∧ s77 = .int .i64 i ∧ s5 = .int .i64 u ∧ s6 = .int .i64 e ∧ I64 u ∧ foldD a b (0, 0) = foldD (a.drop i) (b.drop i) (u, e) ∧ Bw w wx)
          case atStart => exact ⟨0, 0, 0, by omega, rfl, rfl, rfl, i64_lit (by decide), rfl, H3.out⟩
          case round =>
            clear C3 C4 HBR
            obtain ⟨i, u, e, hig, rfl, rfl, rfl, hu, hf, hbr⟩ := hrel
            cases gk with
            | zero =>
              have hin : ¬ ((i : Int) < (a.length : Int)) := by omega
              obtain rfl : i = a.length := by omega
              have hE : (d, g) = toldR (u, e) := by rw [← HD.out, hf, List.drop_eq_nil_of_le (Nat.le_refl _)]; simp [foldD]
              have HBR := Lib.hid hbr
              clear hbr hf
              by_cases he : e = 0
              · subst he
                rw [toldR_ok rfl] at hE
                obtain ⟨rfl, rfl⟩ := Prod.mk.inj hE
                clear hE
                go_wp2_with fail
                go_ret
                exact ⟨rfl, HBR.out⟩
              · rw [toldR_err he] at hE
                obtain ⟨rfl, rfl⟩ := Prod.mk.inj hE
                have z1 := bne_iff_ne.2 he; have z2 := beq_eq_false_iff_ne.2 he
                clear hE
                go_wp2_with fail
                go_ret
                exact ⟨rfl, HBR.out⟩
            | succ gf =>
              have hin : (i : Int) < (a.length : Int) := by omega
              have hin2 : (i : Int) < (b.length : Int) := by have := HL.out; omega
              obtain ⟨x, hx⟩ : ∃ x, a[i]? = some x := ⟨_, List.getElem?_eq_getElem (by omega)⟩
              obtain ⟨y, hy⟩ : ∃ y, b[i]? = some y := ⟨_, List.getElem?_eq_getElem (by have := HL.out; omega)⟩
              obtain ⟨blk, off, rfl, hcx, ix⟩ := (RA.out.keep hbr) i x hx
              obtain ⟨blk2, off2, rfl, hcy, iy⟩ := (RB.out.keep hbr) i y hy
              rw [foldD_drop hx hy] at hf
              have HBR := Lib.hid hbr
              clear hbr
              by_cases he : e = 0
              · subst he
                have k := fixMul_c x y ix iy
                have ki := mulR_i64 x y
                rw [show stepD (u, 0) x y = (if (mulR x y).2 = 0 then addR u (mulR x y).1 else (u, (mulR x y).2)) from if_pos rfl] at hf
                rcases hr : mulR x y with ⟨m, em⟩
                rw [hr] at k hf ki
                have K := Lib.hid k
                clear k hr
                dsimp only at hf ki
                by_cases hm : em = 0
                · subst hm
                  rw [if_pos rfl] at hf
                  have k := fixAdd_c u m hu ki
                  have ti := addR_i64 u m
                  rcases hr : addR u m with ⟨t, et⟩
                  rw [hr] at k hf ti
                  have K2 := Lib.hid k; have HF := Lib.hid hf; have KI := Lib.hid ti
                  clear k hf hr ti
                  go_wp2_with fail
                  go_region_with (go_at_call 74; refine (K.out _).mono ?_; rintro en w' ⟨rfl, n1, rfl⟩)
                  all_goals
                    go_wp2_with fail
                    (with_reducible refine (K2.out _).mono ?_); rintro en w2 ⟨rfl, n2, rfl⟩
                    go_wp2_with fail
                    go_roundg gf
                    case measure => omega
                    case rel => exact ⟨i + 1, _, _, by omega, by go_num, rfl, rfl, KI.out, HF.out, HBR.out.trans ((Dr.bw ⟨_, rfl⟩).mono HBR.out.size)⟩
                · rw [if_neg hm] at hf
                  have z1 := bne_iff_ne.2 hm; have z2 := beq_eq_false_iff_ne.2 hm
                  have HF := Lib.hid hf
                  clear hf
                  go_wp2_with fail
                  go_region_with (go_at_call 74; refine (K.out _).mono ?_; rintro en w' ⟨rfl, n1, rfl⟩)
                  all_goals
                    go_wp2_with fail
                    go_roundg gf
                    case measure => omega
                    case rel => exact ⟨i + 1, _, _, by omega, by go_num, rfl, rfl, hu, HF.out, HBR.out.trans ((Dr.bw ⟨_, rfl⟩).mono HBR.out.size)⟩
              · rw [show stepD (u, e) x y = (u, e) from if_neg he] at hf
                have z1 := bne_iff_ne.2 he; have z2 := beq_eq_false_iff_ne.2 he
                have HF := Lib.hid hf
                clear hf
                go_wp2_with fail
                go_roundg gf
                case measure => omega
                case rel => exact ⟨i + 1, _, _, by omega, by go_num, rfl, rfl, hu, HF.out, HBR.out⟩
        · have l1 : ((a.length : Int) != (b.length : Int)) = true := by rw [bne_iff_ne]; exact hl
          have hD : dotE a b = (0, 9) := by unfold dotE; rw [if_neg (by omega)]
          have C4 := Lib.hid (show ∀ w', Bw w w' → Calls Try.prog 73 #[.slice oa a.length ca, .slice ob b.length cb] w' fun en w'' => en = .returned (.tuple #[.int .i64 0, .int .i64 9]) ∧ Bw w' w'' by have h := C2.out; rwa [hD] at h)
          clear hD
          go_wp2_with fail
          (with_reducible refine (C3.out _ HBR.out).mono ?_); rintro en w2 ⟨rfl, hb2⟩
          have H2 := Lib.hid (HBR.out.trans (hb2.mono HBR.out.size)); clear hb2
          go_wp2_with fail
          (with_reducible refine (C4.out _ H2.out).mono ?_); rintro en w3 ⟨rfl, hb3⟩
          have H3 := Lib.hid (H2.out.trans (hb3.mono H2.out.size)); clear hb3
          go_wp2_with fail
          go_ret
          exact ⟨rfl, H3.out⟩
    | succ gf =>
      have hin : (i : Int) < (a.length : Int) := by omega
      obtain ⟨x, hx⟩ : ∃ x, a[i]? = some x := ⟨_, List.getElem?_eq_getElem (by omega)⟩
      obtain ⟨blk, off, rfl, hcx, ix⟩ := (RA.out.keep hbr) i x hx
      have hd : (a.drop i).foldl stepS (u, e) = (a.drop (i + 1)).foldl stepS (stepS (u, e) x) := by
        obtain ⟨h1, rfl⟩ := List.getElem?_eq_some_iff.1 hx
        rw [List.drop_eq_getElem_cons h1, List.foldl_cons]
      rw [hd] at hf
      have HBR := Lib.hid hbr
      clear hbr hd
      by_cases he : e = 0
      · subst he
        rw [show stepS (u, 0) x = addR u x from if_pos rfl] at hf
        have k := fixAdd_c u x hu ix
        have ki := addR_i64 u x
        rcases hr : addR u x with ⟨t, et⟩
        rw [hr] at k hf ki
        have K := Lib.hid k; have HF := Lib.hid hf; have KI := Lib.hid ki
        clear k hf hr ki
        go_wp2_with fail
        (with_reducible refine (K.out _).mono ?_); rintro en w2 ⟨rfl, n2, rfl⟩
        go_wp2_with fail
        go_roundg gf
        case measure => omega
        case rel => exact ⟨i + 1, _, _, by omega, by go_num, rfl, rfl, KI.out, HF.out, HBR.out.trans ((Dr.bw ⟨n2, rfl⟩).mono HBR.out.size)⟩
      · rw [show stepS (u, e) x = (u, e) from if_neg he] at hf
        have z1 := bne_iff_ne.2 he; have z2 := beq_eq_false_iff_ne.2 he
        have HF := Lib.hid hf
        clear hf
        go_wp2_with fail
        go_roundg gf
        case measure => omega
        case rel => exact ⟨i + 1, _, _, by omega, by go_num, rfl, rfl, hu, HF.out, HBR.out⟩

theorem lifted (os : Os) (started : os.Started) (H : Type) (enc : TypeId × Value → H) :
    ReturnsInHanded {} Try.checked os 14 .any (Rows.calcSumsSpec.pre6 enc Try.prog Try.f14 Rows.calcSumsRow.domain false) (Rows.calcSumsSpec.post enc Try.prog Try.f14 false true false false) := by
  refine returnsInHanded_of_change (C := Try.checked) own started (by kernel_rfl) Try.func14
    (ChangeSpec.witness6 (enc := enc) (C := Try.checked) false ⟨#[], #[.slice none 0 0, .slice none 0 0], []⟩ 8 (by kernel_rfl) (by kernel_rfl) (by kernel_rfl) (by kernel_rfl)) ?_
  intro W base args ds gs before hval0 hW hcnd _
  have hval : ∀ (j : Nat) t v, Try.f14.params[j]? = some t → args[j]? = some v → Value.okWide Try.prog W .any base t v := hval0
  have hW' := hW
  obtain ⟨p, q, hA0, hV, rfl, hfz, hnd⟩ := hW
  have hA : DataW.TrodAll enc Try.prog W 0 (fun _ => true) true Try.f14.params.toList args.toList ds p := hA0
  rw [Try.params14] at hA hval
  obtain ⟨v0, vs0, d0, ds0, p0, q0, hargs, rfl, rfl, h0, r0⟩ := trodAll_cons hA
  obtain ⟨v1, vs1, d1, ds1, p1, q1, rfl, rfl, rfl, h1, r1⟩ := trodAll_cons r0
  obtain ⟨rfl, rfl, rfl⟩ := trodAll_nil r1
  obtain rfl : args = #[v0, v1] := by cases args; simp_all
  obtain ⟨rfl, rfl⟩ := trodVars_none hV
  obtain ⟨oa, ca, a, rfl, Ra, Na, Ma, Za⟩ := open_row (hval 0 56 v0 rfl rfl) h0
  obtain ⟨ob, cb, b, rfl, Rb, Nb, Mb, Zb⟩ := open_row (hval 1 56 v1 rfl rfl) h1
  clear hA0 hval0
  have hW2 := Lib.hid hW'
  refine (walk W a oa ca Ra Na Ma Za b ob cb Rb Nb Mb Zb).mono fun e W' ⟨he, hg⟩ => ?_
  subst he
  exact ⟨_, rfl, post_below (pa := _) (pv := []) hW2.out (fun _ _ _ => (trodAll_cons_mk (shut_bool Try.underlying4 _) trodAll_mk0)) (fun sp hsp => (trodAll_cons_mk (keep_row h0 hg (fun x hx => hW2.out.lt x (by simp [hx])) (fun x hx => hsp x (by simp [hx]))) (trodAll_cons_mk (keep_row h1 hg (fun x hx => hW2.out.lt x (by simp [hx])) (fun x hx => hsp x (by simp [hx]))) trodAll_mk0))) (fun _ _ => rfl) rfl
    hg (ok_one (by kernel_rfl) rfl (okWide_bool_mk Try.underlying4 _))⟩

theorem closed : joinedFacts Try.prog 14 Try.f14 Rows.calcSumsSpec Rows.calcSumsRow = true := by
  unfold joinedFacts
  rw [fact_laid, fact_maps, fact_keys, fact_heard, fact_stops, fact_knobs, fact_enter, fact_lifts, fact_make]
  kernel_rfl

theorem over : Rows.calcSumsRow.holds Try.pinned (OpenSpec.ofChange Rows.calcSumsSpec) :=
  OpenClaim.holds_of_wide 14 Try.f14 rfl rfl rfl rfl rfl rfl rfl ⟨rfl, rfl, rfl, rfl, rfl⟩ rfl rfl rfl rfl rfl (by kernel_rfl) Try.func14 closed
    (of_decide_eq_true (by kernel_rfl)) (by unfold Func.isWrapper; first | (rw [if_pos (by decide +kernel)]; kernel_rfl) | (rw [if_neg (by decide +kernel)]; exact ⟨rfl, rfl⟩))
    (fun os started H enc _ => lifted os started H enc)

/-- The statement. -/
theorem proved : Rows.CalcSumsSaid :=
  over
#print axioms proved
end Go.Proofs.Ytaagpkacningdaa.calcSums
