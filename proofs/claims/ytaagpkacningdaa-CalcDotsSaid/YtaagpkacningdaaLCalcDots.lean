/- For every list CalcDots returns true: a product with ones is a sum; with zeros nothing; lists that are not as long are refused. -/
import Derived.Test.YtaagpkacningdaaRows
import Derived.WalkKit
import Derived.ProofKit
import Derived.OpenShut
import Derived.Test.YtaagpkacningdaaFacts
import Derived.Test.YtaagpkacningdaaArgs
import Derived.Test.YtaagpkacningdaaOwnS
import Derived.Deep.DrawnRows
namespace Go.Proofs.Ytaagpkacningdaa.calcDots
open Go.ChangeShapes Go.WideShapes Go.ChangeAt Go.RowKit M
set_option maxRecDepth 100000
set_option maxHeartbeats 8000000
set_option linter.unusedVariables false
set_option linter.unusedSimpArgs false
attribute [local go_sem ↓] Go.wp_at_zero Go.wp_at_succ
theorem own : ownKnob Try.prog.godebug = none := by kernel_rfl

/-- The walk: the Go text returns true; of what was there nothing turns. -/
theorem walk (w : World) (l : List Int) (ol : Option Addr) (cl : Nat) (rl : Row w ol l) (nl : l.length ≤ cl) (ml : cl < 9223372036854775808) (zl : ol = none → cl = 0) :
    Calls Try.prog 18 #[.slice ol l.length cl] w fun e w' => e = .returned (.bool true) ∧ Bw w w' := by
  have c0 := Lib.hid alive3_c
  by_cases g1 : (20 : Int) < (l.length : Int)
  · clear rl
    go_enter Try.func18, Try.ntmps18
    go_wp2_with fail
    (with_reducible refine (c0.out _).mono ?_); rintro en w1 ⟨rfl, hb⟩
    have G1 : Below w.heap.size w w1 := Below.trans (by (repeat (with_reducible refine M.Below.drewN ?_ _)); go_grown) (hb.mono (by go_size))
    have S1 := G1.size; clear hb
    go_wp2_with fail
    go_ret
    exact ⟨rfl, by (repeat (with_reducible refine M.Below.drewN ?_ _)); go_grown⟩
  have RL := Lib.hid rl
  clear rl
  obtain ⟨i9, hi9, hz90, hz91, hz92⟩ := info_parts info_fix
  go_enter Try.func18, Try.ntmps18
  go_wp2_with fail
  (with_reducible refine (c0.out _).mono ?_); rintro en w1 ⟨rfl, hb⟩
  have G1 : Below w.heap.size w w1 := Below.trans (by (repeat (with_reducible refine M.Below.drewN ?_ _)); go_grown) (hb.mono (by go_size))
  have S1 := G1.size; clear hb
  go_wp2_with fail
  have HG1 := Lib.hid G1
  clear G1
  go_loopg [3, 4, 23] l.length (fun gf s3 s4 s23 wx => ∃ i : Nat, i + gf = l.length ∧ s23 = .int .i64 i ∧ wx.ownsRow w.heap.size 22 1 s3 i ((List.replicate i (4294967296 : Int)).map (Value.int .i64)) ∧ wx.ownsRow w.heap.size 22 1 s4 i ((List.replicate i (0 : Int)).map (Value.int .i64)) ∧ (i = 0 → s3 = .slice none 0 0 ∧ s4 = .slice none 0 0) ∧ Bw w wx)
  case atStart => exact ⟨0, by omega, rfl, World.ownsRow_nil _ _ _ _, World.ownsRow_nil _ _ _ _, fun _ => ⟨rfl, rfl⟩, HG1.out⟩
  case round =>
    obtain ⟨i, hig, rfl, hA, hB, h0, hbr⟩ := hrel
    cases gk with
    | zero =>
      have hin : ¬ ((i : Int) < (l.length : Int)) := by omega
      obtain rfl : i = l.length := by omega
      have rA : wr.ownsRow w.heap.size 22 1 u3 (List.replicate l.length (4294967296 : Int)).length ((List.replicate l.length (4294967296 : Int)).map (Value.int .i64)) := by rw [List.length_replicate]; exact hA
      have rB : wr.ownsRow w.heap.size 22 1 u4 (List.replicate l.length (0 : Int)).length ((List.replicate l.length (0 : Int)).map (Value.int .i64)) := by rw [List.length_replicate]; exact hB
      have p0 : ∀ (z : Int), List.replicate l.length z = [] → l.length = 0 := fun z h => by simpa using congrArg List.length h
      obtain ⟨o3, c3, e3, R3⟩ := row_own rA (fun h => (h0 (p0 _ h)).1) (fun x hx => by rw [List.eq_of_mem_replicate hx]; exact i64_lit (by decide))
      obtain ⟨o4, c4, e4, R4⟩ := row_own rB (fun h => (h0 (p0 _ h)).2) (fun x hx => by rw [List.eq_of_mem_replicate hx]; exact i64_lit (by decide))
      rw [List.length_replicate] at e3 e4
      have n3 := List.length_replicate (n := l.length) (a := (4294967296 : Int))
      have n4 := List.length_replicate (n := l.length) (a := (0 : Int))
      have d1 := dotE_ones l RL.out.i64
      have d2 := dotE_zeros l
      unfold ones at d1
      have K1 := Lib.hid (fun w' (hb : Bw w w') => sum_c l ol cl w' (RL.out.keep hb) (by omega))
      have K2 := Lib.hid (show ∀ w', Bw w w' → Bw wr w' → Calls Try.prog 73 #[.slice ol l.length cl, .slice o3 l.length c3] w' fun en w'' => en = .returned (.tuple #[.int .i64 (sumE l).1, .int .i64 (sumE l).2]) ∧ Bw w' w'' from fun w' hb hb2 => by
        have h := dot_c l (List.replicate l.length 4294967296) ol o3 cl c3 w' (RL.out.keep hb) (R3.keep hb2) (by omega) (by rw [n3]; omega)
        rwa [d1, n3] at h)
      have K3 := Lib.hid (show ∀ w', Bw w w' → Bw wr w' → Calls Try.prog 73 #[.slice o4 l.length c4, .slice ol l.length cl] w' fun en w'' => en = .returned (.tuple #[.int .i64 0, .int .i64 0]) ∧ Bw w' w'' from fun w' hb hb2 => by
        have h := dot_c (List.replicate l.length 0) l o4 ol c4 cl w' (R4.keep hb2) (RL.out.keep hb) (by rw [n4]; omega) (by omega)
        rwa [d2, n4] at h)
      have HA := Lib.hid hA; have HBR := Lib.hid hbr
      subst e3; subst e4
      clear rA rB R3 R4 d1 d2 n3 n4 p0 hA hB hbr h0
      generalize (sumE l).1 = m1 at *
      generalize (sumE l).2 = m2 at *
      go_wp2_with fail
      (with_reducible refine (K1.out _ HBR.out).mono ?_); rintro en w2 ⟨rfl, hb2⟩
      have H2 := Lib.hid hb2; have J2 := Lib.hid (HBR.out.trans (hb2.mono HBR.out.size)); clear hb2
      go_wp2_with fail
      (with_reducible refine (K2.out _ J2.out H2.out).mono ?_); rintro en w3 ⟨rfl, hb3⟩
      have H3 := Lib.hid (H2.out.trans (hb3.mono H2.out.size)); have J3 := Lib.hid (J2.out.trans (hb3.mono J2.out.size)); clear hb3
      go_wp2_with fail
      (with_reducible refine (K3.out _ J3.out H3.out).mono ?_); rintro en w4 ⟨rfl, hb4⟩
      have H4 := Lib.hid (H3.out.trans (hb4.mono H3.out.size)); have J4 := Lib.hid (J3.out.trans (hb4.mono J3.out.size)); clear hb4
      have HO := Lib.hid (own_below HA.out H4.out)
      go_wp2_with (first
        | (at_builtin; refine wpList_append_own _ rfl (.tmp 51) (.tmp 52) 56 rfl w.heap.size 22 i9 (.int .i64 0) 1 8 under_fixes hi9 hz90 hz91 hz92 rfl (by decide) _ l.length _ rfl (HO.out.alloc _) ⟨w4.heap.size, 0, none⟩ 1 1 [.int .i64 1] rfl rfl (cell_new1 _ _ _) (fun u hu => by simp at hu; subst hu; rfl) (by unfold maxLen; omega) (by omega) (by have := J4.out.size; simp; omega) (fun v5 w5 r5 g5 _ => ?_))
        | fail)
      have J5 := Lib.hid ((J4.out.alloc J4.out.size _).grown g5 (by have := J4.out.size; simp; omega) (fun k hk => (HO.out.lt k hk).1))
      obtain ⟨o5, c5, rfl, R5⟩ := row_own (xs := List.replicate l.length 4294967296 ++ [1]) (by simpa using r5) (fun h => by simp at h) (fun x hx => by rcases List.mem_append.1 hx with h | h; rw [List.eq_of_mem_replicate h]; exact i64_lit (by decide); simp at h; rw [h]; exact i64_lit (by decide))
      have n5 : (List.replicate l.length (4294967296 : Int) ++ [1]).length = l.length + 1 := by simp
      have d5 : dotE l (List.replicate l.length (4294967296 : Int) ++ [1]) = (0, 9) := by unfold dotE; rw [if_neg (by rw [n5]; omega)]
      have K5 := dot_c l (List.replicate l.length 4294967296 ++ [1]) ol o5 cl c5 w5 (RL.out.keep J5.out) R5 (by omega) (by rw [n5]; omega)
      rw [d5] at K5
      have KK := Lib.hid K5
      clear K5 d5 n5 R5 r5 g5
      (with_reducible refine KK.out.mono ?_); rintro en w6 ⟨rfl, hb6⟩
      have J6 := Lib.hid (J5.out.trans (hb6.mono J5.out.size)); clear hb6
      go_wp2_with fail
      go_ret
      exact ⟨rfl, J6.out⟩
    | succ gf =>
      have hin : (i : Int) < (l.length : Int) := by omega
      have HA := Lib.hid hA; have HB := Lib.hid hB; have H0 := Lib.hid h0; have HBR := Lib.hid hbr
      clear hA hB h0 hbr
      go_wp2_with (first
        | (at_builtin; refine wpList_append_own _ rfl (.tmp 25) (.tmp 26) 56 rfl w.heap.size 22 i9 (.int .i64 0) 1 8 under_fixes hi9 hz90 hz91 hz92 rfl (by decide) _ i _ rfl (HA.out.alloc _) ⟨wr.heap.size, 0, none⟩ 1 1 [.int .i64 4294967296] rfl rfl (cell_new1 _ _ _) (fun u hu => by simp at hu; subst hu; rfl) (by unfold maxLen; omega) (by omega) (by have := HBR.out.size; simp; omega) (fun v3 w1' r1 g1 _ => ?_))
        | (at_builtin; refine wpList_append_own _ rfl (.tmp 28) (.tmp 29) 56 rfl w.heap.size 22 i9 (.int .i64 0) 1 8 under_fixes hi9 hz90 hz91 hz92 rfl (by decide) _ i _ rfl ((dots_step HA.out HB.out H0.out HBR.out r1 g1).1.alloc _) ⟨w1'.heap.size, 0, none⟩ 1 1 [.int .i64 0] rfl rfl (cell_new1 _ _ _) (fun u hu => by simp at hu; subst hu; rfl) (by unfold maxLen; omega) (by omega) (by have := (dots_step HA.out HB.out H0.out HBR.out r1 g1).2.size; simp; omega) (fun v4 w2' r2 g2 _ => ?_)))
      go_roundg gf
      case measure => omega
      case rel =>
        have k1 := dots_step HA.out HB.out H0.out HBR.out r1 g1
        have k2 := dots_step2 r1 k1.1 (fun h => (H0.out h).2) k1.2 r2 g2
        exact ⟨i + 1, by omega, by go_num, k2.1, k2.2.1, fun h => by omega, k2.2.2⟩

theorem lifted (os : Os) (started : os.Started) (H : Type) (enc : TypeId × Value → H) :
    ReturnsInHanded {} Try.checked os 18 .any (Rows.calcDotsSpec.pre6 enc Try.prog Try.f18 Rows.calcDotsRow.domain false) (Rows.calcDotsSpec.post enc Try.prog Try.f18 false true false false) := by
  refine returnsInHanded_of_change (C := Try.checked) own started (by kernel_rfl) Try.func18
    (ChangeSpec.witness6 (enc := enc) (C := Try.checked) false ⟨#[], #[.slice none 0 0], []⟩ 8 (by kernel_rfl) (by kernel_rfl) (by kernel_rfl) (by kernel_rfl)) ?_
  intro W base args ds gs before hval0 hW hcnd _
  have hval : ∀ (j : Nat) t v, Try.f18.params[j]? = some t → args[j]? = some v → Value.okWide Try.prog W .any base t v := hval0
  have hW' := hW
  obtain ⟨p, q, hA0, hV, rfl, hfz, hnd⟩ := hW
  have hA : DataW.TrodAll enc Try.prog W 0 (fun _ => true) true Try.f18.params.toList args.toList ds p := hA0
  rw [Try.params18] at hA hval
  obtain ⟨v0, vs0, d0, ds0, p0, q0, hargs, rfl, rfl, h0, r0⟩ := trodAll_cons hA
  obtain ⟨rfl, rfl, rfl⟩ := trodAll_nil r0
  obtain rfl : args = #[v0] := by cases args; simp_all
  obtain ⟨rfl, rfl⟩ := trodVars_none hV
  obtain ⟨ol, cl, l, rfl, Rl, Nl, Ml, Zl⟩ := open_row (hval 0 56 v0 rfl rfl) h0
  clear hA0 hval0
  have hW2 := Lib.hid hW'
  refine (walk W l ol cl Rl Nl Ml Zl).mono fun e W' ⟨he, hg⟩ => ?_
  subst he
  exact ⟨_, rfl, post_below (pa := _) (pv := []) hW2.out (fun _ _ _ => (trodAll_cons_mk (shut_bool Try.underlying4 _) trodAll_mk0)) (fun sp hsp => (trodAll_cons_mk (keep_row h0 hg (fun x hx => hW2.out.lt x (by simp [hx])) (fun x hx => hsp x (by simp [hx]))) trodAll_mk0)) (fun _ _ => rfl) rfl
    hg (ok_one (by kernel_rfl) rfl (okWide_bool_mk Try.underlying4 _))⟩

theorem closed : joinedFacts Try.prog 18 Try.f18 Rows.calcDotsSpec Rows.calcDotsRow = true := by
  unfold joinedFacts
  rw [fact_laid, fact_maps, fact_keys, fact_heard, fact_stops, fact_knobs, fact_enter, fact_lifts, fact_make]
  kernel_rfl

theorem over : Rows.calcDotsRow.holds Try.pinned (OpenSpec.ofChange Rows.calcDotsSpec) :=
  OpenClaim.holds_of_wide 18 Try.f18 rfl rfl rfl rfl rfl rfl rfl ⟨rfl, rfl, rfl, rfl, rfl⟩ rfl rfl rfl rfl rfl (by kernel_rfl) Try.func18 closed
    (of_decide_eq_true (by kernel_rfl)) (by unfold Func.isWrapper; first | (rw [if_pos (by decide +kernel)]; kernel_rfl) | (rw [if_neg (by decide +kernel)]; exact ⟨rfl, rfl⟩))
    (fun os started H enc _ => lifted os started H enc)

/-- The statement. -/
theorem proved : Rows.CalcDotsSaid :=
  over
#print axioms proved
end Go.Proofs.Ytaagpkacningdaa.calcDots
