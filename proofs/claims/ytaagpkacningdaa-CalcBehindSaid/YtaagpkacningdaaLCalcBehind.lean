/- For every list CalcBehind returns true: what a Try did ahead of a fault stays done; what is behind it is not done; each Try is by itself. -/
import Derived.Test.YtaagpkacningdaaRows
import Derived.WalkKit
import Derived.ProofKit
import Derived.OpenShut
import Derived.Test.YtaagpkacningdaaFacts
import Derived.Test.YtaagpkacningdaaArgs
import Derived.Test.YtaagpkacningdaaClo3b
import Derived.Deep.DrawnRows
namespace Go.Proofs.Ytaagpkacningdaa.calcBehind
open Go.ChangeShapes Go.WideShapes Go.ChangeAt Go.RowKit M
set_option maxRecDepth 100000
set_option maxHeartbeats 8000000
set_option linter.unusedVariables false
set_option linter.unusedSimpArgs false
attribute [local go_sem ↓] Go.wp_at_zero Go.wp_at_succ
theorem own : ownKnob Try.prog.godebug = none := by kernel_rfl

/-- The walk: the Go text returns true; of what was there nothing turns. -/
theorem walk (w : World) (l : List Int) (ol : Option Addr) (cl : Nat) (rl : Row w ol l) (nl : l.length ≤ cl) (ml : cl < 9223372036854775808) (zl : ol = none → cl = 0) :
    Calls Try.prog 15 #[.slice ol l.length cl] w fun e w' => e = .returned (.bool true) ∧ Bw w w' := by
  have c0 := Lib.hid alive3_c
  by_cases g1 : (30 : Int) < (l.length : Int)
  · clear rl
    go_enter Try.func15, Try.ntmps15
    go_wp2_with fail
    (with_reducible refine (c0.out _).mono ?_); rintro en w1 ⟨rfl, hb⟩
    have G1 : Below w.heap.size w w1 := Below.trans (by (repeat (with_reducible refine M.Below.drewN ?_ _)); go_grown) (hb.mono (by go_size))
    have V1_l : M.Var w1 (w.heap.size) #[.slice ol l.length cl] := M.Var.mono (by (repeat (first | (with_reducible assumption) | (with_reducible apply M.var_set45) | (with_reducible refine M.var_alloc' _ _ _ ?_; first | rfl | (simp [go_sem]; done)) | (with_reducible refine M.Var.alloc ?_ _) | (with_reducible refine M.Var.drewN ?_ _) | (with_reducible refine M.Var.drew ?_) | (with_reducible refine M.Var.far ?_ _ _ ?hFar; case hFar => (first | omega | ((try simp [go_sem]) <;> omega))) | fail))) hb
    have q1_l_0 : w1.cell? ⟨w.heap.size, 0, none⟩ = some (.slice ol l.length cl) := V1_l.c 0 _ rfl
    have f1_l := V1_l.2.2; have L1_l := V1_l.lt; have N1_l := Nat.ne_of_gt L1_l; have M1_l := Nat.ne_of_lt L1_l
    have HV1_l := Lib.hid V1_l
    have S1 := G1.size; clear hb
    go_wp2_with fail
    go_ret
    exact ⟨rfl, by (repeat (with_reducible refine M.Below.drewN ?_ _)); go_grown⟩
  have RL := Lib.hid rl
  clear rl
  rcases hS : behR l 0 with ⟨S0, E0⟩
  have HS := Lib.hid hS
  clear hS
  have hlen : l.length ≤ 30 := by omega
  go_enter Try.func15, Try.ntmps15
  go_wp2_with fail
  (with_reducible refine (c0.out _).mono ?_); rintro en w1 ⟨rfl, hb⟩
  have G1 : Below w.heap.size w w1 := Below.trans (by (repeat (with_reducible refine M.Below.drewN ?_ _)); go_grown) (hb.mono (by go_size))
  have V1_l : M.Var w1 (w.heap.size) #[.slice ol l.length cl] := M.Var.mono (by (repeat (first | (with_reducible assumption) | (with_reducible apply M.var_set45) | (with_reducible refine M.var_alloc' _ _ _ ?_; first | rfl | (simp [go_sem]; done)) | (with_reducible refine M.Var.alloc ?_ _) | (with_reducible refine M.Var.drewN ?_ _) | (with_reducible refine M.Var.drew ?_) | (with_reducible refine M.Var.far ?_ _ _ ?hFar; case hFar => (first | omega | ((try simp [go_sem]) <;> omega))) | fail))) hb
  have q1_l_0 : w1.cell? ⟨w.heap.size, 0, none⟩ = some (.slice ol l.length cl) := V1_l.c 0 _ rfl
  have f1_l := V1_l.2.2; have L1_l := V1_l.lt; have N1_l := Nat.ne_of_gt L1_l; have M1_l := Nat.ne_of_lt L1_l
  have HV1_l := Lib.hid V1_l
  have S1 := G1.size; clear hb
  go_wp2_with fail
  refine (try_c 75 #[.pointer (some ⟨w.heap.size, 0, none⟩), .pointer (some ⟨w1.heap.size, 0, none⟩)] _ (E0) (usI w1.heap.size (.ok S0)) (fun _ => rfl) ?_ ?_).mono ?_
  · intro u hu; (try simp only [List.mem_append] at hu); (repeat' (obtain hu | hu := (hu : _ ∨ _))); all_goals (first | rw [M.usBx_block hu] | rw [M.usV_block hu] | rw [M.usI_block hu] | rw [M.usHt_block hu] | rw [M.usBd_block hu] | rw [M.usB_block hu] | rw [M.cell_block1 hu] | (exfalso; simp at hu; done)); all_goals ((try simp [go_sem]) <;> omega)
  · intro w1' hb; exact (beh1_c _ _ l ol cl w w1' (Below.trans (by (repeat (with_reducible refine M.Below.drewN ?_ _)); go_grown) (hb.mono (by go_size))) (M.Var.mono (b := w.heap.size) (cs := #[.slice ol l.length cl]) (by (repeat (first | (with_reducible assumption) | (with_reducible apply M.var_set45) | (with_reducible refine M.var_alloc' _ _ _ ?_; first | rfl | (simp [go_sem]; done)) | (with_reducible refine M.Var.alloc ?_ _) | (with_reducible refine M.Var.drewN ?_ _) | (with_reducible refine M.Var.drew ?_) | (with_reducible refine M.Var.far ?_ _ _ ?hFar; case hFar => (first | omega | ((try simp [go_sem]) <;> omega))) | fail))) hb) (M.Var.mono (b := w1.heap.size) (cs := #[.int .i64 0]) (by (repeat (first | (with_reducible assumption) | (with_reducible apply M.var_set45) | (with_reducible refine M.var_alloc' _ _ _ ?_; first | rfl | (simp [go_sem]; done)) | (with_reducible refine M.Var.alloc ?_ _) | (with_reducible refine M.Var.drewN ?_ _) | (with_reducible refine M.Var.drew ?_) | (with_reducible refine M.Var.far ?_ _ _ ?hFar; case hFar => (first | omega | ((try simp [go_sem]) <;> omega))) | fail))) hb) RL.out hlen (by omega) (by omega) HS.out).mono fun e w' h => h
  rintro en w2 ⟨rfl, hb⟩
  have G2 : Below w.heap.size w w2 := Below.trans (M.below_sets_own (usI w1.heap.size (.ok S0)) (by (repeat (with_reducible refine M.Below.drewN ?_ _)); go_grown) (by intro u hu; (try simp only [List.mem_append] at hu); (repeat' (obtain hu | hu := (hu : _ ∨ _))); all_goals (first | rw [M.usBx_block hu] | rw [M.usV_block hu] | rw [M.usI_block hu] | rw [M.usHt_block hu] | rw [M.usBd_block hu] | rw [M.usB_block hu] | rw [M.cell_block1 hu] | (exfalso; simp at hu; done)); all_goals ((try simp [go_sem]) <;> omega))) (hb.mono (by go_size))
  have V2_l : M.Var w2 (w.heap.size) #[.slice ol l.length cl] := M.Var.mono' (u := M.sets _ (usI w1.heap.size (.ok S0))) (by (try simp only [M.sets_append]); exact (M.var_sets_far (usI w1.heap.size (.ok S0)) (by (repeat (first | (with_reducible assumption) | (with_reducible apply M.var_set45) | (with_reducible refine M.var_alloc' _ _ _ ?_; first | rfl | (simp [go_sem]; done)) | (with_reducible refine M.Var.alloc ?_ _) | (with_reducible refine M.Var.drewN ?_ _) | (with_reducible refine M.Var.drew ?_) | (with_reducible refine M.Var.far ?_ _ _ ?hFar; case hFar => (first | omega | ((try simp [go_sem]) <;> omega))) | fail)) : M.Var _ (w.heap.size) #[.slice ol l.length cl]) (by intro u hu; all_goals (first | rw [M.usBx_block hu] | rw [M.usV_block hu] | rw [M.usI_block hu] | rw [M.usHt_block hu] | rw [M.usBd_block hu] | rw [M.usB_block hu] | rw [M.cell_block1 hu] | (exfalso; simp at hu; done)); all_goals ((try simp [go_sem]) <;> omega)))) (M.sets_size _ _) hb
  have V2_n : M.Var w2 (w1.heap.size) #[.int .i64 S0] := M.Var.mono' (u := M.sets _ (usI w1.heap.size (.ok S0))) (by (try simp only [M.sets_append]); exact (M.var_setI (by (repeat (first | (with_reducible assumption) | (with_reducible apply M.var_set45) | (with_reducible refine M.var_alloc' _ _ _ ?_; first | rfl | (simp [go_sem]; done)) | (with_reducible refine M.Var.alloc ?_ _) | (with_reducible refine M.Var.drewN ?_ _) | (with_reducible refine M.Var.drew ?_) | (with_reducible refine M.Var.far ?_ _ _ ?hFar; case hFar => (first | omega | ((try simp [go_sem]) <;> omega))) | fail)) : M.Var _ (w1.heap.size) #[.int .i64 0]) _)) (M.sets_size _ _) hb
  have q2_l_0 : w2.cell? ⟨w.heap.size, 0, none⟩ = some (.slice ol l.length cl) := V2_l.c 0 _ rfl
  have f2_l := V2_l.2.2; have L2_l := V2_l.lt; have N2_l := Nat.ne_of_gt L2_l; have M2_l := Nat.ne_of_lt L2_l
  have HV2_l := Lib.hid V2_l
  have q2_n_0 : w2.cell? ⟨w1.heap.size, 0, none⟩ = some (.int .i64 S0) := V2_n.c 0 _ rfl
  have f2_n := V2_n.2.2; have L2_n := V2_n.lt; have N2_n := Nat.ne_of_gt L2_n; have M2_n := Nat.ne_of_lt L2_n
  have HV2_n := Lib.hid V2_n
  have S2 := G2.size; clear hb
  go_wp2_with fail
  go_loopg [5, 6, 21] l.length (fun gf s5 s6 s21 wx => ∃ (i : Nat) (u e : Int), i + gf = l.length ∧ s21 = .int .i64 i ∧ s5 = .int .i64 u ∧ s6 = .int .i64 e ∧ 0 ≤ u ∧ u ≤ (i : Int) ∧ behR l 0 = (if e = 0 then behR (l.drop i) u else (u, e)) ∧ ∃ k, wx = w2.drewN k)
  case atStart => exact ⟨0, 0, 0, by omega, rfl, rfl, rfl, by omega, by omega, (if_pos rfl).symm, 0, rfl⟩
  case round =>
    obtain ⟨i, u, e, hig, rfl, rfl, rfl, u0, u1, hf, kk, rfl⟩ := hrel
    cases gk with
    | zero =>
      have hin : ¬ ((i : Int) < (l.length : Int)) := by omega
      obtain rfl : i = l.length := by omega
      rw [behR_end, HS.out] at hf
      have hf2 : (S0, E0) = (u, e) := by rw [hf]; split; rename_i h; rw [h]; rfl
      obtain ⟨rfl, rfl⟩ := Prod.mk.inj hf2
      clear hf hf2
      go_wp2_with fail
      refine (try_c 78 #[] _ (0) ([]) (fun _ => rfl) ?_ ?_).mono ?_
      · intro u hu; (try simp only [List.mem_append] at hu); (repeat' (obtain hu | hu := (hu : _ ∨ _))); all_goals (first | rw [M.usBx_block hu] | rw [M.usV_block hu] | rw [M.usI_block hu] | rw [M.usHt_block hu] | rw [M.usBd_block hu] | rw [M.usB_block hu] | rw [M.cell_block1 hu] | (exfalso; simp at hu; done)); all_goals ((try simp [go_sem]) <;> omega)
      · intro w1' hb; exact (beh2_c w1').mono fun e w' h => h
      rintro en w3 ⟨rfl, hb⟩
      have G3 : Below w.heap.size w w3 := Below.trans (M.below_sets_own ([]) (by (repeat (with_reducible refine M.Below.drewN ?_ _)); go_grown) (by intro u hu; (try simp only [List.mem_append] at hu); (repeat' (obtain hu | hu := (hu : _ ∨ _))); all_goals (first | rw [M.usBx_block hu] | rw [M.usV_block hu] | rw [M.usI_block hu] | rw [M.usHt_block hu] | rw [M.usBd_block hu] | rw [M.usB_block hu] | rw [M.cell_block1 hu] | (exfalso; simp at hu; done)); all_goals ((try simp [go_sem]) <;> omega))) (hb.mono (by go_size))
      have V3_l : M.Var w3 (w.heap.size) #[.slice ol l.length cl] := M.Var.mono' (u := M.sets _ ([])) (by (try simp only [M.sets_append]); exact (M.var_sets_far ([]) (by (repeat (first | (with_reducible assumption) | (with_reducible apply M.var_set45) | (with_reducible refine M.var_alloc' _ _ _ ?_; first | rfl | (simp [go_sem]; done)) | (with_reducible refine M.Var.alloc ?_ _) | (with_reducible refine M.Var.drewN ?_ _) | (with_reducible refine M.Var.drew ?_) | (with_reducible refine M.Var.far ?_ _ _ ?hFar; case hFar => (first | omega | ((try simp [go_sem]) <;> omega))) | fail)) : M.Var _ (w.heap.size) #[.slice ol l.length cl]) (by intro u hu; all_goals (first | rw [M.usBx_block hu] | rw [M.usV_block hu] | rw [M.usI_block hu] | rw [M.usHt_block hu] | rw [M.usBd_block hu] | rw [M.usB_block hu] | rw [M.cell_block1 hu] | (exfalso; simp at hu; done)); all_goals ((try simp [go_sem]) <;> omega)))) (M.sets_size _ _) hb
      have V3_n : M.Var w3 (w1.heap.size) #[.int .i64 S0] := M.Var.mono' (u := M.sets _ ([])) (by (try simp only [M.sets_append]); exact (M.var_sets_far ([]) (by (repeat (first | (with_reducible assumption) | (with_reducible apply M.var_set45) | (with_reducible refine M.var_alloc' _ _ _ ?_; first | rfl | (simp [go_sem]; done)) | (with_reducible refine M.Var.alloc ?_ _) | (with_reducible refine M.Var.drewN ?_ _) | (with_reducible refine M.Var.drew ?_) | (with_reducible refine M.Var.far ?_ _ _ ?hFar; case hFar => (first | omega | ((try simp [go_sem]) <;> omega))) | fail)) : M.Var _ (w1.heap.size) #[.int .i64 S0]) (by intro u hu; all_goals (first | rw [M.usBx_block hu] | rw [M.usV_block hu] | rw [M.usI_block hu] | rw [M.usHt_block hu] | rw [M.usBd_block hu] | rw [M.usB_block hu] | rw [M.cell_block1 hu] | (exfalso; simp at hu; done)); all_goals ((try simp [go_sem]) <;> omega)))) (M.sets_size _ _) hb
      have q3_l_0 : w3.cell? ⟨w.heap.size, 0, none⟩ = some (.slice ol l.length cl) := V3_l.c 0 _ rfl
      have f3_l := V3_l.2.2; have L3_l := V3_l.lt; have N3_l := Nat.ne_of_gt L3_l; have M3_l := Nat.ne_of_lt L3_l
      have HV3_l := Lib.hid V3_l
      have q3_n_0 : w3.cell? ⟨w1.heap.size, 0, none⟩ = some (.int .i64 S0) := V3_n.c 0 _ rfl
      have f3_n := V3_n.2.2; have L3_n := V3_n.lt; have N3_n := Nat.ne_of_gt L3_n; have M3_n := Nat.ne_of_lt L3_n
      have HV3_n := Lib.hid V3_n
      have S3 := G3.size; clear hb
      go_wp2_with fail
      go_ret
      exact ⟨rfl, by (repeat (with_reducible refine M.Below.drewN ?_ _)); go_grown⟩
    | succ gf =>
      have hin : (i : Int) < (l.length : Int) := by omega
      obtain ⟨x, hx⟩ : ∃ x, l[i]? = some x := ⟨_, List.getElem?_eq_getElem (by omega)⟩
      obtain ⟨b, o, rfl, x1, ix⟩ := (RL.out.keep G2) i x hx
      rw [behR_drop hx] at hf
      by_cases he : e = 0
      · subst he
        rw [if_pos rfl] at hf
        have c := fixDiv_c 4294967296 x (i64_lit (by decide)) ix
        rcases hr : divR 4294967296 x with ⟨r, em⟩
        rw [hr] at c hf
        dsimp only at hf
        have C := Lib.hid c
        clear c hr
        by_cases hm : em = 0
        · subst hm
          rw [if_pos rfl] at hf
          have HF := Lib.hid hf
          clear hf
          go_wp2_with fail
          (with_reducible refine (C.out _).mono ?_); rintro en w' ⟨rfl, n2, rfl⟩
          go_wp2_with fail
          go_roundg gf
          case measure => omega
          case rel => exact ⟨i + 1, u + 1, 0, by omega, by go_num, by go_num, rfl, by omega, by omega, HF.out.trans (if_pos rfl).symm, _, rfl⟩
        · rw [if_neg hm] at hf
          have HF := Lib.hid hf
          have z1 := bne_iff_ne.2 hm; have z2 := beq_eq_false_iff_ne.2 hm; have HM := Lib.hid hm
          clear hf hm
          go_wp2_with fail
          (with_reducible refine (C.out _).mono ?_); rintro en w' ⟨rfl, n2, rfl⟩
          go_wp2_with fail
          go_roundg gf
          case measure => omega
          case rel => exact ⟨i + 1, u, em, by omega, by go_num, rfl, rfl, by omega, by omega, HF.out.trans (if_neg HM.out).symm, _, rfl⟩
      · rw [if_neg he] at hf
        have HF := Lib.hid hf
        have z1 := bne_iff_ne.2 he; have z2 := beq_eq_false_iff_ne.2 he; have HE := Lib.hid he
        clear hf he
        go_wp2_with fail
        go_roundg gf
        case measure => omega
        case rel => exact ⟨i + 1, u, e, by omega, by go_num, rfl, rfl, by omega, by omega, HF.out.trans (if_neg HE.out).symm, _, rfl⟩

theorem lifted (os : Os) (started : os.Started) (H : Type) (enc : TypeId × Value → H) :
    ReturnsInHanded {} Try.checked os 15 .any (Rows.calcBehindSpec.pre6 enc Try.prog Try.f15 Rows.calcBehindRow.domain false) (Rows.calcBehindSpec.post enc Try.prog Try.f15 false true false false) := by
  refine returnsInHanded_of_change (C := Try.checked) own started (by kernel_rfl) Try.func15
    (ChangeSpec.witness6 (enc := enc) (C := Try.checked) false ⟨#[], #[.slice none 0 0], []⟩ 8 (by kernel_rfl) (by kernel_rfl) (by kernel_rfl) (by kernel_rfl)) ?_
  intro W base args ds gs before hval0 hW hcnd _
  have hval : ∀ (j : Nat) t v, Try.f15.params[j]? = some t → args[j]? = some v → Value.okWide Try.prog W .any base t v := hval0
  have hW' := hW
  obtain ⟨p, q, hA0, hV, rfl, hfz, hnd⟩ := hW
  have hA : DataW.TrodAll enc Try.prog W 0 (fun _ => true) true Try.f15.params.toList args.toList ds p := hA0
  rw [Try.params15] at hA hval
  obtain ⟨v0, vs0, d0, ds0, p0, q0, hargs, rfl, rfl, h0, r0⟩ := trodAll_cons hA
  obtain ⟨rfl, rfl, rfl⟩ := trodAll_nil r0
  obtain rfl : args = #[v0] := by cases args; simp_all
  obtain ⟨rfl, rfl⟩ := trodVars_none hV
  obtain ⟨ol, cl, l, rfl, Rl, Nl, Ml, Zl⟩ := open_row (hval 0 56 v0 rfl rfl) h0
  clear hA0 hval0
  have hW2 := Lib.hid hW'
  refine (walk W l ol cl Rl Nl Ml Zl).mono fun e W' ⟨he, hg⟩ => ?_
  subst he
  exact ⟨_, rfl, post_below (pa := _) (pv := []) hW2.out (fun _ _ _ => (trodAll_cons_mk (shut_bool Try.underlying4 _) trodAll_mk0)) (fun sp hsp => (trodAll_cons_mk (keep_row h0 hg (fun x hx => hW2.out.lt x (by simp [hx])) (fun x hx => hsp x (by simp [hx]))) trodAll_mk0)) (fun _ _ => rfl) rfl
    hg (ok_one (by kernel_rfl) rfl (okWide_bool_mk Try.underlying4 _))⟩

theorem closed : joinedFacts Try.prog 15 Try.f15 Rows.calcBehindSpec Rows.calcBehindRow = true := by
  unfold joinedFacts
  rw [fact_laid, fact_maps, fact_keys, fact_heard, fact_stops, fact_knobs, fact_enter, fact_lifts, fact_make]
  kernel_rfl

theorem over : Rows.calcBehindRow.holds Try.pinned (OpenSpec.ofChange Rows.calcBehindSpec) :=
  OpenClaim.holds_of_wide 15 Try.f15 rfl rfl rfl rfl rfl rfl rfl ⟨rfl, rfl, rfl, rfl, rfl⟩ rfl rfl rfl rfl rfl (by kernel_rfl) Try.func15 closed
    (of_decide_eq_true (by kernel_rfl)) (by unfold Func.isWrapper; first | (rw [if_pos (by decide +kernel)]; kernel_rfl) | (rw [if_neg (by decide +kernel)]; exact ⟨rfl, rfl⟩))
    (fun os started H enc _ => lifted os started H enc)

/-- The statement. -/
theorem proved : Rows.CalcBehindSaid :=
  over
#print axioms proved
end Go.Proofs.Ytaagpkacningdaa.calcBehind
