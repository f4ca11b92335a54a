/- What math/bits.Div64 computes, and fix.Div. -/
import Derived.Test.YtcaibieaobhheaaFix
import Derived.Test.YtcaibieaobhheaaDivMath
import Derived.Lib.Strings
import Derived.Lib.Slices
import Derived.Lib.Small
import Derived.Lib.Walk
import Derived.Lib.BitFns
import Derived.Deep.DeepCutAuto
import Derived.Deep.CutBlock
namespace Go.Proofs.Ytcaibieaobhheaa
open Go.RowKit M
set_option maxRecDepth 100000
set_option linter.unusedVariables false

theorem idx8 (x : Int) (h0 : 0 ≤ x) : x < 256 → ∀ w : World, (Instr.index 9 (.string Lib.len8tab) (.int .u8 x)).run Try.prog w = .ok (.int .u8 (Lib.len8 x)) w :=
  fun h w => Lib.run_index_len8tab w 9 .u8 x Try.underlying9 h0 (by omega)
theorem lenF (x y n k : Int) (h0 : 0 ≤ y) (h1 : y < 256) (hn : 0 ≤ n) (hn2 : n ≤ 56) (hx : (Lib.bitLen x.toNat : Int) = n + Lib.bitLen y.toNat) (hk : k = Lib.len8 y) : wrap64 (n + wrap64 k) = Lib.bitLen x.toNat := by
  have h2 := Lib.bitLen_le8' y h0 (by omega)
  have h3 := Lib.len8_of y h0 (by omega)
  simp only [wrap64]; omega
theorem lenH (x k : Int) (h0 : 0 ≤ x) (h1 : x < 256) (hk : k = Lib.len8 x) : wrap64 (wrap64 k) = Lib.bitLen x.toNat := by
  have h2 := Lib.bitLen_le8' x h0 (by omega)
  have h3 := Lib.len8_of x h0 (by omega)
  simp only [wrap64]; omega

theorem lenS56 (x : Int) (h0 : 0 ≤ x) (h1 : x ≤ 18446744073709551615) (h : 72057594037927936 ≤ x) : (Lib.bitLen x.toNat : Int) = 56 + Lib.bitLen (x / 4294967296 / 65536 / 256).toNat := by
  have h2 := Lib.bitLen_shift56 x.toNat (by omega) (by omega)
  have e : (x / 4294967296 / 65536 / 256).toNat = x.toNat / 72057594037927936 := by omega
  rw [e]; omega
theorem lenS48 (x : Int) (h0 : 0 ≤ x) (h1 : x ≤ 18446744073709551615) (h : 281474976710656 ≤ x) : (Lib.bitLen x.toNat : Int) = 48 + Lib.bitLen (x / 4294967296 / 65536).toNat := by
  have h2 := Lib.bitLen_shift48 x.toNat (by omega) (by omega)
  have e : (x / 4294967296 / 65536).toNat = x.toNat / 281474976710656 := by omega
  rw [e]; omega
theorem lenS40 (x : Int) (h0 : 0 ≤ x) (h1 : x ≤ 18446744073709551615) (h : 1099511627776 ≤ x) : (Lib.bitLen x.toNat : Int) = 40 + Lib.bitLen (x / 4294967296 / 256).toNat := by
  have h2 := Lib.bitLen_shift40 x.toNat (by omega) (by omega)
  have e : (x / 4294967296 / 256).toNat = x.toNat / 1099511627776 := by omega
  rw [e]; omega
theorem lenS32 (x : Int) (h0 : 0 ≤ x) (h1 : x ≤ 18446744073709551615) (h : 4294967296 ≤ x) : (Lib.bitLen x.toNat : Int) = 32 + Lib.bitLen (x / 4294967296).toNat := by
  have h2 := Lib.bitLen_shift32 x.toNat (by omega) (by omega)
  have e : (x / 4294967296).toNat = x.toNat / 4294967296 := by omega
  rw [e]; omega
theorem lenS24 (x : Int) (h0 : 0 ≤ x) (h1 : x ≤ 18446744073709551615) (h : 16777216 ≤ x) : (Lib.bitLen x.toNat : Int) = 24 + Lib.bitLen (x / 65536 / 256).toNat := by
  have h2 := Lib.bitLen_shift24 x.toNat (by omega) (by omega)
  have e : (x / 65536 / 256).toNat = x.toNat / 16777216 := by omega
  rw [e]; omega
theorem lenS16 (x : Int) (h0 : 0 ≤ x) (h1 : x ≤ 18446744073709551615) (h : 65536 ≤ x) : (Lib.bitLen x.toNat : Int) = 16 + Lib.bitLen (x / 65536).toNat := by
  have h2 := Lib.bitLen_shift16 x.toNat (by omega) (by omega)
  have e : (x / 65536).toNat = x.toNat / 65536 := by omega
  rw [e]; omega
theorem lenS8 (x : Int) (h0 : 0 ≤ x) (h1 : x ≤ 18446744073709551615) (h : 256 ≤ x) : (Lib.bitLen x.toNat : Int) = 8 + Lib.bitLen (x / 256).toNat := by
  have h2 := Lib.bitLen_shift8 x.toNat (by omega) (by omega)
  have e : (x / 256).toNat = x.toNat / 256 := by omega
  rw [e]; omega

set_option maxHeartbeats 4000000 in
theorem len64_c (x : Int) (h0 : 0 ≤ x) (h1 : x ≤ 18446744073709551615) (w : World) :
    Calls Try.prog 129 #[.int .u64 x] w fun e w' => e = .returned (.int .i64 (Lib.bitLen x.toNat)) ∧ Dr w w' := by
  have i1 := idx8 (x / 4294967296 / 65536 / 256) (by omega) (by omega)
  have i2 := idx8 (x / 4294967296 / 65536) (by omega)
  have i3 : x / 4294967296 < 65536 → _ := fun h => idx8 (x / 4294967296 / 256) (by omega) (by omega)
  have i4 := idx8 (x / 4294967296) (by omega)
  have i5 : x < 4294967296 → _ := fun h => idx8 (x / 65536 / 256) (by omega) (by omega)
  have i6 := idx8 (x / 65536) (by omega)
  have i7 : x < 65536 → _ := fun h => idx8 (x / 256) (by omega) (by omega)
  have i8 := idx8 x (by omega)
  have H0 := Lib.hid h0
  have H1 := Lib.hid h1
  clear h0 h1
  go_enter Try.func129, Try.ntmps129
  go_wp2
  all_goals (go_ret; refine ⟨r1 ?_, Dr.refl _⟩)
  all_goals
    clear i1 i2 i3 i4 i5 i6 i7 i8
    have h0 := H0.out
    have h1 := H1.out
    clear H0 H1
  · exact lenF x (x / 4294967296 / 65536 / 256) 56 _ (by omega) (by omega) (by omega) (by omega) (lenS56 x h0 h1 (by omega)) (by rw [Int.emod_eq_of_lt (by omega) (by omega)])
  · exact lenF x (x / 4294967296 / 65536) 48 _ (by omega) (by omega) (by omega) (by omega) (lenS48 x h0 h1 (by omega)) rfl
  · exact lenF x (x / 4294967296 / 256) 40 _ (by omega) (by omega) (by omega) (by omega) (lenS40 x h0 h1 (by omega)) rfl
  · exact lenF x (x / 4294967296) 32 _ (by omega) (by omega) (by omega) (by omega) (lenS32 x h0 h1 (by omega)) rfl
  · exact lenF x (x / 65536 / 256) 24 _ (by omega) (by omega) (by omega) (by omega) (lenS24 x h0 h1 (by omega)) rfl
  · exact lenF x (x / 65536) 16 _ (by omega) (by omega) (by omega) (by omega) (lenS16 x h0 h1 (by omega)) rfl
  · exact lenF x (x / 256) 8 _ (by omega) (by omega) (by omega) (by omega) (lenS8 x h0 h1 (by omega)) rfl
  · exact lenH x _ h0 (by omega) (by rw [Int.emod_eq_of_lt (by omega) (by omega)])

theorem lz64_c (x : Int) (hx : U64 x) (w : World) :
    Calls Try.prog 123 #[.int .u64 x] w fun e w' => e = .returned (.int .i64 (64 - Lib.bitLen x.toNat)) ∧ Dr w w' := by
  have hl := Lib.bitLen_le x.toNat 64 (by omega) (by unfold U64 at hx; omega)
  go_enter Try.func123, Try.ntmps123
  go_wp2_with (go_at_call 129; refine (len64_c _ hx.1 hx.2 _).mono ?_; rintro e w' ⟨rfl, n, rfl⟩)
  go_ret
  exact ⟨r1 rfl, _, rfl⟩

/-- The quotient is told; the remainder is not asked for. -/
def RetQ (q : Int) (e : Ending) : Prop := ∃ r : Int, e = .returned (.tuple #[.int .u64 q, .int .u64 r])
theorem retQ {a b r : Int} (h : a = b) : RetQ b (.returned (.tuple #[.int .u64 a, .int .u64 r])) := ⟨r, by rw [h]⟩

theorem div64_zero (lo y : Int) (hl : U64 lo) (hy : U64 y) (h2 : 0 < y) (w : World) :
    Calls Try.prog 113 #[.int .u64 0, .int .u64 lo, .int .u64 y] w fun e w' => RetQ (lo / y) e ∧ Dr w w' := by
  have e1 : (y == 0) = false := by rw [beq_eq_false_iff_ne]; omega
  have e2 : decide (y ≤ 0) = false := by rw [decide_eq_false_iff_not]; omega
  have e3 : ¬ y = 0 := by omega
  have k : IntKind.u64.wrap (lo.tdiv y) = lo / y := by
    rw [Int.tdiv_eq_ediv_of_nonneg hl.1]
    have := Int.ediv_nonneg hl.1 (show 0 ≤ y by omega)
    have := Int.ediv_le_self y hl.1
    have := hl.2
    exact u64_id (by unfold U64; omega)
  have K := Lib.hid k
  clear k
  go_enter Try.func113, Try.ntmps113
  go_wp2_with fail
  go_region
  go_wp2
  go_ret2
  exact ⟨retQ K.out, Dr.drew (Dr.refl _)⟩

set_option maxHeartbeats 1000000 in
theorem div64_pos (hi lo y : Int) (hh : U64 hi) (hl : U64 lo) (hy : U64 y) (h1 : 0 < hi) (h2 : hi < y) (w : World) :
    Calls Try.prog 113 #[.int .u64 hi, .int .u64 lo, .int .u64 y] w fun e w' => RetQ ((hi * 18446744073709551616 + lo) / y) e ∧ Dr w w' := by
  have hb := Lib.bitLen_le y.toNat 64 (by omega) (by unfold U64 at hy; omega)
  obtain ⟨Y, U, V, g1, g2, g3, g4, g5, g6, g7⟩ := div_setup hh hl hy h2
  have hq : ¬IntKind.u64.wrap (y * 2 ^ (64 - Lib.bitLen y.toNat)) / 4294967296 = 0 := by
    rw [g1]; have := g4.1; omega
  have m1 := maskY Y (by have := g4.1; omega) (by have := g4.2.1; omega)
  have m2 := maskY V g5 g6
  have G1 := Lib.hid g1; have G2 := Lib.hid g2; have G3 := Lib.hid g3; have G4 := Lib.hid g4; have G5 := Lib.hid g5; have G6 := Lib.hid g6; have G7 := Lib.hid g7
  have M1 := Lib.hid m1; have M2 := Lib.hid m2
  clear hh hl g1 g2 g3 g4 g5 g6 g7 m1 m2
  go_enter Try.func113, Try.ntmps113
  go_wp2_with fail
  refine (lz64_c _ hy _).mono ?_; rintro e w' ⟨rfl, n1, rfl⟩
  go_upto_block 0 with (fail)
  rw [G1.out] at hq ⊢
  rw [G2.out, G3.out, M1.out, M2.out]
  clear G1 G2 G3 M1 M2
  go_cut [15, 16] (fun a b wc => ∃ q r : Int, a = .int .u64 q ∧ b = .int .u64 r ∧ Hid ((U * 4294967296 + V / 4294967296) / Y = q) ∧ wc = w.drewN n1)
  case first =>
    go_wp2_with fail
    go_loop [15, 16] (fun a b => ∃ q r : Int, a = .int .u64 q ∧ b = .int .u64 r ∧ Dg Y U (V / 4294967296) q r) (fun a _ => (intOf a).toNat)
    case atStart => exact ⟨_, _, rfl, rfl, dg_start G4.out⟩
    case round =>
      obtain ⟨q, r, rfl, rfl, hd⟩ := hrel
      go_wp2_with fail
      · go_meet
        case rel => exact ⟨_, _, rfl, rfl, dg_end G4.out hd ‹_› ‹_›, rfl⟩
      · exact ⟨⟨_, _, rfl, rfl, (dg_next G4.out hd ‹_› ‹_›).1⟩, (dg_next G4.out hd ‹_› ‹_›).2⟩
      · go_meet
        case rel => exact ⟨_, _, rfl, rfl, dg_stop G4.out hd ‹_›, rfl⟩
      · go_meet
        case rel => exact ⟨_, _, rfl, rfl, dg_end G4.out hd (Or.inl ‹_›) ‹_›, rfl⟩
      · exact ⟨⟨_, _, rfl, rfl, (dg_next G4.out hd (Or.inl (by omega)) ‹_›).1⟩, (dg_next G4.out hd (Or.inl (by omega)) ‹_›).2⟩
  case rest =>
    obtain ⟨q1, r1, rfl, rfl, hq1, rfl⟩ := hcut
    have hr := dg_rest G4.out hq1.out
    have R1 := Lib.hid hr.1
    have G8 : Hid (Ns Y (U * 4294967296 + V / 4294967296 - q1 * Y) (V % 4294967296)) :=
      Lib.hid ⟨G4.out.1, G4.out.2.1, hr.2.1, hr.2.2, by have := G5.out; omega, by have := G5.out; omega⟩
    clear hr
    go_upto_block 2 with (fail)
    rw [R1.out]
    go_cut [18, 16] (fun a b wc => ∃ q r : Int, a = .int .u64 q ∧ b = .int .u64 r ∧ Hid (((U * 4294967296 + V / 4294967296 - q1 * Y) * 4294967296 + V % 4294967296) / Y = q) ∧ wc = w.drewN n1)
    case first =>
      go_wp2_with fail
      go_loop [18, 16] (fun a b => ∃ q r : Int, a = .int .u64 q ∧ b = .int .u64 r ∧ Dg Y (U * 4294967296 + V / 4294967296 - q1 * Y) (V % 4294967296) q r) (fun a _ => (intOf a).toNat)
      case atStart => exact ⟨_, _, rfl, rfl, dg_start G8.out⟩
      case round =>
        obtain ⟨q, r, rfl, rfl, hd⟩ := hrel
        go_wp2_with fail
        · go_meet
          case rel => exact ⟨_, _, rfl, rfl, dg_end G8.out hd ‹_› ‹_›, rfl⟩
        · exact ⟨⟨_, _, rfl, rfl, (dg_next G8.out hd ‹_› ‹_›).1⟩, (dg_next G8.out hd ‹_› ‹_›).2⟩
        · go_meet
          case rel => exact ⟨_, _, rfl, rfl, dg_stop G8.out hd ‹_›, rfl⟩
        · go_meet
          case rel => exact ⟨_, _, rfl, rfl, dg_end G8.out hd (Or.inl ‹_›) ‹_›, rfl⟩
        · exact ⟨⟨_, _, rfl, rfl, (dg_next G8.out hd (Or.inl (by omega)) ‹_›).1⟩, (dg_next G8.out hd (Or.inl (by omega)) ‹_›).2⟩
    case rest =>
      obtain ⟨q2, r2, rfl, rfl, hq2, rfl⟩ := hcut
      have e := dg_both G4.out.1 G4.out G5.out hq1.out hq2.out
      rw [G7.out] at e
      have E := Lib.hid e
      clear e
      go_wp2
      all_goals go_ret2
      all_goals exact ⟨retQ E.out, _, rfl⟩

theorem div64_c (hi lo y : Int) (hh : U64 hi) (hl : U64 lo) (hy : U64 y) (h2 : hi < y) (w : World) :
    Calls Try.prog 113 #[.int .u64 hi, .int .u64 lo, .int .u64 y] w fun e w' => RetQ ((hi * 18446744073709551616 + lo) / y) e ∧ Dr w w' := by
  by_cases h : hi = 0
  · subst h
    refine (div64_zero lo y hl hy h2 w).mono ?_
    rintro e w' ⟨h1, h2⟩
    exact ⟨by simpa using h1, h2⟩
  · exact div64_pos hi lo y hh hl hy (by have := hh.1; omega) h2 w

theorem fixDiv_c (a b : Int) (ha : I64 a) (hb : I64 b) (w : World) :
    Calls Try.prog 105 #[.int .i64 a, .int .i64 b] w fun e w' => e = .returned (.tuple #[.int .i64 (divR a b).1, .int .i64 (divR a b).2]) ∧ Dr w w' := by
  go_enter Try.func105, Try.ntmps105
  go_wp2_with fail
  refine (parts_c _ ha _).mono ?_; rintro e w' ⟨rfl, n1, rfl⟩
  go_wp2_with fail
  refine (parts_c _ hb _).mono ?_; rintro e w' ⟨rfl, n2, rfl⟩
  go_wp2_with fail
  · go_ret2
    exact ⟨rp (div_zero ‹_›), _, rfl⟩
  · go_ret2
    exact ⟨rp (div_great ‹_› ‹_›), _, rfl⟩
  · have h1 : (absF b == 0) = false := ‹_›
    have h2 : absF a / 4294967296 < absF b := ‹_›
    have k1 : U64 (absF a / 4294967296) := by
      have := absF_nonneg a; have := absF_le ha; unfold U64; omega
    refine (div64_c _ _ _ k1 (u64_u64 _) (absF_u64 hb) h2 _).mono ?_
    rintro e w' ⟨⟨r, rfl⟩, n3, rfl⟩
    have k2 := div_u64 ha h1 h2
    have k3 := Lib.hid (div_low (b := b) ha h1)
    generalize (absF a / 4294967296 * 18446744073709551616 + IntKind.u64.wrap (absF a * 4294967296)) / absF b = q at *
    go_wp2_with fail
    refine (whole_c _ _ k2 _).mono ?_; rintro e w' ⟨rfl, n4, rfl⟩
    go_wp2_with fail
    go_ret2
    exact ⟨rp k3.out, _, rfl⟩
end Go.Proofs.Ytcaibieaobhheaa
