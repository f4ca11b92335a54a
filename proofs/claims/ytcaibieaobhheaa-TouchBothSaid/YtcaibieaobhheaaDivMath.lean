/- The plain law behind math/bits.Div64: two digits of 32 bits each, as Knuth has it. -/
import Derived.Test.YtcaibieaobhheaaMath
import Derived.Laws.Bits64b
import Derived.Lib.BitFns
namespace Go.Proofs.Ytcaibieaobhheaa
open Go.RowKit M
set_option linter.unusedVariables false
namespace M

theorem bitLen_pos (x : Nat) (h : 0 < x) (h2 : x < 2 ^ 64) : 1 ≤ Lib.bitLen x := by
  rw [Lib.bitLen_half x (by omega) h2]; omega
theorem bitLen_lt (x : Nat) (h2 : x < 2 ^ 64) : x < 2 ^ Lib.bitLen x := by
  apply Classical.byContradiction
  intro h
  have h3 : 2 ^ Lib.bitLen x ≤ x := by omega
  have h4 := Lib.bitLen_shift (Lib.bitLen x) x h3 h2
  have h5 : 0 < x / 2 ^ Lib.bitLen x := Nat.div_pos h3 (Nat.two_pow_pos _)
  have h6 := bitLen_pos (x / 2 ^ Lib.bitLen x) h5 (Nat.lt_of_le_of_lt (Nat.div_le_self _ _) h2)
  omega
theorem bitLen_ge (x : Nat) (h : 0 < x) (h2 : x < 2 ^ 64) : 2 ^ (Lib.bitLen x - 1) ≤ x := by
  apply Classical.byContradiction
  intro h3
  have h4 := bitLen_pos x h h2
  have h6 : Lib.bitLen x ≤ 64 := Lib.bitLen_le x 64 (by omega) (by omega)
  have h5 := Lib.bitLen_le x (Lib.bitLen x - 1) (by omega) (by omega)
  omega

/-- The divisor, moved up as far as it goes. -/
theorem norm_y (y : Nat) (h : 0 < y) (h2 : y < 18446744073709551616) :
    9223372036854775808 ≤ y * 2 ^ (64 - Lib.bitLen y) ∧ y * 2 ^ (64 - Lib.bitLen y) < 18446744073709551616 := by
  have a := bitLen_ge y h (by omega)
  have b := bitLen_lt y (by omega)
  have c := bitLen_pos y h (by omega)
  have d : Lib.bitLen y ≤ 64 := Lib.bitLen_le y 64 (by omega) (by omega)
  have e1 : 2 ^ (Lib.bitLen y - 1) * 2 ^ (64 - Lib.bitLen y) = 9223372036854775808 := by
    rw [← Nat.pow_add]; rw [show Lib.bitLen y - 1 + (64 - Lib.bitLen y) = 63 from by omega]
  have e2 : 2 ^ Lib.bitLen y * 2 ^ (64 - Lib.bitLen y) = 18446744073709551616 := by
    rw [← Nat.pow_add]; rw [show Lib.bitLen y + (64 - Lib.bitLen y) = 64 from by omega]
  have f1 := Nat.mul_le_mul_right (2 ^ (64 - Lib.bitLen y)) a
  have f2 := Nat.mul_lt_mul_of_pos_right b (Nat.two_pow_pos (64 - Lib.bitLen y))
  omega

theorem shift_up (hi lo y s : Nat) (hs : s ≤ 63) (hl : lo < 18446744073709551616) (hy : y * 2 ^ s < 18446744073709551616) (h : hi < y) :
    (hi * 2 ^ s ||| lo / 2 ^ (64 - s)) = hi * 2 ^ s + lo / 2 ^ (64 - s) ∧
    (hi * 2 ^ s + lo / 2 ^ (64 - s)) * 18446744073709551616 + lo * 2 ^ s % 18446744073709551616 = (hi * 18446744073709551616 + lo) * 2 ^ s ∧
    hi * 2 ^ s + lo / 2 ^ (64 - s) < y * 2 ^ s := by
  have e : 2 ^ (64 - s) * 2 ^ s = 18446744073709551616 := by
    rw [← Nat.pow_add]; rw [show 64 - s + s = 64 from by omega]
  have p1 := Nat.two_pow_pos s
  have p2 := Nat.two_pow_pos (64 - s)
  have k1 : lo / 2 ^ (64 - s) < 2 ^ s := by
    rw [Nat.div_lt_iff_lt_mul p2, Nat.mul_comm]; omega
  have k2 : lo * 2 ^ s / 18446744073709551616 = lo / 2 ^ (64 - s) := by
    rw [← e]; exact Nat.mul_div_mul_right lo (2 ^ (64 - s)) p1
  have k3 := Nat.div_add_mod (lo * 2 ^ s) 18446744073709551616
  rw [k2] at k3
  refine ⟨?_, ?_, ?_⟩
  · have := Nat.two_pow_add_eq_or_of_lt k1 hi
    rw [Nat.mul_comm hi]; exact this.symm
  · have e3 : (hi * 18446744073709551616 + lo) * 2 ^ s = hi * 2 ^ s * 18446744073709551616 + lo * 2 ^ s := by
      rw [Nat.add_mul, Nat.mul_assoc, Nat.mul_comm 18446744073709551616, ← Nat.mul_assoc]
    rw [e3]
    generalize lo * 2 ^ s = L at *
    generalize hi * 2 ^ s = H at *
    generalize lo / 2 ^ (64 - s) = M at *
    clear e3 e k1
    omega
  · have : (hi + 1) * 2 ^ s ≤ y * 2 ^ s := Nat.mul_le_mul_right _ (by omega)
    rw [Nat.add_mul] at this
    omega

/-- A digit being sought: 'u' and the next digit 'd' of what is divided, by Y; so far q, with r left. -/
def Dg (Y u d q r : Int) : Prop := 0 ≤ r ∧ r < 4294967296 ∧ q * (Y / 4294967296) + r = u ∧ (u * 4294967296 + d) / Y ≤ q
def Ns (Y u d : Int) : Prop := 9223372036854775808 ≤ Y ∧ Y ≤ 18446744073709551615 ∧ 0 ≤ u ∧ u < Y ∧ 0 ≤ d ∧ d < 4294967296

/-- The quotient's digit. -/
theorem digit_bounds {Y u d : Int} (h : Ns Y u d) :
    0 ≤ (u * 4294967296 + d) / Y ∧ (u * 4294967296 + d) / Y < 4294967296 ∧ (u * 4294967296 + d) / Y * Y ≤ u * 4294967296 + d ∧ u * 4294967296 + d < (u * 4294967296 + d) / Y * Y + Y := by
  obtain ⟨h1, h2, h3, h4, h5, h6⟩ := h
  have hY : 0 < Y := by omega
  refine ⟨Int.ediv_nonneg (by omega) (by omega), Int.ediv_lt_of_lt_mul hY (by omega), Int.ediv_mul_le _ (by omega), ?_⟩
  have := Int.lt_ediv_add_one_mul_self (u * 4294967296 + d) hY
  rw [Int.add_mul] at this; omega

theorem digit_le {Y n q : Int} (hY : 0 < Y) (h : q * Y ≤ n) : q ≤ n / Y := (Int.le_ediv_iff_mul_le hY).2 h
theorem digit_lt {Y n q : Int} (hY : 0 < Y) (h : n < q * Y) : n / Y ≤ q - 1 := by
  have := Int.ediv_lt_of_lt_mul hY h; omega

theorem dg_start {Y u d : Int} (h : Ns Y u d) :
    Dg Y u d (IntKind.u64.wrap (u.tdiv (Y / 4294967296))) (IntKind.u64.wrap (u - IntKind.u64.wrap (IntKind.u64.wrap (u.tdiv (Y / 4294967296)) * (Y / 4294967296)))) := by
  have hb := digit_bounds h
  obtain ⟨h1, h2, h3, h4, h5, h6⟩ := h
  have n0 : 2147483648 ≤ Y / 4294967296 := by omega
  have n1 : Y / 4294967296 < 4294967296 := by omega
  have yn : Y / 4294967296 * 4294967296 ≤ Y := by omega
  unfold Dg
  generalize Y / 4294967296 = n at *
  rw [Int.tdiv_eq_ediv_of_nonneg h3]
  have q0 : 0 ≤ u / n := Int.ediv_nonneg h3 (by omega)
  have q1 : u / n * n ≤ u := Int.ediv_mul_le u (by omega)
  have q2 : u / n ≤ u := Int.ediv_le_self n h3
  have q3 : u < u / n * n + n := by
    have := Int.lt_ediv_add_one_mul_self u (b := n) (by omega); rw [Int.add_mul] at this; omega
  have q4 : 0 ≤ u / n * n := Int.mul_nonneg q0 (by omega)
  rw [u64_id (x := u / n) (by unfold U64; omega), u64_id (x := u / n * n) (by unfold U64; omega), u64_id (x := u - u / n * n) (by unfold U64; omega)]
  refine ⟨by omega, by omega, by omega, ?_⟩
  refine Int.le_trans (digit_lt (by omega) (q := u / n + 1) ?_) (by omega)
  rw [Int.add_mul]
  have k1 : u / n * (n * 4294967296) ≤ u / n * Y := Int.mul_le_mul_of_nonneg_left yn q0
  rw [← Int.mul_assoc] at k1
  omega

theorem dg_step {Y u d q r : Int} (h : Ns Y u d) (g : Dg Y u d q r)
    (c : 4294967296 ≤ q ∨ IntKind.u64.wrap (IntKind.u64.wrap (4294967296 * r) + d) < IntKind.u64.wrap (q * (Y % 4294967296))) :
    IntKind.u64.wrap (q - 1) = q - 1 ∧ IntKind.u64.wrap (r + Y / 4294967296) = r + Y / 4294967296 ∧ 0 ≤ r + Y / 4294967296 ∧
    (q - 1) * (Y / 4294967296) + (r + Y / 4294967296) = u ∧ (u * 4294967296 + d) / Y ≤ q - 1 ∧ 0 ≤ q - 1 := by
  obtain ⟨b1, b2, b3, b4⟩ := digit_bounds h
  obtain ⟨h1, h2, h3, h4, h5, h6⟩ := h
  obtain ⟨g1, g2, g3, g4⟩ := g
  have yn : Y / 4294967296 * 4294967296 + Y % 4294967296 = Y := by omega
  have n0 : 2147483648 ≤ Y / 4294967296 := by omega
  have n1 : Y / 4294967296 < 4294967296 := by omega
  have m0 : 0 ≤ Y % 4294967296 := by omega
  have m1 : Y % 4294967296 < 4294967296 := by omega
  generalize Y / 4294967296 = n at *
  generalize Y % 4294967296 = m at *
  have q0 : 0 ≤ q := by omega
  have qn : q * n ≤ u := by omega
  have qle : q ≤ u := by
    have : q * 1 ≤ q * n := Int.mul_le_mul_of_nonneg_left (by omega) q0
    omega
  have key : (u * 4294967296 + d) / Y ≤ q - 1 := by
    by_cases hq : 4294967296 ≤ q
    · omega
    · have c' := c.resolve_left hq
      have k0 : 0 ≤ q * m := Int.mul_nonneg q0 m0
      have k1 : q * m ≤ 4294967295 * 4294967295 := Int.mul_le_mul (by omega) (by omega) m0 (by omega)
      rw [u64_id (x := 4294967296 * r) (by unfold U64; omega), u64_id (x := 4294967296 * r + d) (by unfold U64; omega), u64_id (x := q * m) (by unfold U64; omega)] at c'
      refine digit_lt (by omega) ?_
      have e : q * Y = q * n * 4294967296 + q * m := by rw [← yn, Int.mul_add, Int.mul_assoc]
      rw [e]; omega
  refine ⟨u64_id (by unfold U64; omega), u64_id (by unfold U64; omega), by omega, ?_, key, by omega⟩
  rw [Int.sub_mul]; omega

theorem dg_break {Y u d q r : Int} (h : Ns Y u d) (r1 : 4294967296 ≤ r) (e : q * (Y / 4294967296) + r = u) (k : (u * 4294967296 + d) / Y ≤ q) :
    (u * 4294967296 + d) / Y = q := by
  obtain ⟨b1, b2, b3, b4⟩ := digit_bounds h
  obtain ⟨h1, h2, h3, h4, h5, h6⟩ := h
  have yn : Y / 4294967296 * 4294967296 + Y % 4294967296 = Y := by omega
  have n0 : 2147483648 ≤ Y / 4294967296 := by omega
  have m0 : 0 ≤ Y % 4294967296 := by omega
  have m1 : Y % 4294967296 < 4294967296 := by omega
  generalize Y / 4294967296 = n at *
  generalize Y % 4294967296 = m at *
  have q0 : 0 ≤ q := by omega
  have q1 : q < 4294967296 := by
    apply Classical.byContradiction
    intro hq
    have : 4294967296 * n ≤ q * n := Int.mul_le_mul_of_nonneg_right (by omega) (by omega)
    omega
  have k1 : q * m ≤ 4294967295 * 4294967295 := Int.mul_le_mul (by omega) (by omega) m0 (by omega)
  have e2 : q * Y = q * n * 4294967296 + q * m := by rw [← yn, Int.mul_add, Int.mul_assoc]
  have : q ≤ (u * 4294967296 + d) / Y := digit_le (by omega) (by omega)
  omega

theorem dg_stop {Y u d q r : Int} (h : Ns Y u d) (g : Dg Y u d q r)
    (c : q < 4294967296 ∧ IntKind.u64.wrap (q * (Y % 4294967296)) ≤ IntKind.u64.wrap (IntKind.u64.wrap (4294967296 * r) + d)) :
    (u * 4294967296 + d) / Y = q := by
  obtain ⟨b1, b2, b3, b4⟩ := digit_bounds h
  obtain ⟨h1, h2, h3, h4, h5, h6⟩ := h
  obtain ⟨g1, g2, g3, g4⟩ := g
  obtain ⟨c1, c2⟩ := c
  have yn : Y / 4294967296 * 4294967296 + Y % 4294967296 = Y := by omega
  have m0 : 0 ≤ Y % 4294967296 := by omega
  have m1 : Y % 4294967296 < 4294967296 := by omega
  generalize Y / 4294967296 = n at *
  generalize Y % 4294967296 = m at *
  have q0 : 0 ≤ q := by omega
  have k0 : 0 ≤ q * m := Int.mul_nonneg q0 m0
  have k1 : q * m ≤ 4294967295 * 4294967295 := Int.mul_le_mul (by omega) (by omega) m0 (by omega)
  rw [u64_id (x := 4294967296 * r) (by unfold U64; omega), u64_id (x := 4294967296 * r + d) (by unfold U64; omega), u64_id (x := q * m) (by unfold U64; omega)] at c2
  have e2 : q * Y = q * n * 4294967296 + q * m := by rw [← yn, Int.mul_add, Int.mul_assoc]
  have : q ≤ (u * 4294967296 + d) / Y := digit_le (by omega) (by omega)
  omega

theorem dg_next {Y u d q r : Int} (h : Ns Y u d) (g : Dg Y u d q r)
    (c : 4294967296 ≤ q ∨ IntKind.u64.wrap (IntKind.u64.wrap (4294967296 * r) + d) < IntKind.u64.wrap (q * (Y % 4294967296)))
    (r1 : IntKind.u64.wrap (r + Y / 4294967296) < 4294967296) :
    Dg Y u d (IntKind.u64.wrap (q - 1)) (IntKind.u64.wrap (r + Y / 4294967296)) ∧
    (intOf (Value.int .u64 (IntKind.u64.wrap (q - 1)))).toNat < (intOf (Value.int .u64 q)).toNat := by
  obtain ⟨a1, a2, a3, a4, a5, a6⟩ := dg_step h g c
  rw [a2] at r1
  rw [a1, a2]
  exact ⟨⟨a3, r1, a4, a5⟩, by simp only [intOf]; omega⟩
theorem dg_end {Y u d q r : Int} (h : Ns Y u d) (g : Dg Y u d q r)
    (c : 4294967296 ≤ q ∨ IntKind.u64.wrap (IntKind.u64.wrap (4294967296 * r) + d) < IntKind.u64.wrap (q * (Y % 4294967296)))
    (r1 : 4294967296 ≤ IntKind.u64.wrap (r + Y / 4294967296)) : (u * 4294967296 + d) / Y = IntKind.u64.wrap (q - 1) := by
  obtain ⟨a1, a2, a3, a4, a5, a6⟩ := dg_step h g c
  rw [a2] at r1
  rw [a1]
  exact dg_break h r1 a4 a5
/-- What is left behind the first digit. -/
theorem dg_rest {Y u d q : Int} (h : Ns Y u d) (e : (u * 4294967296 + d) / Y = q) :
    IntKind.u64.wrap (IntKind.u64.wrap (IntKind.u64.wrap (u * 4294967296) + d) - IntKind.u64.wrap (q * Y)) = u * 4294967296 + d - q * Y ∧
    0 ≤ u * 4294967296 + d - q * Y ∧ u * 4294967296 + d - q * Y < Y := by
  obtain ⟨b1, b2, b3, b4⟩ := digit_bounds h
  obtain ⟨h1, h2, h3, h4, h5, h6⟩ := h
  rw [e] at b1 b2 b3 b4
  generalize q * Y = p at *
  simp only [IntKind.wrap_u64]
  omega

/-- Both digits together. -/
theorem dg_both {Y u v q1 q2 : Int} (hY : 9223372036854775808 ≤ Y) (h : Ns Y u (v / 4294967296)) (hv : 0 ≤ v)
    (e1 : (u * 4294967296 + v / 4294967296) / Y = q1)
    (e2 : ((u * 4294967296 + v / 4294967296 - q1 * Y) * 4294967296 + v % 4294967296) / Y = q2) :
    IntKind.u64.wrap (IntKind.u64.wrap (q1 * 4294967296) + q2) = (u * 18446744073709551616 + v) / Y := by
  have r1 := (dg_rest h e1).2
  have b := digit_bounds h
  have b' := digit_bounds (Y := Y) (u := u * 4294967296 + v / 4294967296 - q1 * Y) (d := v % 4294967296) ⟨hY, h.2.1, r1.1, r1.2, by omega, by omega⟩
  rw [e1] at b
  rw [e2] at b'
  have k : (u * 18446744073709551616 + v) / Y = q1 * 4294967296 + q2 := by
    have e : u * 18446744073709551616 + v = (u * 4294967296 + v / 4294967296 - q1 * Y) * 4294967296 + v % 4294967296 + (q1 * 4294967296) * Y := by
      have : q1 * 4294967296 * Y = q1 * Y * 4294967296 := by rw [Int.mul_assoc, Int.mul_comm 4294967296, ← Int.mul_assoc]
      rw [this]; generalize q1 * Y = p; omega
    rw [e, Int.add_mul_ediv_right _ _ (by omega), e2]; omega
  rw [k]
  rw [u64_id (x := q1 * 4294967296) (by unfold U64; omega), u64_id (by unfold U64; omega)]

/-- What Div64's first lines make: Y, U, V; and what their quotient is. -/
theorem div_setup {hi lo y : Int} (hh : U64 hi) (hl : U64 lo) (hy : U64 y) (h2 : hi < y) :
    ∃ Y U V : Int, IntKind.u64.wrap (y * 2 ^ (64 - Lib.bitLen y.toNat)) = Y ∧
      bits BinOp.or IntKind.u64 (IntKind.u64.wrap (hi * 2 ^ (64 - Lib.bitLen y.toNat))) (lo / 2 ^ (64 - (64 - Lib.bitLen y.toNat))) = U ∧
      IntKind.u64.wrap (lo * 2 ^ (64 - Lib.bitLen y.toNat)) = V ∧ Ns Y U (V / 4294967296) ∧ 0 ≤ V ∧ V < 18446744073709551616 ∧
      (U * 18446744073709551616 + V) / Y = (hi * 18446744073709551616 + lo) / y := by
  obtain ⟨hi, rfl⟩ := Int.eq_ofNat_of_zero_le hh.1
  obtain ⟨lo, rfl⟩ := Int.eq_ofNat_of_zero_le hl.1
  obtain ⟨y, rfl⟩ := Int.eq_ofNat_of_zero_le hy.1
  have hh1 : hi < 18446744073709551616 := by have := hh.2; omega
  have hl1 : lo < 18446744073709551616 := by have := hl.2; omega
  have hy1 : y < 18446744073709551616 := by have := hy.2; omega
  have h3 : hi < y := by omega
  simp only [Int.toNat_natCast]
  have n := norm_y y (by omega) hy1
  have bp := bitLen_pos y (by omega) (by omega)
  have bl : Lib.bitLen y ≤ 64 := Lib.bitLen_le y 64 (by omega) (by omega)
  have sh := shift_up hi lo y (64 - Lib.bitLen y) (by omega) hl1 n.2 h3
  generalize hs : 64 - Lib.bitLen y = s at *
  have p1 := Nat.two_pow_pos s
  obtain ⟨s1, s2, s3⟩ := sh
  have c1 : (y : Int) * 2 ^ s = ((y * 2 ^ s : Nat) : Int) := by simp
  have c2 : (hi : Int) * 2 ^ s = ((hi * 2 ^ s : Nat) : Int) := by simp
  have c3 : (lo : Int) * 2 ^ s = ((lo * 2 ^ s : Nat) : Int) := by simp
  have c4 : (lo : Int) / 2 ^ (64 - s) = ((lo / 2 ^ (64 - s) : Nat) : Int) := by simp
  have q : ((hi * 2 ^ s + lo / 2 ^ (64 - s) : Nat) : Int) * 18446744073709551616 + ((lo * 2 ^ s % 18446744073709551616 : Nat) : Int) = ((hi : Int) * 18446744073709551616 + lo) * ((2 ^ s : Nat) : Int) := by
    have := congrArg (fun n : Nat => (n : Int)) s2
    simp only [Int.natCast_add, Int.natCast_mul] at this ⊢
    exact this
  have q2 : ((hi : Int) * 18446744073709551616 + lo) * ((2 ^ s : Nat) : Int) / ((y * 2 ^ s : Nat) : Int) = ((hi : Int) * 18446744073709551616 + lo) / y := by
    rw [Int.natCast_mul, Int.mul_ediv_mul_of_pos_left _ _ (by omega)]
  refine ⟨_, _, _, rfl, rfl, rfl, ?_⟩
  rw [c1, c2, c3, c4]
  rw [← q2, ← q]
  clear q q2 c1 c2 c3 c4 s2
  generalize y * 2 ^ s = Yn at *
  generalize hi * 2 ^ s = Hn at *
  generalize lo * 2 ^ s = Ln at *
  generalize lo / 2 ^ (64 - s) = Mn at *
  have w1 : IntKind.u64.wrap (Yn : Int) = (Yn : Int) := u64_id (by unfold U64; omega)
  have w2 : IntKind.u64.wrap (Hn : Int) = (Hn : Int) := u64_id (by unfold U64; omega)
  have w3 : IntKind.u64.wrap (Ln : Int) = ((Ln % 18446744073709551616 : Nat) : Int) := by simp only [IntKind.wrap_u64]; omega
  rw [w1, w2, w3, bits_or_u64_nat _ _ (by omega) (by omega), s1]
  refine ⟨⟨by omega, by omega, by omega, by omega, by omega, by omega⟩, by omega, by omega, rfl⟩
end M
end Go.Proofs.Ytcaibieaobhheaa
