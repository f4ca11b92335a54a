/- Of every angle within a turn: a sine's and a cosine's squares make about One (reckoned, one by one). -/
import Derived.Test.YtdkaaifbmjnknaaWaveMath
namespace Go.Proofs.Ytdkaaifbmjnknaa
open Go.RowKit M
set_option linter.unusedVariables false
set_option maxRecDepth 100000
namespace M
/-- What the law asks, of one angle within a turn: s and c are cut by eight bits. -/
def sqOk (n : Int) : Bool :=
  let s := sinN n / 256
  let c := sinN ((n + 16384) % 65536) / 256
  decide (16441673 ≤ (s * s + c * c) / 16777216) && decide ((s * s + c * c) / 16777216 ≤ 17112759)
def sqAll (base : Nat) : Nat → Bool
  | 0 => true
  | k + 1 => sqOk ((base + k : Nat) : Int) && sqAll base k
theorem sqAll_get {base k j : Nat} (h : sqAll base k = true) (hj : j < k) : sqOk ((base + j : Nat) : Int) = true := by
  induction k with
  | zero => omega
  | succ k ih =>
    simp only [sqAll, Bool.and_eq_true] at h
    by_cases e : j = k
    · subst e; exact h.1
    · exact ih h.2 (by omega)
theorem sq_c0 : sqAll 0 4096 = true := by decide +kernel
theorem sq_c1 : sqAll 4096 4096 = true := by decide +kernel
theorem sq_c2 : sqAll 8192 4096 = true := by decide +kernel
theorem sq_c3 : sqAll 12288 4096 = true := by decide +kernel
theorem sq_c4 : sqAll 16384 4096 = true := by decide +kernel
theorem sq_c5 : sqAll 20480 4096 = true := by decide +kernel
theorem sq_c6 : sqAll 24576 4096 = true := by decide +kernel
theorem sq_c7 : sqAll 28672 4096 = true := by decide +kernel
theorem sq_c8 : sqAll 32768 4096 = true := by decide +kernel
theorem sq_c9 : sqAll 36864 4096 = true := by decide +kernel
theorem sq_c10 : sqAll 40960 4096 = true := by decide +kernel
theorem sq_c11 : sqAll 45056 4096 = true := by decide +kernel
theorem sq_c12 : sqAll 49152 4096 = true := by decide +kernel
theorem sq_c13 : sqAll 53248 4096 = true := by decide +kernel
theorem sq_c14 : sqAll 57344 4096 = true := by decide +kernel
theorem sq_c15 : sqAll 61440 4096 = true := by decide +kernel
theorem sq_all {n : Int} (h0 : 0 ≤ n) (h1 : n < 65536) : sqOk n = true := by
  obtain ⟨n, rfl⟩ := Int.eq_ofNat_of_zero_le h0
  have hn : n < 65536 := by omega
  have key : ∀ b, sqAll (b * 4096) 4096 = true → n / 4096 = b → sqOk (n : Int) = true := by
    intro b hb e
    have := sqAll_get (j := n % 4096) hb (by omega)
    rwa [show b * 4096 + n % 4096 = n by omega] at this
  have hd : n / 4096 = 0 ∨ n / 4096 = 1 ∨ n / 4096 = 2 ∨ n / 4096 = 3 ∨ n / 4096 = 4 ∨ n / 4096 = 5 ∨ n / 4096 = 6 ∨ n / 4096 = 7 ∨ n / 4096 = 8 ∨ n / 4096 = 9 ∨ n / 4096 = 10 ∨ n / 4096 = 11 ∨ n / 4096 = 12 ∨ n / 4096 = 13 ∨ n / 4096 = 14 ∨ n / 4096 = 15 := by omega
  rcases hd with h | h | h | h | h | h | h | h | h | h | h | h | h | h | h | h
  · exact key 0 sq_c0 h
  · exact key 1 sq_c1 h
  · exact key 2 sq_c2 h
  · exact key 3 sq_c3 h
  · exact key 4 sq_c4 h
  · exact key 5 sq_c5 h
  · exact key 6 sq_c6 h
  · exact key 7 sq_c7 h
  · exact key 8 sq_c8 h
  · exact key 9 sq_c9 h
  · exact key 10 sq_c10 h
  · exact key 11 sq_c11 h
  · exact key 12 sq_c12 h
  · exact key 13 sq_c13 h
  · exact key 14 sq_c14 h
  · exact key 15 sq_c15 h
end M
end Go.Proofs.Ytdkaaifbmjnknaa
