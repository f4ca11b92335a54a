/- Arguments that are lists of numbers: opened, and read again in a world in which nothing that was there has turned. -/
import Derived.Test.YtaagpkacningdaaArgs
import Derived.Test.YtaagpkacningdaaDot2
import Derived.Test.YtaagpkacningdaaFacts
import Derived.SliceStrings
namespace Go.Proofs.Ytaagpkacningdaa
open Go.ChangeShapes Go.WideShapes Go.RowKit M
set_option maxRecDepth 100000
set_option linter.unusedVariables false
section
variable {H : Type} {enc : TypeId × Value → H} {W : World}
theorem open_row {r : Reach} {b0 : Nat} {v : Value} {d : DataW H} {p : List MemPlace} (hv : Value.okWide Try.prog W r b0 56 v) (h : DataW.Trod enc Try.prog W 0 (fun _ => true) true 56 v d p) :
    ∃ (oa : Option Addr) (cap : Nat) (xs : List Int), v = .slice oa xs.length cap ∧ Row W oa xs ∧ xs.length ≤ cap ∧ cap < 9223372036854775808 ∧ (oa = none → cap = 0) := by
  obtain ⟨a0, len, cap, rfl⟩ := okWide_slice Try.underlying56 hv
  obtain ⟨n, hn⟩ := h
  rcases open_ints Try.underlying56 Try.underlying22 cFix hn with ⟨h1, h2⟩ | ⟨a, len', cap', zs, h1, hb, hl, hm, hz, hx, hc, hw⟩
  · simp [Value.cells] at h1
    obtain ⟨rfl, rfl, rfl⟩ := h1
    exact ⟨none, 0, [], rfl, fun i x hx => by simp at hx, Nat.le_refl _, by decide, fun _ => rfl⟩
  · simp [Value.cells] at h1
    obtain ⟨rfl, rfl, rfl⟩ := h1
    simp only [if_true] at hz
    have e : (zs.take len).length = len := by rw [List.length_take, hz]; omega
    refine ⟨some a, cap, zs.take len, by rw [e], ?_, by rw [e]; exact hl, by unfold maxLen at hm; omega, fun h => by cases h⟩
    intro i x hj
    have hi : i < zs.length := by
      have := (List.getElem?_eq_some_iff.1 hj).1; rw [e] at this; omega
    obtain ⟨b, off, rfl, hcc⟩ := Go.ints_at hc (by omega)
    have hx' : zs[i]? = some x := by rw [List.getElem?_take] at hj; split at hj; exact hj; cases hj
    refine ⟨b, off, rfl, ?_, ?_⟩
    · rw [hcc i hi, List.getD_eq_getElem?_getD, hx']; rfl
    · exact i64_wf (hw x (List.mem_of_getElem? hx'))
theorem keep_row {W' : World} {sp' : Nat → Bool} {v : Value} {d : DataW H} {p : List MemPlace} (h : DataW.Trod enc Try.prog W 0 (fun _ => true) true 56 v d p) (hb : Bw W W') (hlt : ∀ x ∈ p, x.block < W.heap.size) (hs : ∀ x ∈ p, sp' x.block = true) :
    DataW.Trod enc Try.prog W' 0 sp' true 56 v d p :=
  WideElems.Trod_stays fact_laid (by kernel_rfl) (of_decide_eq_true (by kernel_rfl)) h (fun x hx => hb.same (hlt x hx)) hs
end
theorem Row.take {w : World} {oa : Option Addr} {xs : List Int} (h : Row w oa xs) (j : Nat) : Row w oa (xs.take j) := by
  intro i x hx
  refine h i x ?_
  rw [List.getElem?_take] at hx; split at hx; exact hx; cases hx
theorem Row.drop {w : World} {a : Addr} {xs : List Int} (h : Row w (some a) xs) (j c : Nat) (hl : xs.length ≤ c) : Row w (some (if c = j then a else a.add j)) (xs.drop j) := by
  intro i x hx
  rw [List.getElem?_drop] at hx
  have hi := (List.getElem?_eq_some_iff.1 hx).1
  obtain ⟨b, o, e, hc, hi64⟩ := h _ x hx
  injection e with e
  subst e
  refine ⟨b, o + j, ?_, ?_, hi64⟩
  · rw [if_neg (by omega)]; simp [Addr.add]
  · rw [Nat.add_assoc]; exact hc
theorem Row.dropMap {w : World} {oa : Option Addr} {xs : List Int} (h : Row w oa xs) (j : Nat) : Row w (oa.map (fun x => x.add j)) (xs.drop j) := by
  intro i x hx
  rw [List.getElem?_drop] at hx
  obtain ⟨b, o, e, hc, hi64⟩ := h _ x hx
  subst e
  refine ⟨b, o + j, ?_, ?_, hi64⟩
  · simp [Addr.add]
  · rw [Nat.add_assoc]; exact hc
theorem sumE_i64 (xs : List Int) : I64 (sumE xs).1 := by
  unfold sumE toldR
  split
  · exact sumR_i64 xs 0 (i64_lit (by decide))
  · show I64 0; exact i64_lit (by decide)
end Go.Proofs.Ytaagpkacningdaa
