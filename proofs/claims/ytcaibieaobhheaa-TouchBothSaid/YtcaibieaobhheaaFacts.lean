/- Closed facts of the seat's program, reckoned once: what every row's step asks again. -/
import Derived.Test.YtcaibieaobhheaaRows
import Derived.ProofKit
namespace Go.Proofs.Ytcaibieaobhheaa
open Go
set_option maxRecDepth 100000
def sp : Char := Char.ofNat 32
theorem ws_cons (c : Char) (r : List Char) (h : c ≠ sp) : wordsSigns (c :: r) = match wordsSigns r with | w :: ws => (c :: w) :: ws | [] => [[c]] := by
  rw [wordsSigns]
  · rfl
  · exact h
theorem ws_word : ∀ (w r : List Char), w.all (fun c => decide (c ≠ sp)) = true → wordsSigns (w ++ sp :: r) = w :: wordsSigns r
  | [], r, _ => rfl
  | c :: w, r, h => by
    simp only [List.all_cons, Bool.and_eq_true, decide_eq_true_eq] at h
    rw [List.cons_append, ws_cons c _ h.1, ws_word w r h.2]
def word1 : List Char := [104, 97, 114, 110, 101, 115, 115].map Char.ofNat
def word2 : List Char := [55, 57, 99, 48, 53, 99, 55, 55, 51, 102, 51, 102, 52, 51, 97, 54, 49, 98, 98, 97, 54, 49, 101, 50, 50, 52, 52, 48, 57, 54, 102, 49, 48, 50, 53, 54, 53, 52, 52, 53, 102, 102, 57, 101, 97, 100, 57, 99, 53, 56, 99, 97, 49, 57, 51, 56, 50, 57, 51, 49, 50, 54, 48, 48].map Char.ofNat
def word3 : List Char := [99, 117, 116].map Char.ofNat
def words4 : List Char := [97, 116, 32, 109, 97, 113, 117, 101, 116, 116, 101, 47, 109, 97, 113, 117, 101, 116, 116, 101, 108, 97, 119, 49, 48, 46, 84, 111, 117, 99, 104, 77, 111, 118, 101, 115, 32, 109, 97, 113, 117, 101, 116, 116, 101, 47, 109, 97, 113, 117, 101, 116, 116, 101, 108, 97, 119, 49, 48, 46, 84, 111, 117, 99, 104, 66, 111, 116, 104, 32, 109, 97, 113, 117, 101, 116, 116, 101, 47, 109, 97, 113, 117, 101, 116, 116, 101, 108, 97, 119, 49, 48, 46, 84, 111, 117, 99, 104, 70, 97, 114, 32, 109, 97, 113, 117, 101, 116, 116, 101, 47, 109, 97, 113, 117, 101, 116, 116, 101, 108, 97, 119, 49, 49, 46, 80, 117, 115, 104, 65, 112, 97, 114, 116, 32, 109, 97, 113, 117, 101, 116, 116, 101, 47, 109, 97, 113, 117, 101, 116, 116, 101, 108, 97, 119, 49, 49, 46, 80, 117, 115, 104, 83, 108, 111, 119, 115, 32, 109, 97, 113, 117, 101, 116, 116, 101, 47, 109, 97, 113, 117, 101, 116, 116, 101, 108, 97, 119, 49, 49, 46, 80, 117, 115, 104, 84, 101, 108, 108, 115, 32, 109, 97, 113, 117, 101, 116, 116, 101, 47, 109, 97, 113, 117, 101, 116, 116, 101, 108, 97, 119, 49, 49, 46, 80, 117, 115, 104, 75, 101, 101, 112, 115, 32, 109, 97, 113, 117, 101, 116, 116, 101, 47, 109, 97, 113, 117, 101, 116, 116, 101, 108, 97, 119, 49, 49, 46, 80, 117, 115, 104, 70, 105, 120, 101, 100, 32, 109, 97, 113, 117, 101, 116, 116, 101, 47, 109, 97, 113, 117, 101, 116, 116, 101, 108, 97, 119, 51, 46, 67, 97, 108, 99, 80, 97, 110, 105, 99, 115, 32, 109, 97, 113, 117, 101, 116, 116, 101, 47, 109, 97, 113, 117, 101, 116, 116, 101, 108, 97, 119, 51, 46, 67, 97, 108, 99, 78, 101, 115, 116, 101, 100, 32, 109, 97, 113, 117, 101, 116, 116, 101, 47, 109, 97, 113, 117, 101, 116, 116, 101, 108, 97, 119, 56, 46, 66, 111, 117, 110, 100, 115, 67, 108, 97, 109, 112, 115, 32, 109, 97, 113, 117, 101, 116, 116, 101, 47, 109, 97, 113, 117, 101, 116, 116, 101, 108, 97, 119, 55, 46, 83, 104, 97, 112, 101, 83, 112, 101, 101, 100, 115].map Char.ofNat
theorem fact_init : Try.prog.initOrder = String.ofList (word1 ++ sp :: (word2 ++ sp :: (word3 ++ sp :: words4))) := by kernel_rfl
theorem fact_words : behindMainWord (wordsSigns Try.prog.initOrder.toList) = word3 :: wordsSigns words4 := by
  rw [fact_init, String.toList_ofList, ws_word word1 _ (by decide +kernel), ws_word word2 _ (by decide +kernel), ws_word word3 _ (by decide +kernel)]
  show (if ((word1 == "harness".toList || word1 == "ownmain".toList) && isSumSigns word2) = true then word3 :: wordsSigns words4 else word1 :: word2 :: word3 :: wordsSigns words4) = word3 :: wordsSigns words4
  rw [if_pos (by decide +kernel)]
theorem fact_laid : laidOutB Try.prog = true := by kernel_rfl
theorem fact_maps : mapsRowed Try.prog = true := by kernel_rfl
theorem fact_keys : Try.prog.plainKeys = true := by kernel_rfl
theorem fact_heard : Try.prog.stopsHeard = true := by kernel_rfl
theorem fact_stops : Try.prog.stops = [] := by kernel_rfl
theorem fact_knobs : Try.prog.stopKnobs = [] := by kernel_rfl
theorem fact_head : Try.prog.headLifts = [] := by
  unfold Program.headLifts; rw [fact_words]; generalize wordsSigns words4 = r; cases r <;> kernel_rfl
theorem fact_later : Try.prog.laysLater = false := by kernel_rfl
theorem fact_reflect : Try.prog.bearsReflect = false := by kernel_rfl
theorem fact_strip (r : List (List Char)) : stripLifts liftWords (word3 :: r) = ([], word3 :: r) := by cases r <;> kernel_rfl
theorem fact_door : Try.prog.doorFits [] = true := by kernel_rfl
theorem gen_enter {r : List (List Char)} (P : Program) (h : behindMainWord (wordsSigns P.initOrder.toList) = word3 :: r) (h1 : P.laysLater = false) (h2 : P.bearsReflect = false) (h3 : P.doorFits [] = true) : P.mayEnter = true := by
  unfold Program.mayEnter; rw [h]; simp only [fact_strip, h1, h2, h3]; kernel_rfl
theorem gen_make {r : List (List Char)} (P : Program) (h : behindMainWord (wordsSigns P.initOrder.toList) = word3 :: r) (h2 : P.headLifts = []) : P.make = some .cut := by
  unfold Program.make; rw [h, h2]; kernel_rfl
theorem gen_lifts {r : List (List Char)} (P : Program) (h : behindMainWord (wordsSigns P.initOrder.toList) = word3 :: r) (h2 : P.headLifts = []) : P.liftsFinal = false := by
  unfold Program.liftsFinal; rw [h, h2]; kernel_rfl
theorem fact_enter : Try.prog.mayEnter = true := gen_enter _ fact_words fact_later fact_reflect fact_door
theorem fact_lifts : Try.prog.liftsFinal = false := gen_lifts _ fact_words fact_head
theorem fact_make : Try.prog.make = some .cut := gen_make _ fact_words fact_head
end Go.Proofs.Ytcaibieaobhheaa
