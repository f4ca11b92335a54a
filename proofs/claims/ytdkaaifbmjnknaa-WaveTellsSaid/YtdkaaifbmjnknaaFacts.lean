/- Closed facts of the seat's program, reckoned once: what every row's step asks again. -/
import Derived.Test.YtdkaaifbmjnknaaRows
import Derived.ProofKit
namespace Go.Proofs.Ytdkaaifbmjnknaa
open Go
set_option maxRecDepth 100000
def sp : Char := Char.ofNat 32
theorem ws_cons (c : Char) (r : List Char) (h : c ≠ sp) : wordsSigns (c :: r) = match wordsSigns r with | w :: ws => (c :: w) :: ws | [] => [[c]] := by
  rw [wordsSigns]
  · rfl
  · exact h
theorem ws_word : ∀ (w r : List Char), w.all (fun c => decide (c ≠ sp)) = true → wordsSigns (w ++ sp :: r) = w :: wordsSigns r
  | [], r, _ => rfl
  | c :: w, r, h => by
    simp only [List.all_cons, Bool.and_eq_true, decide_eq_true_eq] at h
    rw [List.cons_append, ws_cons c _ h.1, ws_word w r h.2]
def word1 : List Char := [104, 97, 114, 110, 101, 115, 115].map Char.ofNat
def word2 : List Char := [97, 102, 50, 51, 102, 55, 100, 53, 98, 56, 98, 97, 98, 48, 49, 50, 97, 51, 51, 50, 102, 98, 98, 51, 100, 49, 97, 102, 54, 48, 52, 54, 54, 57, 52, 50, 101, 52, 54, 56, 50, 55, 102, 99, 101, 101, 55, 57, 97, 48, 52, 52, 49, 56, 98, 101, 52, 101, 101, 55, 48, 101, 97, 99].map Char.ofNat
def word3 : List Char := [99, 117, 116].map Char.ofNat
def words4 : List Char := [97, 116, 32, 109, 97, 113, 117, 101, 116, 116, 101, 47, 109, 97, 113, 117, 101, 116, 116, 101, 108, 97, 119, 52, 46, 82, 111, 111, 116, 84, 101, 108, 108, 115, 32, 109, 97, 113, 117, 101, 116, 116, 101, 47, 109, 97, 113, 117, 101, 116, 116, 101, 108, 97, 119, 52, 46, 82, 111, 111, 116, 83, 113, 117, 97, 114, 101, 115, 32, 109, 97, 113, 117, 101, 116, 116, 101, 47, 109, 97, 113, 117, 101, 116, 116, 101, 108, 97, 119, 52, 46, 82, 111, 111, 116, 76, 101, 110, 103, 116, 104, 115, 32, 109, 97, 113, 117, 101, 116, 116, 101, 47, 109, 97, 113, 117, 101, 116, 116, 101, 108, 97, 119, 52, 46, 82, 111, 111, 116, 82, 105, 115, 101, 115, 32, 109, 97, 113, 117, 101, 116, 116, 101, 47, 109, 97, 113, 117, 101, 116, 116, 101, 108, 97, 119, 52, 46, 82, 111, 111, 116, 83, 105, 100, 101, 115, 32, 109, 97, 113, 117, 101, 116, 116, 101, 47, 109, 97, 113, 117, 101, 116, 116, 101, 108, 97, 119, 52, 46, 82, 111, 111, 116, 83, 99, 97, 108, 101, 115, 32, 109, 97, 113, 117, 101, 116, 116, 101, 47, 109, 97, 113, 117, 101, 116, 116, 101, 108, 97, 119, 52, 46, 82, 111, 111, 116, 66, 101, 108, 111, 119, 32, 109, 97, 113, 117, 101, 116, 116, 101, 47, 109, 97, 113, 117, 101, 116, 116, 101, 108, 97, 119, 49, 46, 70, 105, 120, 68, 105, 118, 105, 100, 101, 115, 32, 109, 97, 113, 117, 101, 116, 116, 101, 47, 109, 97, 113, 117, 101, 116, 116, 101, 108, 97, 119, 49, 46, 70, 105, 120, 72, 97, 108, 118, 101, 115, 32, 109, 97, 113, 117, 101, 116, 116, 101, 47, 109, 97, 113, 117, 101, 116, 116, 101, 108, 97, 119, 49, 46, 70, 105, 120, 79, 114, 100, 101, 114, 115, 32, 109, 97, 113, 117, 101, 116, 116, 101, 47, 109, 97, 113, 117, 101, 116, 116, 101, 108, 97, 119, 49, 46, 70, 105, 120, 76, 97, 119, 115, 32, 109, 97, 113, 117, 101, 116, 116, 101, 47, 109, 97, 113, 117, 101, 116, 116, 101, 108, 97, 119, 49, 46, 70, 105, 120, 87, 104, 111, 108, 101, 115, 32, 109, 97, 113, 117, 101, 116, 116, 101, 47, 109, 97, 113, 117, 101, 116, 116, 101, 108, 97, 119, 49, 46, 70, 105, 120, 84, 101, 108, 108, 115, 32, 109, 97, 113, 117, 101, 116, 116, 101, 47, 109, 97, 113, 117, 101, 116, 116, 101, 108, 97, 119, 49, 46, 70, 105, 120, 83, 105, 103, 110, 115, 32, 109, 97, 113, 117, 101, 116, 116, 101, 47, 109, 97, 113, 117, 101, 116, 116, 101, 108, 97, 119, 49, 46, 70, 105, 120, 69, 100, 103, 101, 115, 32, 109, 97, 113, 117, 101, 116, 116, 101, 47, 109, 97, 113, 117, 101, 116, 116, 101, 108, 97, 119, 53, 46, 87, 97, 118, 101, 84, 101, 108, 108, 115, 32, 109, 97, 113, 117, 101, 116, 116, 101, 47, 109, 97, 113, 117, 101, 116, 116, 101, 108, 97, 119, 53, 46, 87, 97, 118, 101, 84, 117, 114, 110, 115, 32, 109, 97, 113, 117, 101, 116, 116, 101, 47, 109, 97, 113, 117, 101, 116, 116, 101, 108, 97, 119, 53, 46, 87, 97, 118, 101, 82, 105, 115, 101, 115, 32, 109, 97, 113, 117, 101, 116, 116, 101, 47, 109, 97, 113, 117, 101, 116, 116, 101, 108, 97, 119, 53, 46, 87, 97, 118, 101, 82, 111, 116, 97, 116, 101, 115, 32, 109, 97, 113, 117, 101, 116, 116, 101, 47, 109, 97, 113, 117, 101, 116, 116, 101, 108, 97, 119, 53, 46, 87, 97, 118, 101, 83, 113, 117, 97, 114, 101, 115, 32, 109, 97, 113, 117, 101, 116, 116, 101, 47, 109, 97, 113, 117, 101, 116, 116, 101, 108, 97, 119, 53, 46, 87, 97, 118, 101, 79, 100, 100, 32, 109, 97, 113, 117, 101, 116, 116, 101, 47, 109, 97, 113, 117, 101, 116, 116, 101, 108, 97, 119, 53, 46, 87, 97, 118, 101, 83, 109, 111, 111, 116, 104].map Char.ofNat
theorem fact_init : Try.prog.initOrder = String.ofList (word1 ++ sp :: (word2 ++ sp :: (word3 ++ sp :: words4))) := by kernel_rfl
theorem fact_words : behindMainWord (wordsSigns Try.prog.initOrder.toList) = word3 :: wordsSigns words4 := by
  rw [fact_init, String.toList_ofList, ws_word word1 _ (by decide +kernel), ws_word word2 _ (by decide +kernel), ws_word word3 _ (by decide +kernel)]
  show (if ((word1 == "harness".toList || word1 == "ownmain".toList) && isSumSigns word2) = true then word3 :: wordsSigns words4 else word1 :: word2 :: word3 :: wordsSigns words4) = word3 :: wordsSigns words4
  rw [if_pos (by decide +kernel)]
theorem fact_laid : laidOutB Try.prog = true := by kernel_rfl
theorem fact_maps : mapsRowed Try.prog = true := by kernel_rfl
theorem fact_keys : Try.prog.plainKeys = true := by kernel_rfl
theorem fact_heard : Try.prog.stopsHeard = true := by kernel_rfl
theorem fact_stops : Try.prog.stops = [] := by kernel_rfl
theorem fact_knobs : Try.prog.stopKnobs = [] := by kernel_rfl
theorem fact_head : Try.prog.headLifts = [] := by
  unfold Program.headLifts; rw [fact_words]; generalize wordsSigns words4 = r; cases r <;> kernel_rfl
theorem fact_later : Try.prog.laysLater = false := by kernel_rfl
theorem fact_reflect : Try.prog.bearsReflect = false := by kernel_rfl
theorem fact_strip (r : List (List Char)) : stripLifts liftWords (word3 :: r) = ([], word3 :: r) := by cases r <;> kernel_rfl
theorem fact_door : Try.prog.doorFits [] = true := by kernel_rfl
theorem gen_enter {r : List (List Char)} (P : Program) (h : behindMainWord (wordsSigns P.initOrder.toList) = word3 :: r) (h1 : P.laysLater = false) (h2 : P.bearsReflect = false) (h3 : P.doorFits [] = true) : P.mayEnter = true := by
  unfold Program.mayEnter; rw [h]; simp only [fact_strip, h1, h2, h3]; kernel_rfl
theorem gen_make {r : List (List Char)} (P : Program) (h : behindMainWord (wordsSigns P.initOrder.toList) = word3 :: r) (h2 : P.headLifts = []) : P.make = some .cut := by
  unfold Program.make; rw [h, h2]; kernel_rfl
theorem gen_lifts {r : List (List Char)} (P : Program) (h : behindMainWord (wordsSigns P.initOrder.toList) = word3 :: r) (h2 : P.headLifts = []) : P.liftsFinal = false := by
  unfold Program.liftsFinal; rw [h, h2]; kernel_rfl
theorem fact_enter : Try.prog.mayEnter = true := gen_enter _ fact_words fact_later fact_reflect fact_door
theorem fact_lifts : Try.prog.liftsFinal = false := gen_lifts _ fact_words fact_head
theorem fact_make : Try.prog.make = some .cut := gen_make _ fact_words fact_head
end Go.Proofs.Ytdkaaifbmjnknaa
