/- Which bodies there may be: package shape's answer. -/
import Derived.Test.YtcaibieaobhheaaShape
namespace Go.Proofs.Ytcaibieaobhheaa
open Go.RowKit M
set_option maxRecDepth 100000
set_option maxHeartbeats 4000000
set_option linter.unusedVariables false
set_option linter.unusedSimpArgs false

theorem right_x (b : Bd) (w : World) :
    Calls Try.prog 97 #[.agg #[.int .i64 b.shape, .int .i64 b.sx, .int .i64 b.sy, .int .i64 b.mass, .int .i64 b.px, .int .i64 b.py, .int .i64 b.mx, .int .i64 b.my]] w fun en w' => en = .returned (.bool (rightB b)) ∧ Bw w w' := by
  obtain ⟨sh, sx, sy, ma, px, py, mx, my⟩ := b
  dsimp only
  have c := name_x sh
  have r3 := in_x sx 67108864 4294967296000
  have r4 := in_x sy 67108864 4294967296000
  have r5 := in_x ma 67108864 42949672960000
  generalize hs : inB sx 67108864 4294967296000 = A at r3
  generalize ht : inB sy 67108864 4294967296000 = B at r4
  generalize hu : inB ma 67108864 42949672960000 = D at r5
  have R3 := Lib.hid r3; have R4 := Lib.hid r4; have R5 := Lib.hid r5; have HS := Lib.hid hs; have HT := Lib.hid ht; have HU := Lib.hid hu
  clear r3 r4 r5 hs ht hu
  have r1 := near_x px py 42949672960000 (by omega) (by omega)
  have r2 := near_x mx my 4294967296000000 (by omega) (by omega)
  generalize hp : (inB px (-42949672960000) 42949672960000 && inB py (-42949672960000) 42949672960000) = P at r1
  generalize hq : (inB mx (-4294967296000000) 4294967296000000 && inB my (-4294967296000000) 4294967296000000) = Q at r2
  have R1 := Lib.hid r1; have R2 := Lib.hid r2; have HP := Lib.hid hp; have HQ := Lib.hid hq
  clear r1 r2 hp hq
  have h : sh = 1 ∨ sh = 2 ∨ ((sh == 1) = false ∧ (sh == 2) = false ∧ nameS sh = ⟨#[]⟩) := by
    by_cases h1 : sh = 1
    · exact .inl h1
    · by_cases h2 : sh = 2
      · exact .inr (.inl h2)
      · exact .inr (.inr ⟨beq_eq_false_iff_ne.2 h1, beq_eq_false_iff_ne.2 h2, by unfold nameS; rw [if_neg h1, if_neg h2]⟩)
  rcases h with rfl | rfl | ⟨h1, h2, h3⟩
  · rw [show nameS 1 = ⟨#[98, 97, 108, 108]⟩ from rfl] at c
    have C := Lib.hid c
    clear c
    go_enter Try.func97, Try.ntmps97
    go_wp2_with (first | ((with_reducible refine (C.out _).mono ?_); rintro en w' ⟨rfl, _, rfl⟩) | ((with_reducible refine (R3.out _).mono ?_); rintro en w' ⟨rfl, _, rfl⟩; cases A) | ((with_reducible refine (R4.out _).mono ?_); rintro en w' ⟨rfl, _, rfl⟩; cases B) | ((with_reducible refine (R5.out _).mono ?_); rintro en w' ⟨rfl, _, rfl⟩; cases D))
    all_goals first
      | (go_ret; exact ⟨rb (by have hs := HS.out; have ht := HT.out; have hu := HU.out; have hp := HP.out; have hq := HQ.out; unfold rightB; dsimp only; (first | (rw [hp, hq]; simp [*]; done) | (rw [hp]; simp [*]; done))), by (repeat (with_reducible refine M.Below.drewN ?_ _)); go_grown⟩)
      | skip
    all_goals
      (with_reducible refine (R1.out _).mono ?_); rintro en w1 ⟨rfl, hb⟩
      have G1 : Below w.heap.size w w1 := Below.trans (by (repeat (with_reducible refine M.Below.drewN ?_ _)); go_grown) (hb.mono (by go_size))
      have S1 := G1.size
      have L1_0 : w.heap.size < w1.heap.size := by have := hb.size; (try simp only [World.size_alloc, World.size_setCell, World.heap_drewN] at this); omega
      obtain ⟨hc1, hf1⟩ := M.bcell hb
      have HG1 := Lib.hid G1; clear G1 hb
      cases P
      · go_wp2_with fail
        go_ret
        exact ⟨rb (by have hs := HS.out; have ht := HT.out; have hu := HU.out; have hp := HP.out; have hq := HQ.out; unfold rightB; dsimp only; (first | (rw [hp, hq]; simp [*]; done) | (rw [hp]; simp [*]; done))), by have G := HG1.out; (repeat (with_reducible refine M.Below.drewN ?_ _)); go_grown⟩
      · go_wp2_with fail
        (first | (with_reducible refine (R2.out _).mono ?_) | (with_reducible refine (near_x 0 0 4294967296000000 (by omega) (by omega) _).mono ?_)); rintro en w2 ⟨rfl, hb⟩
        have G2 : Below w.heap.size w w2 := Below.trans (by have G := HG1.out; (repeat (with_reducible refine M.Below.drewN ?_ _)); go_grown) (hb.mono (by go_size))
        have HG2 := Lib.hid G2; clear G2 hb
        go_wp2_with fail
        go_ret
        exact ⟨rb (by have hs := HS.out; have ht := HT.out; have hu := HU.out; have hp := HP.out; have hq := HQ.out; unfold rightB; dsimp only; (first | (rw [hp, hq]; simp [*]; done) | (rw [hp]; simp [*]; done))), by have G := HG2.out; (repeat (with_reducible refine M.Below.drewN ?_ _)); go_grown⟩
  · rw [show nameS 2 = ⟨#[99, 114, 97, 116, 101]⟩ from rfl] at c
    have C := Lib.hid c
    clear c
    go_enter Try.func97, Try.ntmps97
    go_wp2_with (first | ((with_reducible refine (C.out _).mono ?_); rintro en w' ⟨rfl, _, rfl⟩) | ((with_reducible refine (R3.out _).mono ?_); rintro en w' ⟨rfl, _, rfl⟩; cases A) | ((with_reducible refine (R4.out _).mono ?_); rintro en w' ⟨rfl, _, rfl⟩; cases B) | ((with_reducible refine (R5.out _).mono ?_); rintro en w' ⟨rfl, _, rfl⟩; cases D))
    all_goals first
      | (go_ret; exact ⟨rb (by have hs := HS.out; have ht := HT.out; have hu := HU.out; have hp := HP.out; have hq := HQ.out; unfold rightB; dsimp only; (first | (rw [hp, hq]; simp [*]; done) | (rw [hp]; simp [*]; done))), by (repeat (with_reducible refine M.Below.drewN ?_ _)); go_grown⟩)
      | skip
    all_goals
      (with_reducible refine (R1.out _).mono ?_); rintro en w1 ⟨rfl, hb⟩
      have G1 : Below w.heap.size w w1 := Below.trans (by (repeat (with_reducible refine M.Below.drewN ?_ _)); go_grown) (hb.mono (by go_size))
      have S1 := G1.size
      have L1_0 : w.heap.size < w1.heap.size := by have := hb.size; (try simp only [World.size_alloc, World.size_setCell, World.heap_drewN] at this); omega
      obtain ⟨hc1, hf1⟩ := M.bcell hb
      have HG1 := Lib.hid G1; clear G1 hb
      cases P
      · go_wp2_with fail
        go_ret
        exact ⟨rb (by have hs := HS.out; have ht := HT.out; have hu := HU.out; have hp := HP.out; have hq := HQ.out; unfold rightB; dsimp only; (first | (rw [hp, hq]; simp [*]; done) | (rw [hp]; simp [*]; done))), by have G := HG1.out; (repeat (with_reducible refine M.Below.drewN ?_ _)); go_grown⟩
      · go_wp2_with fail
        (first | (with_reducible refine (R2.out _).mono ?_) | (with_reducible refine (near_x 0 0 4294967296000000 (by omega) (by omega) _).mono ?_)); rintro en w2 ⟨rfl, hb⟩
        have G2 : Below w.heap.size w w2 := Below.trans (by have G := HG1.out; (repeat (with_reducible refine M.Below.drewN ?_ _)); go_grown) (hb.mono (by go_size))
        have HG2 := Lib.hid G2; clear G2 hb
        go_wp2_with fail
        go_ret
        exact ⟨rb (by have hs := HS.out; have ht := HT.out; have hu := HU.out; have hp := HP.out; have hq := HQ.out; unfold rightB; dsimp only; (first | (rw [hp, hq]; simp [*]; done) | (rw [hp]; simp [*]; done))), by have G := HG2.out; (repeat (with_reducible refine M.Below.drewN ?_ _)); go_grown⟩
  · rw [h3] at c
    have C := Lib.hid c
    clear c h3
    go_enter Try.func97, Try.ntmps97
    go_wp2_with (first | ((with_reducible refine (C.out _).mono ?_); rintro en w' ⟨rfl, _, rfl⟩) | ((with_reducible refine (R3.out _).mono ?_); rintro en w' ⟨rfl, _, rfl⟩; cases A) | ((with_reducible refine (R4.out _).mono ?_); rintro en w' ⟨rfl, _, rfl⟩; cases B) | ((with_reducible refine (R5.out _).mono ?_); rintro en w' ⟨rfl, _, rfl⟩; cases D))
    all_goals
      go_ret
      exact ⟨rb (by have hs := HS.out; have ht := HT.out; have hu := HU.out; have hp := HP.out; have hq := HQ.out; unfold rightB; dsimp only; (first | (rw [hp, hq]; simp [*]; done) | (rw [hp]; simp [*]; done))), by (repeat (with_reducible refine M.Below.drewN ?_ _)); go_grown⟩
end Go.Proofs.Ytcaibieaobhheaa
