/- Contacts of bodies that may be: the plain law. -/
import Derived.Test.YtcaibieaobhheaaUnitMath
namespace Go.Proofs.Ytcaibieaobhheaa
open Go.RowKit M
set_option linter.unusedVariables false
namespace M
theorem rightB_spec {b : Bd} (h : rightB b = true) :
    (b.shape = 1 ∧ b.sy = 0 ∨ b.shape = 2 ∧ 67108864 ≤ b.sy ∧ b.sy ≤ 4294967296000) ∧ (67108864 ≤ b.sx ∧ b.sx ≤ 4294967296000)
    ∧ (b.mass = 0 ∧ b.mx = 0 ∧ b.my = 0 ∨ 67108864 ≤ b.mass ∧ b.mass ≤ 42949672960000)
    ∧ (-42949672960000 ≤ b.px ∧ b.px ≤ 42949672960000) ∧ (-42949672960000 ≤ b.py ∧ b.py ≤ 42949672960000)
    ∧ (-4294967296000000 ≤ b.mx ∧ b.mx ≤ 4294967296000000) ∧ (-4294967296000000 ≤ b.my ∧ b.my ≤ 4294967296000000) := by
  unfold rightB inB at h
  simp only [Bool.and_eq_true, Bool.or_eq_true, beq_iff_eq, bne_iff_ne, decide_eq_true_eq] at h
  omega

/-- A body of a size that may be, at a place that is not too far away. -/
def Lo (b : Bd) : Prop :=
  (b.shape = 1 ∨ b.shape = 2 ∧ 67108864 ≤ b.sy ∧ b.sy ≤ 4294967296000) ∧ (67108864 ≤ b.sx ∧ b.sx ≤ 4294967296000)
    ∧ (-4503599627370496 ≤ b.px ∧ b.px ≤ 4503599627370496) ∧ (-4503599627370496 ≤ b.py ∧ b.py ≤ 4503599627370496)
theorem lo_of_right {b : Bd} (h : rightB b = true) : Lo b := by
  have := rightB_spec h; unfold Lo; omega

def dV (a b : Bd) : V := (b.px - a.px, b.py - a.py)
def ballsV (a b : Bd) : Ht × Bool := hitR (if nrm (dV a b) = 0 then (4294967296, (uV (dV a b)).2) else uV (dV a b)) (a.sx + b.sx - nrm (dV a b))
def cratesV (a b : Bd) : Ht × Bool :=
  if a.sx + b.sx - absF (b.px - a.px) ≤ 0 then (⟨0, 0, 0⟩, false)
  else if a.sx + b.sx - absF (b.px - a.px) ≤ a.sy + b.sy - absF (b.py - a.py) then hitR (oneI (b.px - a.px), 0) (a.sx + b.sx - absF (b.px - a.px))
  else hitR (0, oneI (b.py - a.py)) (a.sy + b.sy - absF (b.py - a.py))
def boxV (b : Bd) : Bx := ⟨b.px - (half b).1, b.py - (half b).2, b.px + (half b).1, b.py + (half b).2⟩
def cV (a b : Bd) : V := ((clampV a.pos (boxV b)).1 - a.px, (clampV a.pos (boxV b)).2 - a.py)
def bothV (a b : Bd) : Ht × Bool := if nrm (cV a b) = 0 then cratesV { a with sy := a.sx } b else hitR (uV (cV a b)) (a.sx - nrm (cV a b))
def flipV (h : Ht) : Ht := ⟨-h.nx, -h.ny, h.d⟩
def hitV (a b : Bd) : Ht × Bool :=
  if a.shape = 1 ∧ b.shape = 1 then ballsV a b
  else if a.shape = 2 ∧ b.shape = 2 then cratesV a b
  else if a.shape = 1 ∧ b.shape = 2 then bothV a b
  else (flipV (bothV b a).1, (bothV b a).2)

theorem dV_near {a b : Bd} (ha : Lo a) (hb : Lo b) : Near (dV a b) 4611686018427387904 := by
  unfold Lo at *; unfold Near dV; dsimp only; omega
theorem subV_pos {a b : Bd} (ha : Lo a) (hb : Lo b) : subV b.pos a.pos = .ok (dV a b) := by
  unfold Lo at *
  unfold subV Bd.pos dV
  dsimp only
  rw [subX_in (by unfold I64; omega), andThen_ok, subX_in (by unfold I64; omega)]; rfl
theorem ballsX_lo {a b : Bd} (ha : Lo a) (hb : Lo b) : ballsX a b = .ok (ballsV a b) := by
  have k := nrm_spec (dV_near ha hb)
  unfold ballsX ballsV
  rw [subV_pos ha hb, andThen_ok, unitX_near (dV_near ha hb), andThen_ok]
  unfold Lo at *
  rw [addX_in (by unfold I64; omega), andThen_ok]
  dsimp only
  rw [subX_in (by unfold I64; omega), andThen_ok]
theorem overlapX_in {a b d : Int} (ha : 0 ≤ a ∧ a ≤ 4294967296000) (hb : 0 ≤ b ∧ b ≤ 4294967296000) (hd : -4611686018427387904 ≤ d ∧ d ≤ 4611686018427387904) :
    overlapX a b d = .ok (a + b - absF d) := by
  unfold overlapX
  rw [addX_in (by unfold I64; omega), andThen_ok]
  by_cases h : d < 0
  · rw [if_pos h, subX_in (by unfold I64; omega), andThen_ok, absF_of_neg h, subX_in (by unfold I64; omega), Int.zero_sub]
  · rw [if_neg h, andThen_ok, absF_of_nonneg (by omega), subX_in (by unfold I64; omega)]
theorem cratesX_in {a b : Bd} (h1 : 0 ≤ a.sx ∧ a.sx ≤ 4294967296000) (h2 : 0 ≤ b.sx ∧ b.sx ≤ 4294967296000) (h3 : 0 ≤ a.sy ∧ a.sy ≤ 4294967296000) (h4 : 0 ≤ b.sy ∧ b.sy ≤ 4294967296000)
    (ha : -4503599627370496 ≤ a.px ∧ a.px ≤ 4503599627370496) (ha' : -4503599627370496 ≤ a.py ∧ a.py ≤ 4503599627370496)
    (hb : -4503599627370496 ≤ b.px ∧ b.px ≤ 4503599627370496) (hb' : -4503599627370496 ≤ b.py ∧ b.py ≤ 4503599627370496) : cratesX a b = .ok (cratesV a b) := by
  unfold cratesX cratesV subV Bd.pos
  dsimp only
  rw [subX_in (by unfold I64; omega), andThen_ok, subX_in (by unfold I64; omega), andThen_ok, andThen_ok]
  dsimp only
  rw [overlapX_in h1 h2 (by omega), andThen_ok]
  split
  · rfl
  · rw [overlapX_in h3 h4 (by omega), andThen_ok]; split <;> rfl
theorem half_bounds {b : Bd} (h : Lo b) : 67108864 ≤ (half b).1 ∧ (half b).1 ≤ 4294967296000 ∧ 67108864 ≤ (half b).2 ∧ (half b).2 ≤ 4294967296000 ∧ (half b).1 = b.sx := by
  unfold Lo at h; unfold half; split <;> simp <;> omega
theorem boxX_lo {b : Bd} (h : Lo b) : boxX b = .ok (boxV b) := by
  have k := half_bounds h
  unfold Lo at h
  unfold boxX subV addV Bd.pos boxV
  dsimp only
  rw [subX_in (by unfold I64; omega), andThen_ok, subX_in (by unfold I64; omega), andThen_ok, andThen_ok, addX_in (by unfold I64; omega), andThen_ok, addX_in (by unfold I64; omega), andThen_ok, andThen_ok]
theorem clampI_spec {a l h : Int} (hl : l ≤ h) : l ≤ clampI a l h ∧ clampI a l h ≤ h ∧ (clampI a l h < a → clampI a l h = h) ∧ (a < clampI a l h → clampI a l h = l) := by
  unfold clampI; split
  · omega
  · split <;> omega
/-- The nearest place in the box around b. -/
theorem cV_spec {a b : Bd} (hb : Lo b) :
    (b.px - (half b).1 ≤ a.px + (cV a b).1 ∧ a.px + (cV a b).1 ≤ b.px + (half b).1 ∧ (0 < (cV a b).1 → a.px + (cV a b).1 = b.px - (half b).1) ∧ ((cV a b).1 < 0 → a.px + (cV a b).1 = b.px + (half b).1))
    ∧ (b.py - (half b).2 ≤ a.py + (cV a b).2 ∧ a.py + (cV a b).2 ≤ b.py + (half b).2 ∧ (0 < (cV a b).2 → a.py + (cV a b).2 = b.py - (half b).2) ∧ ((cV a b).2 < 0 → a.py + (cV a b).2 = b.py + (half b).2)) := by
  have k := half_bounds hb
  have p := clampI_spec (a := a.px) (l := b.px - (half b).1) (h := b.px + (half b).1) (by omega)
  have q := clampI_spec (a := a.py) (l := b.py - (half b).2) (h := b.py + (half b).2) (by omega)
  unfold cV clampV boxV Bd.pos
  dsimp only
  omega
theorem cV_near {a b : Bd} (ha : Lo a) (hb : Lo b) : Near (cV a b) 4611686018427387904 := by
  have k := half_bounds hb
  have p := cV_spec (a := a) hb
  unfold Lo at *; unfold Near; omega
theorem bothX_lo {a b : Bd} (ha : Lo a) (hb : Lo b) (hs : b.shape = 2) : bothX a b = .ok (bothV a b) := by
  have k := nrm_spec (cV_near ha hb)
  have c := cV_spec (a := a) hb
  have hh := half_bounds hb
  unfold bothX bothV
  rw [boxX_lo hb, andThen_ok]
  have e : subV (clampV a.pos (boxV b)) a.pos = .ok (cV a b) := by
    have c1 : cV a b = ((clampV a.pos (boxV b)).1 - a.px, (clampV a.pos (boxV b)).2 - a.py) := rfl
    have d1 : (cV a b).1 = (clampV a.pos (boxV b)).1 - a.px := rfl
    have d2 : (cV a b).2 = (clampV a.pos (boxV b)).2 - a.py := rfl
    unfold Lo at *
    unfold subV
    rw [show (a.pos).1 = a.px from rfl, show (a.pos).2 = a.py from rfl, subX_in (by unfold I64; omega), andThen_ok, subX_in (by unfold I64; omega), andThen_ok, c1]
  rw [e, andThen_ok, unitX_near (cV_near ha hb), andThen_ok]
  dsimp only
  split
  · unfold Lo at *
    exact cratesX_in (by dsimp only; omega) (by omega) (by dsimp only; omega) (by omega) (by dsimp only; omega) (by dsimp only; omega) (by omega) (by omega)
  · unfold Lo at *
    rw [subX_in (by unfold I64; omega), andThen_ok]
theorem uV_bounds {d : V} (h : Near d 4611686018427387904) : -4294967296 ≤ (uV d).1 ∧ (uV d).1 ≤ 4294967296 ∧ -4294967296 ≤ (uV d).2 ∧ (uV d).2 ≤ 4294967296 := by
  have k := nrm_spec h
  have g := nrm_ge h
  unfold uV
  split
  · simp
  · have a := uI_bounds (a := d.1) (n := nrm d) (by omega) g.1
    have b := uI_bounds (a := d.2) (n := nrm d) (by omega) g.2
    dsimp only; omega
def HtLo (h : Ht) : Prop := -4294967296 ≤ h.nx ∧ h.nx ≤ 4294967296 ∧ -4294967296 ≤ h.ny ∧ h.ny ≤ 4294967296
theorem hitR_lo {n : V} {k : Int} (h : -4294967296 ≤ n.1 ∧ n.1 ≤ 4294967296 ∧ -4294967296 ≤ n.2 ∧ n.2 ≤ 4294967296) : HtLo (hitR n k).1 := by
  unfold hitR HtLo; split <;> simp <;> omega
theorem oneI_bounds (d : Int) : -4294967296 ≤ oneI d ∧ oneI d ≤ 4294967296 := by unfold oneI; split <;> omega
theorem cratesV_lo (a b : Bd) : HtLo (cratesV a b).1 := by
  have p := oneI_bounds (b.px - a.px)
  have q := oneI_bounds (b.py - a.py)
  unfold cratesV
  split
  · unfold HtLo; simp
  · split
    · exact hitR_lo (by dsimp only; omega)
    · exact hitR_lo (by dsimp only; omega)
theorem bothV_lo {a b : Bd} (ha : Lo a) (hb : Lo b) : HtLo (bothV a b).1 := by
  have p := uV_bounds (cV_near ha hb)
  unfold bothV
  split
  · exact cratesV_lo _ _
  · exact hitR_lo p
theorem ballsV_lo {a b : Bd} (ha : Lo a) (hb : Lo b) : HtLo (ballsV a b).1 := by
  have p := uV_bounds (dV_near ha hb)
  unfold ballsV
  refine hitR_lo ?_
  split
  · dsimp only; omega
  · exact p
theorem flipX_lo {h : Ht} (k : HtLo h) : flipX h = .ok (flipV h) := by
  unfold HtLo at k
  unfold flipX flipV subV
  dsimp only
  rw [subX_in (by unfold I64; omega), andThen_ok, subX_in (by unfold I64; omega), andThen_ok, andThen_ok]
  simp
theorem flipV_lo {h : Ht} (k : HtLo h) : HtLo (flipV h) := by unfold HtLo flipV at *; dsimp only; omega
theorem flip_flip (h : Ht) : flipV (flipV h) = h := by unfold flipV; simp
theorem hitX_lo {a b : Bd} (ha : Lo a) (hb : Lo b) : hitX a b = .ok (hitV a b) := by
  unfold hitX hitV
  by_cases h1 : a.shape = 1 <;> by_cases h2 : b.shape = 1
  · rw [if_pos ⟨h1, h2⟩, if_pos ⟨h1, h2⟩]; exact ballsX_lo ha hb
  · have h3 : b.shape = 2 := by unfold Lo at hb; omega
    rw [if_neg (by omega), if_neg (by omega), if_pos ⟨h1, h3⟩, if_neg (by omega), if_neg (by omega), if_pos ⟨h1, h3⟩]; exact bothX_lo ha hb h3
  · have h3 : a.shape = 2 := by unfold Lo at ha; omega
    rw [if_neg (by omega), if_neg (by omega), if_neg (by omega), if_pos ⟨h3, h2⟩, if_neg (by omega), if_neg (by omega), if_neg (by omega), bothX_lo hb ha h3, andThen_ok, flipX_lo (bothV_lo hb ha), andThen_ok]
  · have h3 : b.shape = 2 := by unfold Lo at hb; omega
    have h4 : a.shape = 2 := by unfold Lo at ha; omega
    rw [if_neg (by omega), if_pos ⟨h4, h3⟩, if_neg (by omega), if_pos ⟨h4, h3⟩]
    unfold Lo at *
    exact cratesX_in (by omega) (by omega) (by omega) (by omega) (by omega) (by omega) (by omega) (by omega)
theorem hitV_lo {a b : Bd} (ha : Lo a) (hb : Lo b) : HtLo (hitV a b).1 := by
  unfold hitV
  split
  · exact ballsV_lo ha hb
  · split
    · exact cratesV_lo _ _
    · split
      · exact bothV_lo ha hb
      · exact flipV_lo (bothV_lo hb ha)

/-! ### who touches is touched -/
theorem hitR_snd (n : V) (d : Int) : (hitR n d).2 = decide (0 < d) := by
  unfold hitR; split
  · exact (decide_eq_false (by omega)).symm
  · exact (decide_eq_true (by omega)).symm
theorem hitR_d (n : V) (d : Int) : (hitR n d).1.d = if 0 < d then d else 0 := by
  unfold hitR; split
  · rw [if_neg (by omega)]
  · rw [if_pos (by omega)]
/-- How deep two crates lie in one another; 0 and less: they do not. -/
def depthC (a b : Bd) : Int := if a.sx + b.sx - absF (b.px - a.px) ≤ a.sy + b.sy - absF (b.py - a.py) then a.sx + b.sx - absF (b.px - a.px) else a.sy + b.sy - absF (b.py - a.py)
theorem cratesV_depth (a b : Bd) : (cratesV a b).2 = decide (0 < depthC a b) ∧ (cratesV a b).1.d = if 0 < depthC a b then depthC a b else 0 := by
  unfold cratesV depthC
  split
  · split
    · rw [if_neg (by omega)]; exact ⟨(decide_eq_false (by omega)).symm, rfl⟩
    · rw [if_neg (by omega)]; exact ⟨(decide_eq_false (by omega)).symm, rfl⟩
  · split
    · exact ⟨hitR_snd _ _, hitR_d _ _⟩
    · exact ⟨hitR_snd _ _, hitR_d _ _⟩
theorem absF_sub (x y : Int) : absF (x - y) = absF (y - x) := by rw [← absF_neg]; congr 1; omega
theorem depthC_comm (a b : Bd) : depthC a b = depthC b a := by
  unfold depthC
  rw [absF_sub b.px a.px, absF_sub b.py a.py, Int.add_comm a.sx b.sx, Int.add_comm a.sy b.sy]
theorem dV_neg (a b : Bd) : dV b a = (-(dV a b).1, -(dV a b).2) := by unfold dV; dsimp only; rw [show a.px - b.px = -(b.px - a.px) by omega, show a.py - b.py = -(b.py - a.py) by omega]
theorem hit_both (a b : Bd) (ha : Lo a) (hb : Lo b) : (hitV a b).2 = (hitV b a).2 ∧ (hitV a b).1.d = (hitV b a).1.d := by
  unfold hitV
  by_cases h1 : a.shape = 1 <;> by_cases h2 : b.shape = 1
  · rw [if_pos ⟨h1, h2⟩, if_pos ⟨h2, h1⟩]
    unfold ballsV
    rw [hitR_snd, hitR_snd, hitR_d, hitR_d, dV_neg a b, nrm_neg, Int.add_comm b.sx a.sx]
    exact ⟨rfl, rfl⟩
  · have h3 : b.shape = 2 := by unfold Lo at hb; omega
    rw [if_neg (by omega), if_neg (by omega), if_pos ⟨h1, h3⟩, if_neg (by omega), if_neg (by omega), if_neg (by omega)]
    exact ⟨rfl, rfl⟩
  · have h3 : a.shape = 2 := by unfold Lo at ha; omega
    rw [if_neg (by omega), if_neg (by omega), if_neg (by omega), if_neg (by omega), if_neg (by omega), if_pos ⟨h2, h3⟩]
    exact ⟨rfl, rfl⟩
  · have h3 : b.shape = 2 := by unfold Lo at hb; omega
    have h4 : a.shape = 2 := by unfold Lo at ha; omega
    rw [if_neg (by omega), if_pos ⟨h4, h3⟩, if_neg (by omega), if_pos ⟨h3, h4⟩]
    have p := cratesV_depth a b
    have q := cratesV_depth b a
    rw [p.1, p.2, q.1, q.2, depthC_comm]
    exact ⟨rfl, rfl⟩
/-! ### where two touch, their boxes meet -/
theorem depthC_ball {a b : Bd} (ha : Lo a) (hb : Lo b) (hs : b.shape = 2) (h : nrm (cV a b) = 0) : 0 < depthC { a with sy := a.sx } b := by
  have z := nrm_zero (cV_near ha hb) h
  have c := cV_spec (a := a) hb
  rw [z] at c
  dsimp only at c
  have k := half_bounds hb
  have k2 : (half b).2 = b.sy := by unfold half; rw [if_neg (by omega)]
  have h1 : absF (b.px - a.px) ≤ b.sx := by unfold absF; split <;> omega
  have h2 : absF (b.py - a.py) ≤ b.sy := by unfold absF; split <;> omega
  unfold Lo at ha
  unfold depthC
  dsimp only
  split <;> omega
theorem bothV_hit {a b : Bd} (ha : Lo a) (hb : Lo b) (hs : b.shape = 2) (h : (bothV a b).2 = true) : nrm (cV a b) < a.sx := by
  have k := nrm_spec (cV_near ha hb)
  unfold bothV at h
  split at h
  · unfold Lo at ha; omega
  · rw [hitR_snd, decide_eq_true_eq] at h; omega
theorem meetB_iff (a b : Bx) : meetB a b = true ↔ a.lx ≤ b.hx ∧ b.lx ≤ a.hx ∧ a.ly ≤ b.hy ∧ b.ly ≤ a.hy := by
  unfold meetB; simp only [Bool.and_eq_true, decide_eq_true_eq]; omega
theorem meetB_comm (a b : Bx) : meetB a b = meetB b a := by
  rw [Bool.eq_iff_iff, meetB_iff, meetB_iff]; omega
theorem bothV_meets {a b : Bd} (ha : Lo a) (hb : Lo b) (h1 : a.shape = 1) (hs : b.shape = 2) (h : (bothV a b).2 = true) : meetB (boxV a) (boxV b) = true := by
  have k := bothV_hit ha hb hs h
  have g := nrm_ge (cV_near ha hb)
  have l1 := le_absF (cV a b).1
  have l2 := le_absF (cV a b).2
  have c := cV_spec (a := a) hb
  rw [meetB_iff]
  unfold boxV
  dsimp only
  have e : half a = (a.sx, a.sx) := by unfold half; rw [if_pos h1]
  rw [e]
  dsimp only
  omega
theorem hit_meets {a b : Bd} (ha : Lo a) (hb : Lo b) (h : (hitV a b).2 = true) : meetB (boxV a) (boxV b) = true := by
  unfold hitV at h
  by_cases h1 : a.shape = 1 <;> by_cases h2 : b.shape = 1
  · rw [if_pos ⟨h1, h2⟩] at h
    unfold ballsV at h
    rw [hitR_snd, decide_eq_true_eq] at h
    have g := nrm_ge (dV_near ha hb)
    have l1 := le_absF (dV a b).1
    have l2 := le_absF (dV a b).2
    rw [meetB_iff]
    unfold boxV
    have e : half a = (a.sx, a.sx) := by unfold half; rw [if_pos h1]
    have f : half b = (b.sx, b.sx) := by unfold half; rw [if_pos h2]
    rw [e, f]
    dsimp only
    unfold dV at *
    dsimp only at *
    omega
  · have h3 : b.shape = 2 := by unfold Lo at hb; omega
    rw [if_neg (by omega), if_neg (by omega), if_pos ⟨h1, h3⟩] at h
    exact bothV_meets ha hb h1 h3 h
  · have h3 : a.shape = 2 := by unfold Lo at ha; omega
    rw [if_neg (by omega), if_neg (by omega), if_neg (by omega)] at h
    rw [meetB_comm]
    exact bothV_meets hb ha h2 h3 h
  · have h3 : b.shape = 2 := by unfold Lo at hb; omega
    have h4 : a.shape = 2 := by unfold Lo at ha; omega
    rw [if_neg (by omega), if_pos ⟨h4, h3⟩, (cratesV_depth a b).1, decide_eq_true_eq] at h
    have l1 := le_absF (b.px - a.px)
    have l2 := le_absF (b.py - a.py)
    have e : half a = (a.sx, a.sy) := by unfold half; rw [if_neg h1]
    have f : half b = (b.sx, b.sy) := by unfold half; rw [if_neg h2]
    rw [meetB_iff]
    unfold boxV
    rw [e, f]
    dsimp only
    unfold depthC at h
    split at h <;> omega
theorem hit_deep {a b : Bd} (ha : Lo a) (hb : Lo b) (h : (hitV a b).2 = true) : 0 < (hitV a b).1.d := by
  have hr : ∀ n d, (hitR n d).2 = true → 0 < (hitR n d).1.d := by
    intro n d k; rw [hitR_snd, decide_eq_true_eq] at k; rw [hitR_d, if_pos k]; exact k
  have hc : ∀ a b, (cratesV a b).2 = true → 0 < (cratesV a b).1.d := by
    intro a b k; have p := cratesV_depth a b; rw [p.1, decide_eq_true_eq] at k; rw [p.2, if_pos k]; exact k
  have hbo : ∀ a b, (bothV a b).2 = true → 0 < (bothV a b).1.d := by
    intro a b k
    unfold bothV at *
    split
    · rename_i e; rw [if_pos e] at k; exact hc _ _ k
    · rename_i e; rw [if_neg e] at k; exact hr _ _ k
  revert h
  unfold hitV
  split
  · exact hr _ _
  · split
    · exact hc _ _
    · split
      · exact hbo _ _
      · exact hbo _ _
/-- Two crates touch just if their boxes meet, but not at an edge alone. -/
def edgeB (x y : Bx) : Bool := x.lx == y.hx || y.lx == x.hx || x.ly == y.hy || y.ly == x.hy
theorem hit_crates {a b : Bd} (ha : Lo a) (hb : Lo b) (h1 : a.shape = 2) (h2 : b.shape = 2) : (hitV a b).2 = (meetB (boxV a) (boxV b) && !edgeB (boxV a) (boxV b)) := by
  unfold hitV
  rw [if_neg (by omega), if_pos ⟨h1, h2⟩, (cratesV_depth a b).1]
  have e : half a = (a.sx, a.sy) := by unfold half; rw [if_neg (by omega)]
  have f : half b = (b.sx, b.sy) := by unfold half; rw [if_neg (by omega)]
  rw [Bool.eq_iff_iff, Bool.and_eq_true, meetB_iff]
  unfold edgeB boxV
  rw [e, f]
  dsimp only
  simp only [decide_eq_true_eq, Bool.not_eq_true', Bool.or_eq_false_iff, beq_eq_false_iff_ne]
  unfold Lo at *
  unfold depthC absF
  split <;> split <;> split <;> omega

/-! ### moved alike -/
def mv (b : Bd) (x y : Int) : Bd := { b with px := b.px + x, py := b.py + y }
theorem dV_mv (a b : Bd) (x y : Int) : dV (mv a x y) (mv b x y) = dV a b := by unfold dV mv; dsimp only; congr 1 <;> omega
theorem clampI_mv (a l h x : Int) : clampI (a + x) (l + x) (h + x) = clampI a l h + x := by unfold clampI; split <;> split <;> (try split) <;> (try split) <;> omega
theorem cV_mv (a b : Bd) (x y : Int) : cV (mv a x y) (mv b x y) = cV a b := by
  have e1 : half (mv b x y) = half b := rfl
  unfold cV clampV boxV Bd.pos
  rw [e1]
  unfold mv
  dsimp only
  rw [show b.px + x - (half b).1 = b.px - (half b).1 + x by omega, show b.px + x + (half b).1 = b.px + (half b).1 + x by omega,
    show b.py + y - (half b).2 = b.py - (half b).2 + y by omega, show b.py + y + (half b).2 = b.py + (half b).2 + y by omega, clampI_mv, clampI_mv]
  congr 1 <;> omega
theorem cratesV_mv (a b : Bd) (x y : Int) : cratesV (mv a x y) (mv b x y) = cratesV a b := by
  unfold cratesV mv
  dsimp only
  rw [show b.px + x - (a.px + x) = b.px - a.px by omega, show b.py + y - (a.py + y) = b.py - a.py by omega]
theorem bothV_mv (a b : Bd) (x y : Int) : bothV (mv a x y) (mv b x y) = bothV a b := by
  unfold bothV
  rw [cV_mv]
  have : cratesV { mv a x y with sy := (mv a x y).sx } (mv b x y) = cratesV { a with sy := a.sx } b := cratesV_mv { a with sy := a.sx } b x y
  rw [this]; rfl
theorem hitV_mv (a b : Bd) (x y : Int) : hitV (mv a x y) (mv b x y) = hitV a b := by
  unfold hitV
  rw [bothV_mv, bothV_mv, cratesV_mv]
  unfold ballsV
  rw [dV_mv]; rfl

/-! ### at one place -/
theorem absF_0 : absF 0 = 0 := rfl
theorem hit_self {b : Bd} (hb : Lo b) :
    hitV b b = (if b.shape = 2 ∧ b.sy < b.sx then (⟨0, 4294967296, 2 * b.sy⟩, true) else (⟨4294967296, 0, 2 * b.sx⟩, true)) := by
  unfold hitV
  by_cases h1 : b.shape = 1
  · rw [if_pos ⟨h1, h1⟩, if_neg (by omega)]
    unfold ballsV
    have e : dV b b = (0, 0) := by unfold dV; rw [Int.sub_self, Int.sub_self]
    rw [e, nrm_00, if_pos rfl]
    have e2 : uV (0, 0) = (0, 0) := by unfold uV; rw [nrm_00, if_pos rfl]
    rw [e2]
    unfold Lo at hb
    unfold hitR
    rw [if_neg (by omega)]
    congr 2; omega
  · have h2 : b.shape = 2 := by unfold Lo at hb; omega
    rw [if_neg (by omega), if_pos ⟨h2, h2⟩]
    unfold cratesV
    rw [Int.sub_self, Int.sub_self, absF_0]
    unfold Lo at hb
    rw [if_neg (by omega)]
    by_cases h : b.sy < b.sx
    · rw [if_neg (by omega), if_pos ⟨h2, h⟩]
      unfold hitR oneI
      rw [if_neg (by omega), if_neg (by omega)]
      congr 2; omega
    · rw [if_pos (by omega), if_neg (by omega)]
      unfold hitR oneI
      rw [if_neg (by omega), if_neg (by omega)]
      congr 2; omega

/-! ### two balls of one row -/
theorem nrm_y {d : Int} (h0 : 0 ≤ d) (h : d < 4294967296000000) : nrm (0, d) = d := by
  unfold nrm
  rw [absF_0, absF_of_nonneg h0, show (0 : Int) * 0 + d * d = d * d by omega]
  exact isq_sq h0 (by omega)
theorem nrm_x {d : Int} (h0 : 0 ≤ d) (h : d < 4294967296000000) : nrm (d, 0) = d := by
  unfold nrm
  rw [absF_0, absF_of_nonneg h0, show d * d + (0 : Int) * 0 = d * d by omega]
  exact isq_sq h0 (by omega)
theorem uI_self {d : Int} (h : 0 < d) : uI d d = 4294967296 := by
  unfold uI sq
  rw [if_neg (by omega), absF_of_nonneg (by omega), Int.mul_comm, Int.mul_ediv_cancel _ (by omega)]
theorem uI_0 (n : Int) : uI 0 n = 0 := by unfold uI sq; rw [absF_0]; simp
theorem uV_y {d : Int} (h0 : 0 < d) (h : d < 4294967296000000) : uV (0, d) = (0, 4294967296) := by
  unfold uV; rw [nrm_y (by omega) h, if_neg (by omega)]; dsimp only; rw [uI_0, uI_self h0]
theorem uV_x {d : Int} (h0 : 0 < d) (h : d < 4294967296000000) : uV (d, 0) = (4294967296, 0) := by
  unfold uV; rw [nrm_x (by omega) h, if_neg (by omega)]; dsimp only; rw [uI_0, uI_self h0]

/-! ### turned around -/
theorem oneI_neg {d : Int} (h : d ≠ 0) : oneI (-d) = -oneI d := by unfold oneI; split <;> split <;> omega
theorem hit_flips {a b : Bd} (ha : Lo a) (hb : Lo b) (hx : a.px ≠ b.px) (hy : a.py ≠ b.py) :
    (hitV b a).1.nx = -(hitV a b).1.nx ∧ (hitV b a).1.ny = -(hitV a b).1.ny := by
  have hr : ∀ (n m : V) d, m = (-n.1, -n.2) → (hitR m d).1.nx = -(hitR n d).1.nx ∧ (hitR m d).1.ny = -(hitR n d).1.ny := by
    rintro n m d rfl; unfold hitR; split <;> simp
  unfold hitV
  by_cases h1 : a.shape = 1 <;> by_cases h2 : b.shape = 1
  · rw [if_pos ⟨h2, h1⟩, if_pos ⟨h1, h2⟩]
    unfold ballsV
    rw [dV_neg a b, nrm_neg, Int.add_comm b.sx a.sx, uV_neg]
    refine hr _ _ _ ?_
    by_cases h0 : nrm (dV a b) = 0
    · have z := nrm_zero (dV_near ha hb) h0
      have z1 : (dV a b).1 = b.px - a.px := rfl
      rw [z] at z1
      dsimp only at z1
      omega
    · rw [if_neg h0, if_neg h0]
  · have h3 : b.shape = 2 := by unfold Lo at hb; omega
    rw [if_neg (by omega), if_neg (by omega), if_neg (by omega), if_neg (by omega), if_neg (by omega), if_pos ⟨h1, h3⟩]
    exact ⟨rfl, rfl⟩
  · have h3 : a.shape = 2 := by unfold Lo at ha; omega
    rw [if_neg (by omega), if_neg (by omega), if_pos ⟨h2, h3⟩, if_neg (by omega), if_neg (by omega), if_neg (by omega)]
    unfold flipV; simp
  · have h3 : b.shape = 2 := by unfold Lo at hb; omega
    have h4 : a.shape = 2 := by unfold Lo at ha; omega
    rw [if_neg (by omega), if_pos ⟨h3, h4⟩, if_neg (by omega), if_pos ⟨h4, h3⟩]
    unfold cratesV
    rw [absF_sub a.px b.px, absF_sub a.py b.py, Int.add_comm b.sx a.sx, Int.add_comm b.sy a.sy, show a.px - b.px = -(b.px - a.px) by omega, show a.py - b.py = -(b.py - a.py) by omega,
      oneI_neg (show b.px - a.px ≠ 0 by omega), oneI_neg (show b.py - a.py ≠ 0 by omega)]
    split
    · simp
    · split
      · exact hr _ _ _ (by simp)
      · exact hr _ _ _ (by simp)

/-! ### far away -/
theorem hit_far {a b : Bd} (ha : Lo a) (hb : Lo b) (h : meetB (boxV a) (boxV b) = false) : (hitV a b).2 = false := by
  cases hh : (hitV a b).2
  · rfl
  · rw [hit_meets ha hb hh] at h; simp at h
end M
end Go.Proofs.Ytcaibieaobhheaa
