/- What the functions of calc, vec, shape, bounds, touch and push compute, as plain functions: a value, or the number of a Fault. -/
import Derived.Test.YtcaibieaobhheaaMath
import Derived.Test.YtcaibieaobhheaaRootMath
namespace Go.Proofs.Ytcaibieaobhheaa
open Go.RowKit M
set_option linter.unusedVariables false
namespace M
abbrev X (α : Type) := Except Int α
def andThen {α β : Type} (x : X α) (f : α → X β) : X β := match x with | .ok a => f a | .error n => .error n
theorem andThen_ok {α β : Type} (a : α) (f : α → X β) : andThen (.ok a) f = f a := rfl
theorem andThen_err {α β : Type} (n : Int) (f : α → X β) : andThen (.error n) f = .error n := rfl
theorem andThen_ok_iff {α β : Type} {x : X α} {f : α → X β} {b : β} : andThen x f = .ok b ↔ ∃ a, x = .ok a ∧ f a = .ok b := by
  cases x with
  | ok a => simp [andThen]
  | error n => simp [andThen]
def liftR (r : Int × Int) : X Int := if r.2 = 0 then .ok r.1 else .error r.2
theorem liftR_ok {r : Int × Int} {v : Int} : liftR r = .ok v ↔ r = (v, 0) := by
  obtain ⟨a, e⟩ := r; unfold liftR; dsimp only; split <;> simp_all
theorem liftR_err {r : Int × Int} {n : Int} (h : liftR r = .error n) : r.2 = n ∧ n ≠ 0 := by
  revert h; unfold liftR; split <;> simp_all; omega
def addX (a b : Int) : X Int := liftR (addR a b)
def subX (a b : Int) : X Int := liftR (subR a b)
def mulX (a b : Int) : X Int := liftR (mulR a b)
def divX (a b : Int) : X Int := liftR (divR a b)
def lenX (a b : Int) : X Int := liftR (lenR a b)
def partX (a n : Int) : X Int := if n = 0 then .error 4 else if n = -1 ∧ a = -9223372036854775808 then .error 3 else .ok (a.tdiv n)

/-- A place, or a direction. -/
abbrev V := Int × Int
def V64 (v : V) : Prop := I64 v.1 ∧ I64 v.2
structure Bd where
  shape : Int
  sx : Int
  sy : Int
  mass : Int
  px : Int
  py : Int
  mx : Int
  my : Int
def Bd.pos (b : Bd) : V := (b.px, b.py)
def Bd.mom (b : Bd) : V := (b.mx, b.my)
structure Bd.ok (b : Bd) : Prop where
  shape : I64 b.shape
  sx : I64 b.sx
  sy : I64 b.sy
  mass : I64 b.mass
  px : I64 b.px
  py : I64 b.py
  mx : I64 b.mx
  my : I64 b.my
structure Bx where
  lx : Int
  ly : Int
  hx : Int
  hy : Int
structure Ht where
  nx : Int
  ny : Int
  d : Int
def One : Int := 4294967296

/-! ### vec -/
def addV (a b : V) : X V := andThen (addX a.1 b.1) fun x => andThen (addX a.2 b.2) fun y => .ok (x, y)
def subV (a b : V) : X V := andThen (subX a.1 b.1) fun x => andThen (subX a.2 b.2) fun y => .ok (x, y)
def scaleV (a : V) (k : Int) : X V := andThen (mulX a.1 k) fun x => andThen (mulX a.2 k) fun y => .ok (x, y)
def overV (a : V) (k : Int) : X V := andThen (divX a.1 k) fun x => andThen (divX a.2 k) fun y => .ok (x, y)
def dotX (a b : V) : X Int := andThen (mulX a.1 b.1) fun x => andThen (mulX a.2 b.2) fun y => addX x y
def unitX (a : V) : X (V × Int) := andThen (lenX a.1 a.2) fun n => if n = 0 then .ok ((0, 0), 0) else andThen (overV a n) fun u => .ok (u, n)
def shareV (a : V) (n : Int) : X V := andThen (partX a.1 n) fun x => andThen (partX a.2 n) fun y => .ok (x, y)

/-! ### shape -/
def speedX (b : Bd) : X V := if b.mass = 0 then .ok (0, 0) else overV b.mom b.mass
def lightX (b : Bd) : X Int := if b.mass = 0 then .ok 0 else divX 4294967296 b.mass
def inB (a l h : Int) : Bool := decide (l ≤ a) && decide (a ≤ h)
def rightB (b : Bd) : Bool :=
  (b.shape == 1 || b.shape == 2) && inB b.sx 67108864 4294967296000 && (b.shape != 1 || b.sy == 0) && (b.shape != 2 || inB b.sy 67108864 4294967296000)
    && (b.mass != 0 || (b.mx == 0 && b.my == 0)) && (b.mass == 0 || inB b.mass 67108864 42949672960000)
    && (inB b.px (-42949672960000) 42949672960000 && inB b.py (-42949672960000) 42949672960000)
    && (inB b.mx (-4294967296000000) 4294967296000000 && inB b.my (-4294967296000000) 4294967296000000)

/-! ### bounds -/
def half (b : Bd) : V := if b.shape = 1 then (b.sx, b.sx) else (b.sx, b.sy)
def boxX (b : Bd) : X Bx := andThen (subV b.pos (half b)) fun l => andThen (addV b.pos (half b)) fun h => .ok ⟨l.1, l.2, h.1, h.2⟩
def meetB (a b : Bx) : Bool := decide (a.lx ≤ b.hx) && decide (b.lx ≤ a.hx) && decide (a.ly ≤ b.hy) && decide (b.ly ≤ a.hy)
def bothBx (a b : Bx) : Bx := ⟨min a.lx b.lx, min a.ly b.ly, max a.hx b.hx, max a.hy b.hy⟩
def inBx (v : V) (b : Bx) : Bool := decide (b.lx ≤ v.1) && decide (v.1 ≤ b.hx) && decide (b.ly ≤ v.2) && decide (v.2 ≤ b.hy)
def clampI (a l h : Int) : Int := if a < l then l else if h < a then h else a
def clampV (v : V) (b : Bx) : V := (clampI v.1 b.lx b.hx, clampI v.2 b.ly b.hy)

/-! ### touch -/
def flipX (h : Ht) : X Ht := andThen (subV (0, 0) (h.nx, h.ny)) fun n => .ok ⟨n.1, n.2, h.d⟩
def hitR (n : V) (d : Int) : Ht × Bool := if d ≤ 0 then (⟨0, 0, 0⟩, false) else (⟨n.1, n.2, d⟩, true)
def ballsX (a b : Bd) : X (Ht × Bool) :=
  andThen (subV b.pos a.pos) fun d => andThen (unitX d) fun u => andThen (addX a.sx b.sx) fun s => andThen (subX s u.2) fun k =>
    .ok (hitR (if u.2 = 0 then (4294967296, u.1.2) else u.1) k)
def overlapX (a b d : Int) : X Int := andThen (addX a b) fun s => andThen (if d < 0 then subX 0 d else .ok d) fun t => subX s t
def oneI (d : Int) : Int := if d < 0 then -4294967296 else 4294967296
def cratesX (a b : Bd) : X (Ht × Bool) :=
  andThen (subV b.pos a.pos) fun d => andThen (overlapX a.sx b.sx d.1) fun x => if x ≤ 0 then .ok (⟨0, 0, 0⟩, false) else
    andThen (overlapX a.sy b.sy d.2) fun y => if x ≤ y then .ok (hitR (oneI d.1, 0) x) else .ok (hitR (0, oneI d.2) y)
def bothX (a b : Bd) : X (Ht × Bool) :=
  andThen (boxX b) fun q => andThen (subV (clampV a.pos q) a.pos) fun d => andThen (unitX d) fun u =>
    if u.2 = 0 then cratesX { a with sy := a.sx } b else andThen (subX a.sx u.2) fun k => .ok (hitR u.1 k)
def hitX (a b : Bd) : X (Ht × Bool) :=
  if a.shape = 1 ∧ b.shape = 1 then ballsX a b
  else if a.shape = 2 ∧ b.shape = 2 then cratesX a b
  else if a.shape = 1 ∧ b.shape = 2 then bothX a b
  else if a.shape = 2 ∧ b.shape = 1 then andThen (bothX b a) fun h => andThen (flipX h.1) fun f => .ok (f, h.2)
  else .ok (⟨0, 0, 0⟩, false)

/-! ### push -/
def applyX (a b : Bd) (j : V) : X (Bd × Bd) :=
  andThen (if a.mass = 0 then .ok a.mom else subV a.mom j) fun m => andThen (if b.mass = 0 then .ok b.mom else addV b.mom j) fun n =>
    .ok ({ a with mx := m.1, my := m.2 }, { b with mx := n.1, my := n.2 })
def bothK (a b : Bd) : X Int := andThen (lightX a) fun k => andThen (lightX b) fun l => addX k l
def speedK (a b : Bd) (n : V) : X Int := andThen (speedX b) fun v => andThen (speedX a) fun u => andThen (subV v u) fun d => dotX d n
def bounceX (a b : Bd) (n : V) (k v : Int) : X (Bd × Bd) :=
  if v < 0 then andThen (addX v (v.tdiv 2)) fun t => andThen (subX 0 t) fun s => andThen (divX s k) fun j => andThen (scaleV n j) fun g => applyX a b g else .ok (a, b)
def partsX (a b : Bd) (h : Ht) (k : Int) : X (Bd × Bd) :=
  andThen (divX (h.d.tdiv 2) k) fun c => andThen (lightX a) fun la => andThen (mulX c la) fun x => andThen (scaleV (h.nx, h.ny) x) fun g => andThen (subV a.pos g) fun p =>
    andThen (lightX b) fun lb => andThen (mulX c lb) fun y => andThen (scaleV (h.nx, h.ny) y) fun f => andThen (addV b.pos f) fun q =>
      .ok ({ a with px := p.1, py := p.2 }, { b with px := q.1, py := q.2 })
def contactX (a b : Bd) (h : Ht) : X (Bd × Bd) :=
  andThen (bothK a b) fun k => if k = 0 then .ok (a, b) else andThen (speedK a b (h.nx, h.ny)) fun v => andThen (bounceX a b (h.nx, h.ny) k v) fun c => partsX c.1 c.2 h k
def jointX (a b : Bd) (len : Int) : X (Bd × Bd) :=
  andThen (subV b.pos a.pos) fun d => andThen (unitX d) fun u => if u.2 = 0 then .ok (a, b) else andThen (bothK a b) fun k => if k = 0 then .ok (a, b) else
    andThen (speedK a b u.1) fun v => andThen (subX u.2 len) fun s => andThen (mulX s 34359738368) fun m => andThen (addX v m) fun t => andThen (subX 0 t) fun z => andThen (divX z k) fun j =>
      andThen (scaleV u.1 j) fun g => applyX a b g

/-! ### what is known of the values -/
theorem addX_ok {a b v : Int} (h : addX a b = .ok v) : v = a + b ∧ I64 v := by
  have e := liftR_ok.1 h
  obtain ⟨e2, k⟩ := addR_ok (a := a) (b := b) (by rw [e])
  rw [e2] at e; obtain ⟨rfl, _⟩ := Prod.mk.inj e; exact ⟨rfl, k⟩
theorem subX_ok {a b v : Int} (h : subX a b = .ok v) : v = a - b ∧ I64 v := by
  have e := liftR_ok.1 h
  obtain ⟨e2, k⟩ := subR_ok (a := a) (b := b) (by rw [e])
  rw [e2] at e; obtain ⟨rfl, _⟩ := Prod.mk.inj e; exact ⟨rfl, k⟩
theorem mulX_i64 {a b v : Int} (h : mulX a b = .ok v) : I64 v := by
  have e := liftR_ok.1 h; have := mulR_i64 a b; rw [e] at this; exact this
theorem divX_i64 {a b v : Int} (h : divX a b = .ok v) : I64 v := by
  have e := liftR_ok.1 h; have := divR_i64 a b; rw [e] at this; exact this
theorem lenR_i64 {a b : Int} (ha : I64 a) (hb : I64 b) : I64 (lenR a b).1 := by
  unfold lenR
  have := isq_nonneg (absF a * absF a + absF b * absF b)
  split
  · unfold I64; simp
  · unfold I64; simp; omega
theorem lenX_i64 {a b v : Int} (ha : I64 a) (hb : I64 b) (h : lenX a b = .ok v) : I64 v := by
  have e := liftR_ok.1 h; have := lenR_i64 ha hb; rw [e] at this; exact this
theorem partX_i64 {a n v : Int} (ha : I64 a) (h : partX a n = .ok v) : I64 v := by
  revert h; unfold partX
  split
  · simp
  · split
    · simp
    · rename_i h1 h2
      intro h
      obtain rfl := Except.ok.inj h
      unfold I64 at *
      by_cases hm : n = -1
      · subst hm
        rw [Int.tdiv_neg, Int.tdiv_one]; omega
      · have k := Int.natAbs_tdiv_le_natAbs a n
        by_cases ha2 : a = -9223372036854775808
        · subst ha2
          by_cases hn1 : n = 1
          · subst hn1; simp
          · have k2 : (Int.tdiv (-9223372036854775808) n).natAbs ≤ 4611686018427387904 := by
              rw [Int.natAbs_tdiv]
              have : 2 ≤ n.natAbs := by omega
              exact Nat.div_le_of_le_mul (by
                show 9223372036854775808 ≤ n.natAbs * 4611686018427387904
                omega)
            omega
        · omega
end M
end Go.Proofs.Ytcaibieaobhheaa
