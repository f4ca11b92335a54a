/- What the functions of package calc compute: a number, or the panic of a Fault; and what Try makes of it. -/
import Derived.Test.YtcaibieaobhheaaDiv
import Derived.Test.YtcaibieaobhheaaRoot
import Derived.Test.YtcaibieaobhheaaWaveMath
import Derived.WalkLawsBesides
namespace Go.Proofs.Ytcaibieaobhheaa
open Go.RowKit M
set_option maxRecDepth 100000
set_option maxHeartbeats 2000000
set_option linter.unusedVariables false

/-- The panic of a Fault. -/
def fault (n : Int) : Value := .iface 54 (.agg #[.int .i64 n])
def panics (n : Int) : Ending := .panicked [{ v := fault n, recovered := false }]
/-- A number, or the panic of its error. -/
def outI (r : Int × Int) : Ending := if r.2 = 0 then .returned (.int .i64 r.1) else panics r.2
theorem outI_ok {a : Int} : outI (a, 0) = .returned (.int .i64 a) := rfl
theorem outI_no {a e : Int} (h : ¬ e = 0) : outI (a, e) = panics e := if_neg h

theorem must_c (a e : Int) (w : World) :
    Calls Try.prog 104 #[.int .i64 a, .int .i64 e] w fun en w' => en = outI (a, e) ∧ Dr w w' := by
  by_cases he : e = 0
  · subst he
    go_enter Try.func104, Try.ntmps104
    go_wp2_with fail
    go_ret
    exact ⟨rfl, Dr.refl _⟩
  · have b := bne_iff_ne.2 he
    rw [outI_no he]
    go_enter Try.func104, Try.ntmps104
    go_wp2_with fail
    exact ⟨rfl, rfl, Dr.refl _⟩

theorem calcAdd_c (a b : Int) (ha : I64 a) (hb : I64 b) (w : World) :
    Calls Try.prog 71 #[.int .i64 a, .int .i64 b] w fun en w' => en = outI (addR a b) ∧ Dr w w' := by
  have c1 := fixAdd_c a b ha hb
  generalize addR a b = r at *
  obtain ⟨r, e⟩ := r
  dsimp only at *
  have c2 := must_c r e
  have C1 := Lib.hid c1
  have C2 := Lib.hid c2
  clear c1 c2
  by_cases he : e = 0
  · subst he
    rw [outI_ok] at *
    go_enter Try.func71, Try.ntmps71
    go_wp2_with fail
    (with_reducible refine (C1.out _).mono ?_); rintro e w' ⟨rfl, n1, rfl⟩
    go_wp2_with fail
    (with_reducible refine (C2.out _).mono ?_); rintro e w' ⟨rfl, n2, rfl⟩
    go_wp2_with fail
    go_ret
    exact ⟨rfl, _, rfl⟩
  · rw [outI_no he] at *
    go_enter Try.func71, Try.ntmps71
    go_wp2_with fail
    (with_reducible refine (C1.out _).mono ?_); rintro e w' ⟨rfl, n1, rfl⟩
    go_wp2_with fail
    (with_reducible refine (C2.out _).mono ?_); rintro e w' ⟨rfl, n2, rfl⟩
    exact ⟨rfl, rfl, Dr.step (Dr.step (Dr.refl _) _) _⟩

theorem calcSub_c (a b : Int) (ha : I64 a) (hb : I64 b) (w : World) :
    Calls Try.prog 70 #[.int .i64 a, .int .i64 b] w fun en w' => en = outI (subR a b) ∧ Dr w w' := by
  have c1 := fixSub_c a b ha hb
  generalize subR a b = r at *
  obtain ⟨r, e⟩ := r
  dsimp only at *
  have c2 := must_c r e
  have C1 := Lib.hid c1
  have C2 := Lib.hid c2
  clear c1 c2
  by_cases he : e = 0
  · subst he
    rw [outI_ok] at *
    go_enter Try.func70, Try.ntmps70
    go_wp2_with fail
    (with_reducible refine (C1.out _).mono ?_); rintro e w' ⟨rfl, n1, rfl⟩
    go_wp2_with fail
    (with_reducible refine (C2.out _).mono ?_); rintro e w' ⟨rfl, n2, rfl⟩
    go_wp2_with fail
    go_ret
    exact ⟨rfl, _, rfl⟩
  · rw [outI_no he] at *
    go_enter Try.func70, Try.ntmps70
    go_wp2_with fail
    (with_reducible refine (C1.out _).mono ?_); rintro e w' ⟨rfl, n1, rfl⟩
    go_wp2_with fail
    (with_reducible refine (C2.out _).mono ?_); rintro e w' ⟨rfl, n2, rfl⟩
    exact ⟨rfl, rfl, Dr.step (Dr.step (Dr.refl _) _) _⟩

theorem calcMul_c (a b : Int) (ha : I64 a) (hb : I64 b) (w : World) :
    Calls Try.prog 74 #[.int .i64 a, .int .i64 b] w fun en w' => en = outI (mulR a b) ∧ Dr w w' := by
  have c1 := fixMul_c a b ha hb
  generalize mulR a b = r at *
  obtain ⟨r, e⟩ := r
  dsimp only at *
  have c2 := must_c r e
  have C1 := Lib.hid c1
  have C2 := Lib.hid c2
  clear c1 c2
  by_cases he : e = 0
  · subst he
    rw [outI_ok] at *
    go_enter Try.func74, Try.ntmps74
    go_wp2_with fail
    (with_reducible refine (C1.out _).mono ?_); rintro e w' ⟨rfl, n1, rfl⟩
    go_wp2_with fail
    (with_reducible refine (C2.out _).mono ?_); rintro e w' ⟨rfl, n2, rfl⟩
    go_wp2_with fail
    go_ret
    exact ⟨rfl, _, rfl⟩
  · rw [outI_no he] at *
    go_enter Try.func74, Try.ntmps74
    go_wp2_with fail
    (with_reducible refine (C1.out _).mono ?_); rintro e w' ⟨rfl, n1, rfl⟩
    go_wp2_with fail
    (with_reducible refine (C2.out _).mono ?_); rintro e w' ⟨rfl, n2, rfl⟩
    exact ⟨rfl, rfl, Dr.step (Dr.step (Dr.refl _) _) _⟩

theorem calcDiv_c (a b : Int) (ha : I64 a) (hb : I64 b) (w : World) :
    Calls Try.prog 69 #[.int .i64 a, .int .i64 b] w fun en w' => en = outI (divR a b) ∧ Dr w w' := by
  have c1 := fixDiv_c a b ha hb
  generalize divR a b = r at *
  obtain ⟨r, e⟩ := r
  dsimp only at *
  have c2 := must_c r e
  have C1 := Lib.hid c1
  have C2 := Lib.hid c2
  clear c1 c2
  by_cases he : e = 0
  · subst he
    rw [outI_ok] at *
    go_enter Try.func69, Try.ntmps69
    go_wp2_with fail
    (with_reducible refine (C1.out _).mono ?_); rintro e w' ⟨rfl, n1, rfl⟩
    go_wp2_with fail
    (with_reducible refine (C2.out _).mono ?_); rintro e w' ⟨rfl, n2, rfl⟩
    go_wp2_with fail
    go_ret
    exact ⟨rfl, _, rfl⟩
  · rw [outI_no he] at *
    go_enter Try.func69, Try.ntmps69
    go_wp2_with fail
    (with_reducible refine (C1.out _).mono ?_); rintro e w' ⟨rfl, n1, rfl⟩
    go_wp2_with fail
    (with_reducible refine (C2.out _).mono ?_); rintro e w' ⟨rfl, n2, rfl⟩
    exact ⟨rfl, rfl, Dr.step (Dr.step (Dr.refl _) _) _⟩

theorem caught_nil (w : World) :
    Calls Try.prog 59 #[.nilIface] w fun en w' => en = .returned (.int .i64 0) ∧ w' = w := by
  go_enter Try.func59, Try.ntmps59
  go_wp2_with fail
  go_ret
  exact ⟨rfl, rfl⟩
theorem assert_fault (n : Int) (w : World) : (Instr.typeAssert (.iface 54 (.agg #[.int .i64 n])) 20 54 true).run Try.prog w = .ok (.tuple #[.agg #[.int .i64 n], .bool true]) w := by kernel_rfl
theorem caught_fault (n : Int) (w : World) :
    Calls Try.prog 59 #[fault n] w fun en w' => en = .returned (.int .i64 n) ∧ w' = w.alloc (.cells #[.int .i64 n] 54) := by
  unfold fault
  have ha := assert_fault n
  go_enter Try.func59, Try.ntmps59
  go_wp2_with fail
  go_ret
  exact ⟨rfl, rfl⟩

/-- The deferred closure of Try, of a frame that returns. -/
theorem tryD_idle (p : Addr) (x : Int) (w : World) (hc : w.cell? p = some (.int .i64 x)) (hz : w.frozen? p = false) :
    CallsD Try.prog 58 #[.pointer (some p)] .returning w fun e u' w' => e = .returned (.tuple #[]) ∧ u' = .returning ∧ w' = w.setCell p (.int .i64 0) := by
  refine callsD_of_wpS Try.func58 rfl fun c₀ cs hu => ?_
  apply wpS_region
  simp [wpOpsS, go_sem, recoverD, hu, Try.ntmps58]
  refine (caught_nil w).mono ?_
  rintro e w' ⟨rfl, rfl⟩
  simp [go_sem, hc, hz, bodyPostS, results, Try.results58]
  cases c₀
  simp only at hu
  subst hu
  rfl

/-- The deferred closure of Try, of a frame that panics with a Fault. -/
theorem tryD_fault (p : Addr) (x n : Int) (older : List PanicEntry) (w : World) (hc : w.cell? p = some (.int .i64 x)) (hz : w.frozen? p = false) (hb : p.block < w.heap.size) :
    CallsD Try.prog 58 #[.pointer (some p)] (.panicking ({ v := fault n, recovered := false } :: older)) w fun e u' w' =>
      e = .returned (.tuple #[]) ∧ u' = .panicking ({ v := fault n, recovered := true } :: older) ∧ w' = (w.alloc (.cells #[.int .i64 n] 54)).setCell p (.int .i64 n) := by
  have hc2 : (w.alloc (.cells #[.int .i64 n] 54)).cell? p = some (.int .i64 x) := by rw [World.cell?_alloc_lt _ _ _ hb]; exact hc
  have hz2 : (w.alloc (.cells #[.int .i64 n] 54)).frozen? p = false := by rw [frozen?_alloc_cells]; exact hz
  refine callsD_of_wpS Try.func58 rfl fun c₀ cs hu => ?_
  apply wpS_region
  simp [wpOpsS, go_sem, recoverD, hu, Try.ntmps58]
  refine (caught_fault n w).mono ?_
  rintro e w' ⟨rfl, rfl⟩
  simp [go_sem, hc2, hz2, bodyPostS, results, Try.results58]

/-! ### cells set one behind the other -/
namespace M
def sets (w : World) : List (Addr × Value) → World
  | [] => w
  | u :: us => sets (w.setCell u.1 u.2) us
theorem sets_size : ∀ (us : List (Addr × Value)) (w : World), (sets w us).heap.size = w.heap.size
  | [], _ => rfl
  | u :: us, w => by rw [sets, sets_size us]; simp [World.setCell]
theorem below_setCell_both {B : Nat} {w w' : World} (h : Below B w w') (p : Addr) (hp : p.block < B) (v : Value) : Below B (w.setCell p v) (w'.setCell p v) := by
  refine ⟨h.os, h.tape, h.output, by simpa [World.setCell] using h.size, fun k hk => ?_⟩
  simp only [World.setCell, Array.getElem?_modify]
  rw [h.block k hk]
theorem below_sets {B : Nat} : ∀ (us : List (Addr × Value)) {w w' : World}, Below B w w' → (∀ u ∈ us, u.1.block < B) → Below B (sets w us) (sets w' us)
  | [], _, _, h, _ => h
  | u :: us, w, w', h, hu => below_sets us (below_setCell_both h u.1 (hu u (by simp)) u.2) (fun x hx => hu x (by simp [hx]))
theorem sets_block : ∀ (us : List (Addr × Value)) (w : World) (k : Nat), (∀ u ∈ us, u.1.block ≠ k) → (sets w us).heap[k]? = w.heap[k]?
  | [], _, _, _ => rfl
  | u :: us, w, k, h => by
    rw [sets, sets_block us _ k (fun x hx => h x (by simp [hx]))]
    exact Below.heap_setCell w u.1 u.2 k (fun e => h u (by simp) e.symm)
theorem cell_block {w w' : World} {a : Addr} (h : w'.heap[a.block]? = w.heap[a.block]?) : w'.cell? a = w.cell? a := by
  unfold World.cell?; rw [h]
theorem frozen_block {w w' : World} {a : Addr} (h : w'.heap[a.block]? = w.heap[a.block]?) : w'.frozen? a = w.frozen? a := by
  unfold World.frozen?; rw [h]
end M

theorem func_nil (k : FuncId) (caps : Array Value) (w : World) : (binOp .eql 1 (.func (.func k) #[] caps) .nilFunc).run Try.prog w = .ok (.bool false) w := by kernel_rfl

/-- What a function handed to Try ends in: it returns, or panics with a Fault. -/
def outU (n : Int) : Ending := if n = 0 then .returned (.tuple #[]) else panics n

/-- Try: of a closure that sets some of the captured cells, and returns or panics with the Fault n: the number n; those cells are set, all else is as it was. -/
theorem try_c (k : FuncId) (caps : Array Value) (w : World) (n : Int) (us : List (Addr × Value)) (hk : ∀ w : World, (callFunc k caps).run Try.prog w = .ok (.enter k caps) w) (hus : ∀ u ∈ us, u.1.block < w.heap.size)
    (H : ∀ w1, Below w.heap.size w w1 → Calls Try.prog k caps w1 fun e w' => e = outU n ∧ Below w1.heap.size (sets w1 us) w') :
    Calls Try.prog 17 #[.func (.func k) #[] caps] w fun e w' => e = .returned (.int .i64 n) ∧ Below w.heap.size (sets w us) w' := by
  have hmf : ∀ (fn : Fn) (first cap : Array Value) (w : World), (Instr.makeFunc fn first cap).run Try.prog w = .ok (.func fn first cap) w := fun _ _ _ _ => rfl
  have hfn := func_nil k caps
  have HH := Lib.hid H
  have HU := Lib.hid hus
  clear H hus
  go_enter_defers Try.func17, Try.ntmps17
  go_wp2_with fail
  have hb : Below w.heap.size w (w.alloc (.cells #[.int .i64 0] 31)) := (Below.refl _ _).alloc (Nat.le_refl _) _
  refine (HH.out _ hb).mono ?_
  rintro e w2 ⟨rfl, hb2⟩
  have hblk : w2.heap[w.heap.size]? = some (.cells #[.int .i64 0] 31) := by
    rw [hb2.block w.heap.size (by simp)]
    rw [sets_block us _ _ (fun u hu => Nat.ne_of_lt (HU.out u hu))]
    exact (MapKept.heap_alloc w _).1
  have hcell : w2.cell? ⟨w.heap.size, 0, none⟩ = some (.int .i64 0) := by simp [World.cell?, hblk]
  have hfz : w2.frozen? ⟨w.heap.size, 0, none⟩ = false := by simp [World.frozen?, hblk]
  have hsz : w.heap.size < w2.heap.size := by
    have := hb2.size; rw [sets_size] at this; simp at this; omega
  have hfin : Below w.heap.size (sets w us) w2 := by
    refine (below_sets us hb (fun u hu => HU.out u hu)).trans (hb2.mono (by simp))
  have HF := Lib.hid hfin
  have HS := Lib.hid hsz
  clear hb2 hb hfin hsz hblk
  by_cases hn : n = 0
  · subst hn
    rw [show outU 0 = .returned (.tuple #[]) from rfl]
    go_wp2_with fail
    refine leaves_cons (f := 58) (args := #[.pointer (some ⟨w.heap.size, 0, none⟩)]) (by simp) (by simp [go_sem]) ?_
    have h1 : (w2.setCell ⟨w.heap.size, 0, none⟩ (.int .i64 0)).cell? ⟨w.heap.size, 0, none⟩ = some (.int .i64 0) := World.cell?_setCell_same _ _ _ hcell
    have h2 : (w2.setCell ⟨w.heap.size, 0, none⟩ (.int .i64 0)).frozen? ⟨w.heap.size, 0, none⟩ = false := by rw [World.frozen?_setCell]; exact hfz
    refine (tryD_idle _ 0 _ h1 h2).mono ?_
    rintro e u' w'' ⟨rfl, rfl, rfl⟩
    have h3 := World.cell?_setCell_same _ _ (.int .i64 0) h1
    have hf := (HF.out.setCell (p := ⟨w.heap.size, 0, none⟩) (Nat.le_refl _) (.int .i64 0)).setCell (p := ⟨w.heap.size, 0, none⟩) (Nat.le_refl _) (.int .i64 0)
    have HF2 := Lib.hid hf
    clear hf
    simp [Leaves, settle, results, Try.results17, go_sem, h3]
    exact HF2.out
  · rw [show outU n = panics n from if_neg hn]
    refine leaves_cons (f := 58) (args := #[.pointer (some ⟨w.heap.size, 0, none⟩)]) (by simp) (by simp [go_sem]) ?_
    refine (tryD_fault _ 0 n [] _ hcell hfz HS.out).mono ?_
    rintro e u' w'' ⟨rfl, rfl, rfl⟩
    have h1 : (w2.alloc (.cells #[.int .i64 n] 54)).cell? ⟨w.heap.size, 0, none⟩ = some (.int .i64 0) := by
      rw [World.cell?_alloc_lt _ _ _ HS.out]; exact hcell
    have h3 := World.cell?_setCell_same _ _ (.int .i64 n) h1
    have hf := (HF.out.alloc (Nat.le_of_lt HS.out) (.cells #[.int .i64 n] 54)).setCell (p := ⟨w.heap.size, 0, none⟩) (Nat.le_refl _) (.int .i64 n)
    have HF2 := Lib.hid hf
    clear hf
    simp [Leaves, settle, results, Try.results17, go_sem, h3]
    exact HF2.out
end Go.Proofs.Ytcaibieaobhheaa
