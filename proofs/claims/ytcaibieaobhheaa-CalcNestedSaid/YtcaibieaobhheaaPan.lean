/- Panics with a text: through calc.Try, and caught by chapter 3's own function. (begun) -/
import Derived.Test.YtcaibieaobhheaaVar3
namespace Go.Proofs.Ytcaibieaobhheaa
open Go.RowKit M
set_option maxRecDepth 100000
set_option maxHeartbeats 2000000
set_option linter.unusedVariables false
def strV (t : ByteArray) : Value := .iface 9 (.string t)
theorem throw_c (t : ByteArray) (p : Addr) (w : World) (hc : w.cell? p = some (.string t)) :
    Calls Try.prog 42 #[.pointer (some p)] w fun en w' => en = .panicked [{ v := strV t, recovered := false }] ∧ w' = w := by
  unfold strV
  go_enter Try.func42, Try.ntmps42
  go_wp2_with fail
  exact ⟨rfl, rfl, rfl⟩
theorem assert_str (t : ByteArray) (w : World) : (Instr.typeAssert (.iface 9 (.string t)) 20 54 true).run Try.prog w = .ok (.tuple #[.agg #[.int .i64 0], .bool false]) w := by kernel_rfl
theorem caught_str (t : ByteArray) (w : World) :
    Calls Try.prog 59 #[strV t] w fun en w' => en = .panicked [{ v := strV t, recovered := false }] ∧ Bw w w' := by
  unfold strV
  have hz := assert_str t
  go_enter Try.func59, Try.ntmps59
  go_wp2_with fail
  exact ⟨rfl, rfl, (Below.refl _ _).alloc (Nat.le_refl _) _⟩
/-- The deferred closure of Try, of a frame that panics with a text: it panics anew. -/
theorem tryD_str (p : Addr) (t : ByteArray) (older : List PanicEntry) (w : World) :
    CallsD Try.prog 58 #[.pointer (some p)] (.panicking ({ v := strV t, recovered := false } :: older)) w fun e u' w' =>
      e = .panicked [{ v := strV t, recovered := false }] ∧ u' = .panicking ({ v := strV t, recovered := true } :: older) ∧ Bw w w' := by
  refine callsD_of_wpS Try.func58 rfl fun c₀ cs hu => ?_
  apply wpS_region
  simp [wpOpsS, go_sem, recoverD, hu, Try.ntmps58, strV]
  refine (caught_str t w).mono ?_
  rintro e w' ⟨rfl, hb⟩
  simp [go_sem, bodyPostS, strV]
  exact hb
/-- Try of a closure that panics with a text: the panic goes on. -/
theorem try_str (k : FuncId) (caps : Array Value) (w : World) (t : ByteArray) (hk : ∀ w : World, (callFunc k caps).run Try.prog w = .ok (.enter k caps) w)
    (H : ∀ w1, Below w.heap.size w w1 → Calls Try.prog k caps w1 fun e w' => e = .panicked [{ v := strV t, recovered := false }] ∧ Bw w1 w') :
    Calls Try.prog 17 #[.func (.func k) #[] caps] w fun e w' => e = .panicked [{ v := strV t, recovered := false }, { v := strV t, recovered := true }] ∧ Bw w w' := by
  have hmf : ∀ (fn : Fn) (first cap : Array Value) (w : World), (Instr.makeFunc fn first cap).run Try.prog w = .ok (.func fn first cap) w := fun _ _ _ _ => rfl
  have hfn := func_nil k caps
  have HH := Lib.hid H
  clear H
  go_enter_defers Try.func17, Try.ntmps17
  go_wp2_with fail
  have hb : Below w.heap.size w (w.alloc (.cells #[.int .i64 0] 31)) := (Below.refl _ _).alloc (Nat.le_refl _) _
  refine (HH.out _ hb).mono ?_
  rintro e w2 ⟨rfl, hb2⟩
  have hfin : Below w.heap.size w w2 := hb.trans (hb2.mono (by simp))
  refine leaves_cons (f := 58) (args := #[.pointer (some ⟨w.heap.size, 0, none⟩)]) (by simp) (by simp [go_sem]) ?_
  refine (tryD_str _ t [] _).mono ?_
  rintro e u' w'' ⟨rfl, rfl, hb3⟩
  have hf := hfin.trans (hb3.mono hfin.size)
  have HF := Lib.hid hf
  simp [Leaves, raised]
  exact HF.out
/-- CalcPanics' first closure: a panic with a text goes through Try. -/
theorem pan1_c (p : Nat) (t : ByteArray) (w : World) (hp : Var w p #[.string t]) :
    Calls Try.prog 41 #[.pointer (some ⟨p, 0, none⟩)] w fun en w' => en = .panicked [{ v := strV t, recovered := false }, { v := strV t, recovered := true }] ∧ Bw w w' := by
  have HP := Lib.hid hp
  clear hp
  go_enter Try.func41, Try.ntmps41
  go_wp2_with fail
  refine (try_str _ _ _ t (fun _ => rfl) (fun w1 hb => (throw_c t _ w1 ((HP.out.mono hb).c 0 _ rfl)).mono fun en w' h => ⟨h.1, by rw [h.2]; exact Below.refl _ _⟩)).mono ?_
  rintro en w' ⟨rfl, hb⟩
  exact ⟨rfl, rfl, hb⟩
end Go.Proofs.Ytcaibieaobhheaa
