/- Chapter 3's own catcher; Try of every Fault, and of nothing. -/
import Derived.Test.YtcaibieaobhheaaPan
namespace Go.Proofs.Ytcaibieaobhheaa
open Go.RowKit M
set_option maxRecDepth 100000
set_option maxHeartbeats 2000000
set_option linter.unusedVariables false
set_option linter.unusedSimpArgs false
/-- Chapter 3's own catcher, of a frame that panics with a text. -/
theorem cauD_str (p : Nat) (t : ByteArray) (ht : t.toList.isEmpty = false) (s0 : ByteArray) (older : List PanicEntry) (w : World) (hp : Var w p #[.string s0]) :
    CallsD Try.prog 90 #[.pointer (some ⟨p, 0, none⟩)] (.panicking ({ v := strV t, recovered := false } :: older)) w fun e u' w' =>
      e = .returned (.tuple #[]) ∧ u' = .panicking ({ v := strV t, recovered := true } :: older) ∧ w' = w.setCell ⟨p, 0, none⟩ (.string t) := by
  have q : w.cell? ⟨p, 0, none⟩ = some (.string s0) := hp.c 0 _ rfl
  have f := hp.2.2 0
  have q2 := World.cell?_setCell_same w ⟨p, 0, none⟩ (.string t) q
  have f2 : (w.setCell ⟨p, 0, none⟩ (.string t)).frozen? ⟨p, 0, none⟩ = false := by rw [World.frozen?_setCell]; exact f
  have n1 : ∀ w : World, (binOp .neq 20 (.iface 9 (.string t)) .nilIface).run Try.prog w = .ok (.bool true) w := fun w => by kernel_rfl
  have n2 : ∀ w : World, (Instr.typeAssert (.iface 9 (.string t)) 20 9 true).run Try.prog w = .ok (.tuple #[.string t, .bool true]) w := fun w => by kernel_rfl
  have n3 := ht
  refine callsD_of_wpS Try.func90 rfl fun c₀ cs hu => ?_
  apply wpS_seq
  apply wpS_region
  simp [wpOpsS, go_sem, recoverD, hu, Try.ntmps90, Exit.thenS, strV]
  refine wpS_of_wp ?_
  clear hp ht
  generalize hT : (#[Value.pointer (some ⟨p, 0, none⟩)] ++ ((Array.replicate 11 undef).setIfInBounds 1 (Value.iface 9 (Value.string t))).setIfInBounds 0 (Value.iface 9 (Value.string t))) = T
  obtain rfl : T = #[.pointer (some ⟨p, 0, none⟩), .iface 9 (.string t), .iface 9 (.string t), undef, undef, undef, undef, undef, undef, undef, undef, undef] := hT.symm.trans (by rfl)
  clear hT
  go_wp2_with fail
  simp [bodyPostS, results, Try.results90, go_sem]
/-- Chapter 3's own catcher: of a function that panics with a text, behind Try: the text. -/
theorem caughtS_c (k : FuncId) (caps : Array Value) (w : World) (t : ByteArray) (ht : t.toList.isEmpty = false) (hk : ∀ w : World, (callFunc k caps).run Try.prog w = .ok (.enter k caps) w)
    (H : ∀ w1, Below w.heap.size w w1 → Calls Try.prog k caps w1 fun e w' => e = .panicked [{ v := strV t, recovered := false }, { v := strV t, recovered := true }] ∧ Bw w1 w') :
    Calls Try.prog 40 #[.func (.func k) #[] caps] w fun e w' => e = .returned (.string t) ∧ Bw w w' := by
  have hmf : ∀ (fn : Fn) (first cap : Array Value) (w : World), (Instr.makeFunc fn first cap).run Try.prog w = .ok (.func fn first cap) w := fun _ _ _ _ => rfl
  have HH := Lib.hid H
  have HT := Lib.hid ht
  clear H ht
  go_enter_defers Try.func40, Try.ntmps40
  go_wp2_with fail
  have hb : Below w.heap.size w (w.alloc (.cells #[.string ⟨#[]⟩] 9)) := (Below.refl _ _).alloc (Nat.le_refl _) _
  refine (HH.out _ hb).mono ?_
  rintro e w2 ⟨rfl, hb2⟩
  have hv : Var w2 w.heap.size #[.string ⟨#[]⟩] := (var_alloc w #[.string ⟨#[]⟩] 9).mono hb2
  have hfin : Below w.heap.size w w2 := hb.trans (hb2.mono (by simp))
  have HF := Lib.hid (hfin.setCell (p := ⟨w.heap.size, 0, none⟩) (Nat.le_refl _) (.string t))
  have h3 := World.cell?_setCell_same w2 ⟨w.heap.size, 0, none⟩ (.string t) (hv.c 0 _ rfl)
  refine leaves_cons (f := 90) (args := #[.pointer (some ⟨w.heap.size, 0, none⟩)]) (by simp) (by simp [go_sem]) ?_
  refine (cauD_str _ t HT.out _ _ _ hv).mono ?_
  rintro e u' w'' ⟨rfl, rfl, rfl⟩
  clear hfin hb hb2 hv
  simp [Leaves, settle, results, Try.results40, go_sem, h3]
  exact HF.out
/-- Try of a closure that panics with a Fault, whatever its number (0, too). -/
theorem try_fault (k : FuncId) (caps : Array Value) (w : World) (n : Int) (hk : ∀ w : World, (callFunc k caps).run Try.prog w = .ok (.enter k caps) w)
    (H : ∀ w1, Below w.heap.size w w1 → Calls Try.prog k caps w1 fun e w' => e = panics n ∧ Bw w1 w') :
    Calls Try.prog 17 #[.func (.func k) #[] caps] w fun e w' => e = .returned (.int .i64 n) ∧ Bw w w' := by
  have hmf : ∀ (fn : Fn) (first cap : Array Value) (w : World), (Instr.makeFunc fn first cap).run Try.prog w = .ok (.func fn first cap) w := fun _ _ _ _ => rfl
  have hfn := func_nil k caps
  have HH := Lib.hid H
  clear H
  go_enter_defers Try.func17, Try.ntmps17
  go_wp2_with fail
  have hb : Below w.heap.size w (w.alloc (.cells #[.int .i64 0] 31)) := (Below.refl _ _).alloc (Nat.le_refl _) _
  refine (HH.out _ hb).mono ?_
  rintro e w2 ⟨rfl, hb2⟩
  have hv : Var w2 w.heap.size #[.int .i64 0] := (var_alloc w #[.int .i64 0] 31).mono hb2
  have HF := Lib.hid (hb.trans (hb2.mono (by simp)))
  have HV := Lib.hid hv
  have hcell := hv.c 0 _ rfl
  have hfz := hv.2.2 0
  clear hb2 hb hv
  refine leaves_cons (f := 58) (args := #[.pointer (some ⟨w.heap.size, 0, none⟩)]) (by simp) (by simp [go_sem]) ?_
  refine (tryD_fault _ 0 n [] _ hcell hfz HV.out.lt).mono ?_
  rintro e u' w'' ⟨rfl, rfl, rfl⟩
  have h1 : (w2.alloc (.cells #[.int .i64 n] 54)).cell? ⟨w.heap.size, 0, none⟩ = some (.int .i64 0) := by
    rw [World.cell?_alloc_lt _ _ _ HV.out.lt]; exact hcell
  have h3 := World.cell?_setCell_same _ _ (.int .i64 n) h1
  have HF2 := Lib.hid ((HF.out.alloc (Nat.le_of_lt HV.out.lt) (.cells #[.int .i64 n] 54)).setCell (p := ⟨w.heap.size, 0, none⟩) (Nat.le_refl _) (.int .i64 n))
  simp [Leaves, settle, results, Try.results17, go_sem, h3]
  exact HF2.out
/-- Try of nothing. -/
theorem try_nil (w : World) : Calls Try.prog 17 #[.nilFunc] w fun e w' => e = .returned (.int .i64 9) ∧ Bw w w' := by
  have hfn : ∀ w : World, (binOp .eql 1 .nilFunc .nilFunc).run Try.prog w = .ok (.bool true) w := fun w => by kernel_rfl
  have HF := Lib.hid (((Below.refl w.heap.size w).alloc (Nat.le_refl _) (.cells #[.int .i64 0] 31)).setCell (p := ⟨w.heap.size, 0, none⟩) (Nat.le_refl _) (.int .i64 9))
  go_enter_defers Try.func17, Try.ntmps17
  go_wp2_with fail
  have HB := Lib.hid ((Below.refl w.heap.size w).alloc (Nat.le_refl _) (.cells #[.int .i64 9] 31))
  clear HF hfn
  have hc : (w.alloc (.cells #[.int .i64 9] 31)).cell? ⟨w.heap.size, 0, none⟩ = some (.int .i64 9) := (var_alloc w #[.int .i64 9] _).c 0 _ rfl
  simp [bodyPostD, Leaves, settle, results, Try.results17, go_sem, hc]
  exact HB.out
theorem throwF_c (n : Int) (p : Nat) (w : World) (hp : Var w p #[.int .i64 n]) :
    Calls Try.prog 44 #[.pointer (some ⟨p, 0, none⟩)] w fun en w' => en = panics n ∧ Bw w w' := by
  have q : w.cell? ⟨p, 0, none⟩ = some (.int .i64 n) := hp.c 0 _ rfl
  unfold panics fault
  go_enter Try.func44, Try.ntmps44
  go_wp2_with fail
  exact ⟨rfl, rfl, Below.refl _ _⟩
/-- CalcPanics' second closure: what the inner Try tells is kept. -/
theorem pan2_c (p q : Nat) (n : Int) (w : World) (hp : Var w p #[.int .i64 n]) (hq : Var w q #[.int .i64 0]) (hn : p ≠ q) :
    Calls Try.prog 43 #[.pointer (some ⟨p, 0, none⟩), .pointer (some ⟨q, 0, none⟩)] w fun e w' => e = outU 0 ∧ Below w.heap.size (sets w (usI q (.ok n))) w' := by
  have HP := Lib.hid hp; have HQ := Lib.hid hq
  clear hp hq
  rw [outU_0]
  go_enter Try.func43, Try.ntmps43
  go_wp2_with fail
  refine (try_fault _ _ _ n (fun _ => rfl) (fun w1 hb => throwF_c n p w1 (HP.out.mono hb))).mono ?_
  rintro en w1 ⟨rfl, hb⟩
  have HB := Lib.hid (M.below_sets (usI q (.ok n)) hb (fun u hu => by rw [usI_block hu]; exact HQ.out.lt))
  have v := HQ.out.mono hb
  have c := v.c 0 _ rfl
  have f := v.2.2 0
  clear hb v
  go_wp2_with fail
  exact bodyPost_end (v := .tuple #[]) (by first | rfl | kernel_rfl | simp [results, go_sem]) rfl ⟨rfl, HB.out⟩
end Go.Proofs.Ytcaibieaobhheaa
