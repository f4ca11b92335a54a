/- Arguments that are structs by value: opened to their numbers, and shut again in whatever world. -/
import Derived.Test.YtcaibieaobhheaaPlain
import Derived.Test.YtcaibieaobhheaaProg
import Derived.WalkKit
import Derived.ProofKit
import Derived.OpenShut
import Derived.ChangeSame
import Derived.Below
namespace Go.Proofs.Ytcaibieaobhheaa
open Go.ChangeShapes Go.WideShapes Go.RowKit M
set_option maxRecDepth 100000
set_option linter.unusedVariables false
section
variable {H : Type} {enc : TypeId × Value → H} {W : World} {base : Nat} {sp : Nat → Bool} {hd : Bool}
abbrev lt (x : Int) : DataW H := .lit (.int .i64 x)
abbrev wf (x : Int) : Prop := (Lit.int .i64 x).wf = true
theorem cVec : Try.prog.cellsOf 24 = 2 := by kernel_rfl
theorem cFix : Try.prog.cellsOf 22 = 1 := by kernel_rfl
theorem cInt : Try.prog.cellsOf 3 = 1 := by kernel_rfl
theorem cBox : Try.prog.cellsOf 39 = 4 := by kernel_rfl
theorem cBody : Try.prog.cellsOf 26 = 8 := by kernel_rfl
theorem cHit : Try.prog.cellsOf 30 = 3 := by kernel_rfl
theorem tr_vec {fuel : Nat} {cs : List Value} {x : DataW H × List MemPlace} (h : DataW.trod enc Try.prog W base sp hd fuel 24 cs = some x) :
    ∃ a b, cs = [.int .i64 a, .int .i64 b] ∧ wf a ∧ wf b ∧ x = (.agg [lt a, lt b], []) := by
  obtain ⟨xs, n, _, hx, hl, hxl, hf⟩ := DataW.trod_struct Try.underlying24 h
  rw [cVec] at hl
  match cs, hl with
  | [c0, c1], _ =>
    have h0 : DataW.trod enc Try.prog W base sp hd n 22 (([c0, c1].drop 0).take (Try.prog.cellsOf 22)) = xs[0]? := hf 0 _ rfl
    rw [cFix] at h0
    have h1 : DataW.trod enc Try.prog W base sp hd n 22 (([c0, c1].drop 1).take (Try.prog.cellsOf 22)) = xs[1]? := hf 1 _ rfl
    rw [cFix] at h1
    match xs, hxl with
    | [y0, y1], _ =>
      obtain ⟨a, e0, rfl, wa⟩ := DataW.trod_int Try.underlying22 h0
      obtain ⟨b, e1, rfl, wb⟩ := DataW.trod_int Try.underlying22 h1
      simp at e0 e1
      subst e0 e1
      exact ⟨a, b, rfl, wa, wb, hx⟩
theorem mk_vec {fuel : Nat} {a b : Int} (wa : wf a) (wb : wf b) : DataW.trod enc Try.prog W base sp hd (fuel + 2) 24 [.int .i64 a, .int .i64 b] = some (.agg [lt a, lt b], []) := by
  have h := trod_struct_mk (enc := enc) (w := W) (base := base) (spare := sp) (held := hd) (n := fuel + 1) (cs := [.int .i64 a, .int .i64 b]) (xs := [(lt a, []), (lt b, [])]) Try.underlying24 (by rw [cVec]; rfl)
    (by simp [DataW.trod, Try.underlying22, cFix, wa, wb])
  simpa using h
theorem mk_vec2 {a b : Int} (wa : wf a) (wb : wf b) : DataW.trod enc Try.prog W base sp hd 2 24 [.int .i64 a, .int .i64 b] = some (.agg [lt a, lt b], []) := mk_vec (fuel := 0) wa wb
theorem open_vec {r : Reach} {b0 : Nat} {v : Value} {d : DataW H} {p : List MemPlace} (hv : Value.okWide Try.prog W r b0 24 v) (h : DataW.Trod enc Try.prog W base sp hd 24 v d p) :
    ∃ a b, v = .agg #[.int .i64 a, .int .i64 b] ∧ d = .agg [lt a, lt b] ∧ p = [] ∧ wf a ∧ wf b := by
  obtain ⟨cs, rfl, hsz⟩ := okWide_struct Try.underlying24 hv
  obtain ⟨fuel, hf⟩ := h
  obtain ⟨a, b, hcs, wa, wb, hx⟩ := tr_vec hf
  simp only [Value.cells] at hcs
  obtain ⟨l⟩ := cs
  simp only at hcs
  subst hcs
  simp only [Prod.mk.injEq] at hx
  exact ⟨a, b, rfl, hx.1, hx.2, wa, wb⟩
theorem shut_vec {a b : Int} (wa : wf a) (wb : wf b) : DataW.Trod enc Try.prog W base sp hd 24 (.agg #[.int .i64 a, .int .i64 b]) (.agg [lt a, lt b]) [] := ⟨2, mk_vec wa wb⟩

theorem open_box {r : Reach} {b0 : Nat} {v : Value} {d : DataW H} {p : List MemPlace} (hv : Value.okWide Try.prog W r b0 39 v) (h : DataW.Trod enc Try.prog W base sp hd 39 v d p) :
    ∃ q : Bx, v = .agg #[.int .i64 q.lx, .int .i64 q.ly, .int .i64 q.hx, .int .i64 q.hy] ∧ d = .agg [.agg [lt q.lx, lt q.ly], .agg [lt q.hx, lt q.hy]] ∧ p = [] ∧ wf q.lx ∧ wf q.ly ∧ wf q.hx ∧ wf q.hy := by
  obtain ⟨cs, rfl, hsz⟩ := okWide_struct Try.underlying39 hv
  obtain ⟨fuel, hf⟩ := h
  obtain ⟨xs, n, _, hx, hl, hxl, hf⟩ := DataW.trod_struct Try.underlying39 hf
  rw [cBox] at hl
  simp only [Value.cells] at hl hf
  obtain ⟨l⟩ := cs
  simp only at hl hf
  match l, hl with
  | [c0, c1, c2, c3], _ =>
    have h0 : DataW.trod enc Try.prog W base sp hd n 24 (([c0, c1, c2, c3].drop 0).take (Try.prog.cellsOf 24)) = xs[0]? := hf 0 _ rfl
    rw [cVec] at h0
    have h1 : DataW.trod enc Try.prog W base sp hd n 24 (([c0, c1, c2, c3].drop 2).take (Try.prog.cellsOf 24)) = xs[1]? := hf 1 _ rfl
    rw [cVec] at h1
    match xs, hxl with
    | [y0, y1], _ =>
      obtain ⟨a, b, e0, wa, wb, rfl⟩ := tr_vec h0
      obtain ⟨c, d, e1, wc, wd, rfl⟩ := tr_vec h1
      simp at e0 e1
      obtain ⟨rfl, rfl⟩ := e0
      obtain ⟨rfl, rfl⟩ := e1
      simp only [Prod.mk.injEq] at hx
      exact ⟨⟨a, b, c, d⟩, rfl, hx.1, hx.2, wa, wb, wc, wd⟩
theorem shut_box {q : Bx} (w1 : wf q.lx) (w2 : wf q.ly) (w3 : wf q.hx) (w4 : wf q.hy) : DataW.Trod enc Try.prog W base sp hd 39 (.agg #[.int .i64 q.lx, .int .i64 q.ly, .int .i64 q.hx, .int .i64 q.hy]) (.agg [.agg [lt q.lx, lt q.ly], .agg [lt q.hx, lt q.hy]]) [] := by
  have h := trod_struct_mk (enc := enc) (w := W) (base := base) (spare := sp) (held := hd) (n := 2) (cs := [.int .i64 q.lx, .int .i64 q.ly, .int .i64 q.hx, .int .i64 q.hy]) (xs := [(.agg [lt q.lx, lt q.ly], []), (.agg [lt q.hx, lt q.hy], [])]) Try.underlying39 (by rw [cBox]; rfl)
    (by simp [cVec, mk_vec2 w1 w2, mk_vec2 w3 w4])
  exact ⟨3, by simpa [Value.cells] using h⟩
theorem open_hit {r : Reach} {b0 : Nat} {v : Value} {d : DataW H} {p : List MemPlace} (hv : Value.okWide Try.prog W r b0 30 v) (h : DataW.Trod enc Try.prog W base sp hd 30 v d p) :
    ∃ q : Ht, v = .agg #[.int .i64 q.nx, .int .i64 q.ny, .int .i64 q.d] ∧ d = .agg [.agg [lt q.nx, lt q.ny], lt q.d] ∧ p = [] ∧ wf q.nx ∧ wf q.ny ∧ wf q.d := by
  obtain ⟨cs, rfl, hsz⟩ := okWide_struct Try.underlying30 hv
  obtain ⟨fuel, hf⟩ := h
  obtain ⟨xs, n, _, hx, hl, hxl, hf⟩ := DataW.trod_struct Try.underlying30 hf
  rw [cHit] at hl
  simp only [Value.cells] at hl hf
  obtain ⟨l⟩ := cs
  simp only at hl hf
  match l, hl with
  | [c0, c1, c2], _ =>
    have h0 : DataW.trod enc Try.prog W base sp hd n 24 (([c0, c1, c2].drop 0).take (Try.prog.cellsOf 24)) = xs[0]? := hf 0 _ rfl
    rw [cVec] at h0
    have h1 : DataW.trod enc Try.prog W base sp hd n 22 (([c0, c1, c2].drop 2).take (Try.prog.cellsOf 22)) = xs[1]? := hf 1 _ rfl
    rw [cFix] at h1
    match xs, hxl with
    | [y0, y1], _ =>
      obtain ⟨a, b, e0, wa, wb, rfl⟩ := tr_vec h0
      obtain ⟨c, e1, rfl, wc⟩ := DataW.trod_int Try.underlying22 h1
      simp at e0 e1
      obtain ⟨rfl, rfl⟩ := e0
      subst e1
      simp only [Prod.mk.injEq] at hx
      exact ⟨⟨a, b, c⟩, rfl, hx.1, hx.2, wa, wb, wc⟩
theorem shut_hit {q : Ht} (w1 : wf q.nx) (w2 : wf q.ny) (w3 : wf q.d) : DataW.Trod enc Try.prog W base sp hd 30 (.agg #[.int .i64 q.nx, .int .i64 q.ny, .int .i64 q.d]) (.agg [.agg [lt q.nx, lt q.ny], lt q.d]) [] := by
  have h := trod_struct_mk (enc := enc) (w := W) (base := base) (spare := sp) (held := hd) (n := 2) (cs := [.int .i64 q.nx, .int .i64 q.ny, .int .i64 q.d]) (xs := [(.agg [lt q.nx, lt q.ny], []), (lt q.d, [])]) Try.underlying30 (by rw [cHit]; rfl)
    (by have e := mk_vec2 (enc := enc) (W := W) (base := base) (sp := sp) (hd := hd) w1 w2; simp [cVec, cFix, e]; simp [DataW.trod, Try.underlying22, w3])
  exact ⟨3, by simpa [Value.cells] using h⟩
abbrev bdD (b : Bd) : DataW H := .agg [lt b.shape, .agg [lt b.sx, lt b.sy], lt b.mass, .agg [lt b.px, lt b.py], .agg [lt b.mx, lt b.my]]
structure Bdwf (b : Bd) : Prop where
  shape : wf b.shape
  sx : wf b.sx
  sy : wf b.sy
  mass : wf b.mass
  px : wf b.px
  py : wf b.py
  mx : wf b.mx
  my : wf b.my
theorem Bdwf.ok {b : Bd} (h : Bdwf b) : b.ok := ⟨i64_wf h.shape, i64_wf h.sx, i64_wf h.sy, i64_wf h.mass, i64_wf h.px, i64_wf h.py, i64_wf h.mx, i64_wf h.my⟩
theorem open_body {r : Reach} {b0 : Nat} {v : Value} {d : DataW H} {p : List MemPlace} (hv : Value.okWide Try.prog W r b0 26 v) (h : DataW.Trod enc Try.prog W base sp hd 26 v d p) :
    ∃ q : Bd, v = .agg #[.int .i64 q.shape, .int .i64 q.sx, .int .i64 q.sy, .int .i64 q.mass, .int .i64 q.px, .int .i64 q.py, .int .i64 q.mx, .int .i64 q.my] ∧ d = bdD q ∧ p = [] ∧ Bdwf q := by
  obtain ⟨cs, rfl, hsz⟩ := okWide_struct Try.underlying26 hv
  obtain ⟨fuel, hf⟩ := h
  obtain ⟨xs, n, _, hx, hl, hxl, hf⟩ := DataW.trod_struct Try.underlying26 hf
  rw [cBody] at hl
  simp only [Value.cells] at hl hf
  obtain ⟨l⟩ := cs
  simp only at hl hf
  match l, hl with
  | [c0, c1, c2, c3, c4, c5, c6, c7], _ =>
    have h0 : DataW.trod enc Try.prog W base sp hd n 3 (([c0, c1, c2, c3, c4, c5, c6, c7].drop 0).take (Try.prog.cellsOf 3)) = xs[0]? := hf 0 _ rfl
    rw [cInt] at h0
    have h1 : DataW.trod enc Try.prog W base sp hd n 24 (([c0, c1, c2, c3, c4, c5, c6, c7].drop 1).take (Try.prog.cellsOf 24)) = xs[1]? := hf 1 _ rfl
    rw [cVec] at h1
    have h2 : DataW.trod enc Try.prog W base sp hd n 22 (([c0, c1, c2, c3, c4, c5, c6, c7].drop 3).take (Try.prog.cellsOf 22)) = xs[2]? := hf 2 _ rfl
    rw [cFix] at h2
    have h3 : DataW.trod enc Try.prog W base sp hd n 24 (([c0, c1, c2, c3, c4, c5, c6, c7].drop 4).take (Try.prog.cellsOf 24)) = xs[3]? := hf 3 _ rfl
    rw [cVec] at h3
    have h4 : DataW.trod enc Try.prog W base sp hd n 24 (([c0, c1, c2, c3, c4, c5, c6, c7].drop 6).take (Try.prog.cellsOf 24)) = xs[4]? := hf 4 _ rfl
    rw [cVec] at h4
    match xs, hxl with
    | [y0, y1, y2, y3, y4], _ =>
      obtain ⟨a, e0, rfl, wa⟩ := DataW.trod_int Try.underlying3 h0
      obtain ⟨b, c, e1, wb, wc, rfl⟩ := tr_vec h1
      obtain ⟨d, e2, rfl, wd⟩ := DataW.trod_int Try.underlying22 h2
      obtain ⟨e, f, e3, we, wf', rfl⟩ := tr_vec h3
      obtain ⟨g, i, e4, wg, wi, rfl⟩ := tr_vec h4
      simp at e0 e1 e2 e3 e4
      obtain ⟨rfl, rfl⟩ := e1
      obtain ⟨rfl, rfl⟩ := e3
      obtain ⟨rfl, rfl⟩ := e4
      subst e0 e2
      simp only [Prod.mk.injEq] at hx
      exact ⟨⟨a, b, c, d, e, f, g, i⟩, rfl, hx.1, hx.2, ⟨wa, wb, wc, wd, we, wf', wg, wi⟩⟩
theorem shut_body {q : Bd} (h : Bdwf q) : DataW.Trod enc Try.prog W base sp hd 26 (.agg #[.int .i64 q.shape, .int .i64 q.sx, .int .i64 q.sy, .int .i64 q.mass, .int .i64 q.px, .int .i64 q.py, .int .i64 q.mx, .int .i64 q.my]) (bdD q) [] := by
  have h := trod_struct_mk (enc := enc) (w := W) (base := base) (spare := sp) (held := hd) (n := 2) (cs := [.int .i64 q.shape, .int .i64 q.sx, .int .i64 q.sy, .int .i64 q.mass, .int .i64 q.px, .int .i64 q.py, .int .i64 q.mx, .int .i64 q.my])
    (xs := [(lt q.shape, []), (.agg [lt q.sx, lt q.sy], []), (lt q.mass, []), (.agg [lt q.px, lt q.py], []), (.agg [lt q.mx, lt q.my], [])]) Try.underlying26 (by rw [cBody]; rfl)
    (by
      have e1 := mk_vec2 (enc := enc) (W := W) (base := base) (sp := sp) (hd := hd) h.sx h.sy
      have e2 := mk_vec2 (enc := enc) (W := W) (base := base) (sp := sp) (hd := hd) h.px h.py
      have e3 := mk_vec2 (enc := enc) (W := W) (base := base) (sp := sp) (hd := hd) h.mx h.my
      have e4 : DataW.trod enc Try.prog W base sp hd 2 3 [.int .i64 q.shape] = some (lt q.shape, []) := by simp [DataW.trod, Try.underlying3, h.shape]
      have e5 : DataW.trod enc Try.prog W base sp hd 2 22 [.int .i64 q.mass] = some (lt q.mass, []) := by simp [DataW.trod, Try.underlying22, h.mass]
      simp [cVec, cFix, cInt, e1, e2, e3, e4, e5])
  exact ⟨3, by simpa [Value.cells] using h⟩
/-- The row's last step where of the world 'Below' alone is known. -/
theorem post_below {P : Program} {f : Func} {s : ChangeSpec} {apart fresh handsOn again : Bool} {W W' : World} {args : Array Value} {v : Value} {ds gs : List (DataW H)} {before pa pv : List MemPlace}
    (hW : DataW.Whole enc P f.params.toList s.vars apart W args.toList ds gs before)
    (hres : ∀ (b : Nat) (sp : Nat → Bool) (hd : Bool), DataW.TrodAll enc P W' b sp hd f.resultTypes.toList (v.resultList f.resultTypes.size) (s.fn H (ds ++ gs)).results [])
    (hargs : ∀ sp : Nat → Bool, (∀ p ∈ before, sp p.block = true) → DataW.TrodAll enc P W' 0 sp true f.params.toList args.toList (s.fn H (ds ++ gs)).args pa)
    (hvars : ∀ sp : Nat → Bool, (∀ p ∈ before, sp p.block = true) → DataW.TrodVars enc P W' sp s.vars (s.fn H (ds ++ gs)).vars pv)
    (hps : before = pa ++ pv) (hb : Below W.heap.size W W')
    (hok : ∀ (j : Nat) (t : TypeId) (r : Value), f.resultTypes[j]? = some t → (v.resultList f.resultTypes.size)[j]? = some r → Value.okWide P W' .any 0 t r) :
    s.post enc P f apart fresh handsOn again W args v W' := by
  have hlt : ∀ p ∈ before, p.block < W.heap.size := fun p hp => hW.lt p hp
  have hold : ∀ p ∈ before, (fun b => decide (b < W.heap.size)) p.block = true := fun p hp => by simpa using hlt p hp
  refine ⟨ds, gs, before, [], pa, pv, hW, hres _ _ _, hargs _ hold, hvars _ hold, World.keptBut_mono (fun p hp => ⟨hp, ?_⟩) (hb.frame (· ∈ before)), fun _ => ?_⟩
  · rw [hps, List.mem_append] at hp
    exact Or.inr hp
  · obtain ⟨_, _, _, _, _, hz, hn⟩ := hW
    refine ⟨hok, _, _, ([] ++ pa) ++ pv, ⟨[] ++ pa, pv, trodAll_append (hargs _ (fun _ _ => rfl)) (hres _ _ _), hvars _ (fun _ _ => rfl), rfl, ?_, ?_⟩, ?_⟩
    · intro b off hp
      have hin : MemPlace.cell b off ∈ before := by rw [hps]; simpa using hp
      rw [hb.frozen (hlt _ hin)]
      exact hz b off hin
    · intro ha
      have := hn ha
      rw [hps] at this
      simpa using this
    · intro p hp _
      rw [hps]
      simpa using hp
end
end Go.Proofs.Ytcaibieaobhheaa
