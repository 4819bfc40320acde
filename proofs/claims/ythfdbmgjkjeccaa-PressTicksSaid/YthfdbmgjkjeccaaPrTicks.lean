/- The given law PressTicks returns true for every machine, temperature and valve, and leaves its arguments as they were. No conditions. -/
import Derived.Test.YthfdbmgjkjeccaaPrA
import Derived.Test.YthfdbmgjkjeccaaRows
import Derived.ProofKit
import Derived.Carry
namespace Go.Sx
open Go Go.Proofs Go.ChangeShapes Go.WideShapes Go.ChangeAt Go.RowKit
section
variable {P : Program} {W W' : World}
/-- No object of one's own; every block may be read. -/
def R00 (W : World) : Rp := ⟨0, fun _ => nilSl, fun b => b < W.heap.size, fun _ => False⟩
theorem law_calls {f : FuncId} {args : List XV} {vs : Array Value} (h : PSpec P f args (xP True)) (he : EntersF P f) (hargs : RepXs W (R00 W) args vs) :
    Calls P f vs W fun e W' => e = .returned (.bool true) ∧ Below W.heap.size W W' := by
  have hm : MemOK W (R00 W) (([] : List Blk).map some) := ⟨rfl, fun id b h => by simp at h, fun i j g h => by obtain ⟨b, h⟩ := h; simp at h, fun i g h => by obtain ⟨b, h⟩ := h; simp at h, fun b h => h.elim id False.elim, fun i h => absurd h (Nat.not_lt_zero i)⟩
  rcases h W (R00 W) vs hargs hm with ⟨_, h2⟩ | ⟨v, w', h1, _⟩
  · refine h2.mono ?_
    rintro e W' ⟨v, r, m', R', rfl, ⟨rfl, _⟩, hf, hr⟩
    have hv : v = .bool (@decide True instDecidableTrue) := hr
    refine ⟨by rw [hv]; rfl, hf.os, hf.tape, hf.output, hf.size, fun k hk => hf.block k hk ?_⟩
    rintro ⟨i, ⟨b, hb⟩, _⟩
    simp at hb
  · rw [he vs W] at h1; cases h1
theorem trodAll_below {H : Type} {enc : TypeId × Value → H} (hl : laidOutB P = true) (hb : Below W.heap.size W W') : ∀ {ts : List TypeId} {vs : List Value} {ds : List (DataW H)} {ps : List MemPlace}, (∀ t ∈ ts, P.readableRec t = true ∧ t < P.types.size) →
    DataW.TrodAll enc P W 0 (fun _ => true) true ts vs ds ps → (∀ x ∈ ps, x.block < W.heap.size) → DataW.TrodAll enc P W' 0 (fun b => decide (b < W.heap.size)) true ts vs ds ps
  | [], vs, ds, ps, _, h, _ => by
    cases vs <;> cases ds <;> simp [DataW.TrodAll] at h ⊢
    exact h
  | t :: ts, vs, ds, ps, ht, h, hlt => by
    obtain ⟨v, vs', d, ds', p, q, rfl, rfl, rfl, h1, h2⟩ := trodAll_cons h
    refine ⟨p, q, Below.trod hl (ht t (List.mem_cons_self ..)).1 (ht t (List.mem_cons_self ..)).2 h1 hb fun x hx => hlt x (List.mem_append_left _ hx),
      trodAll_below hl hb (fun t' ht' => ht t' (List.mem_cons_of_mem _ ht')) h2 fun x hx => hlt x (List.mem_append_right _ hx), rfl⟩
theorem cell_int {base : Nat} {t : TypeId} {k : IntKind} {v : Value} (ht : P.underlying t = some (.int k)) (h : Cell.okWide P W .any base t v) : ∃ n, v = .int k n ∧ k.has n := by
  simp only [ht, Cell.okWide] at h
  cases v <;> simp_all [Cell.ok]
/-- A struct of integers. -/
theorem agg_ints {base : Nat} {t e : TypeId} {fs : Array Field} {k : IntKind} {n : Nat} {v : Value} (ht : P.underlying t = some (.struct fs)) (hts : P.cellTypes P.depth t = some (List.replicate n e)) (hc : P.cellsOf t = n) (he : P.underlying e = some (.int k))
    (h : Value.okWide P W .any base t v) : ∃ f : Nat → Int, ∃ cs, v = .agg cs ∧ cs.size = n ∧ ∀ i, i < n → cs.getD i undef = .int k (f i) := by
  simp only [Value.okWide, ht] at h
  obtain ⟨cs, h1, h2, ts, h3, _, h4⟩ := h
  rw [hts] at h3
  cases h3
  refine ⟨fun i => match cs.getD i undef with | .int _ n => n | _ => 0, cs, h1, by rw [h2, hc], fun i hi => ?_⟩
  have hlt : i < cs.size := by rw [h2, hc]; exact hi
  obtain ⟨u, hu, hcell⟩ := h4 i cs[i] (by simp [hlt])
  have : u = e := by
    have := List.mem_of_getElem? hu
    exact (List.mem_replicate.1 this).2
  subst this
  obtain ⟨m, hm, _⟩ := cell_int he hcell
  simp [Array.getD_eq_getD_getElem?, hlt, hm]
end
end Go.Sx
namespace Go.Proofs.Ythfdbmgjkjeccaa
open Go.ChangeShapes Go.WideShapes Go.ChangeAt Go.RowKit Go.Sx
theorem Try.own : ownKnob Try.prog.godebug = none := by kernel_rfl
theorem Try.laidOut : laidOutB Try.prog = true := by kernel_rfl
theorem bool_trod {H : Type} {enc : TypeId × Value → H} {W : World} {base : Nat} {sp : Nat → Bool} {held : Bool} (b : Bool) : DataW.Trod enc Try.prog W base sp held 4 (.bool b) (.lit (.bool b)) [] := ⟨1, by simp [DataW.trod, Value.cells, Try.underlying4]⟩
set_option maxRecDepth 100000 in
theorem pressTicks_lifted (os : Os) (started : os.Started) (H : Type) (enc : TypeId × Value → H) :
    ReturnsInHanded {} Try.checked os 3 .any (Rows.pressTicksSpec.pre6 enc Try.prog Try.f3 Rows.pressTicksRow.domain false) (Rows.pressTicksSpec.post enc Try.prog Try.f3 false true false false) := by
  refine returnsInHanded_of_change (C := Try.checked) Try.own started (by kernel_rfl) Try.func3
    (ChangeSpec.witness6 (enc := enc) (C := Try.checked) false ⟨#[], #[.agg #[.int .i64 0, .int .i64 0, .int .i64 0, .int .i64 0, .int .i64 0, .int .i64 0, .int .i64 0, .int .i64 0, .int .i64 0], .int .i64 0, .int .i64 0], []⟩ 8 (by kernel_rfl) (by kernel_rfl) (by kernel_rfl) (by kernel_rfl)) ?_
  intro W base args ds gs before hval0 hW hcnd _
  have hval : ∀ (j : Nat) t v, Try.f3.params[j]? = some t → args[j]? = some v → Value.okWide Try.prog W .any base t v := hval0
  have hW' := hW
  obtain ⟨p, q, hA0, hV, rfl, hfz, hnd⟩ := hW
  have hA : DataW.TrodAll enc Try.prog W 0 (fun _ => true) true Try.f3.params.toList args.toList ds p := hA0
  obtain ⟨rfl, rfl⟩ := trodVars_none hV
  have hA1 := hA
  rw [Try.params3] at hA1 hval
  obtain ⟨v0, v1, v2, d0, d1, d2, p0, p1, p2, rfl, rfl, rfl, h0, h1, h2⟩ := trodAll_three hA1
  simp only [List.append_nil] at hW'
  have hlt : ∀ x ∈ p0 ++ p1 ++ p2, x.block < W.heap.size := fun x hx => by simpa using hW'.lt x hx
  obtain ⟨f, cs, rfl, hsz, hf⟩ := agg_ints Try.underlying23 (n := 9) (e := 2) (by kernel_rfl) (by kernel_rfl) Try.underlying2 (hval 0 23 v0 rfl rfl)
  obtain ⟨t, rfl⟩ := okWide_int Try.underlying2 (hval 1 2 v1 rfl rfl)
  obtain ⟨u, rfl⟩ := okWide_int Try.underlying3 (hval 2 3 v2 rfl rfl)
  have hrep : RepXs W (R00 W) [Mac.x ⟨f 0, f 1, f 2, f 3, f 4, f 5, f 6, f 7, f 8⟩, I t, I u] #[.agg cs, .int .i64 t, .int .i64 u] := by
    refine ⟨rfl, fun j x hx => ?_⟩
    rcases (by have := (List.getElem?_eq_some_iff.1 hx).1; simp at this; omega : j = 0 ∨ j = 1 ∨ j = 2) with rfl | rfl | rfl
    · cases hx
      refine ⟨cs, rfl, hsz, fun i s hs => ?_⟩
      have hi : i < 9 := (List.getElem?_eq_some_iff.1 hs).1
      have h9 := hf i hi
      rcases (by omega : i = 0 ∨ i = 1 ∨ i = 2 ∨ i = 3 ∨ i = 4 ∨ i = 5 ∨ i = 6 ∨ i = 7 ∨ i = 8) with rfl | rfl | rfl | rfl | rfl | rfl | rfl | rfl | rfl <;> (cases hs; exact h9)
    · cases hx; rfl
    · cases hx; rfl
  refine (law_calls (s3 _ _ _) e3 hrep).mono fun e W' ⟨he, hb⟩ => ?_
  subst he
  exact ⟨_, rfl, ⟨_, _, _, [], _, [], hW', trodAll_mk1 (bool_trod true), trodAll_below Try.laidOut hb (by rw [Try.params3]; intro t ht; simp at ht; rcases ht with rfl | rfl | rfl <;> exact ⟨by kernel_rfl, of_decide_eq_true (by kernel_rfl)⟩) hA hlt, rfl, hb.frame _, fun h => by cases h⟩⟩
theorem pressTicks_holds : Rows.PressTicksSaid :=
  OpenClaim.holds_of_wide 3 Try.f3 rfl rfl rfl rfl rfl rfl rfl ⟨rfl, rfl, rfl, rfl, rfl⟩ rfl rfl rfl rfl rfl (by kernel_rfl) Try.func3 (by kernel_rfl)
    (of_decide_eq_true (by kernel_rfl)) (by unfold Func.isWrapper; first | (rw [if_pos (by decide +kernel)]; kernel_rfl) | (rw [if_neg (by decide +kernel)]; exact ⟨rfl, rfl⟩))
    (fun os started H enc _ => pressTicks_lifted os started H enc)
end Go.Proofs.Ythfdbmgjkjeccaa
