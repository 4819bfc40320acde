import Derived.Test.YteodcncppchhnaaGreatDoorXw
import Derived.Lib.LaidU8
/- Sx, variables of the program: a law whose functions read variables that nothing writes; what they hold is known at the start. -/
namespace Go.Sx
open Go Go.ChangeShapes Go.WideShapes Go.ChangeAt Go.RowKit
/-- A variable and the plain cells that it holds. -/
structure GVar where
  g : Nat
  ks : List CK
  row : List Cell
def GVar.blk (e : GVar) : Blk := .gbox e.g e.ks e.row
/-- The variable holds its cells. -/
def GlobAt (w : World) (e : GVar) : Prop := ∃ (vals : Array Value) (t : TypeId) (z : Nat × Nat), w.heap[e.g]? = some (.cells vals t z) ∧ e.row.length = e.ks.length ∧
  ∀ (f : Nat) (k : CK) (c : Cell), e.row[f]? = some c → e.ks[f]? = some k → vals[f]? = some (vals.getD f undef) ∧ RepC w (fun b => b < w.heap.size) k c (vals.getD f undef)
def R0g (W : World) (n : Nat) : Rp := ⟨n, fun _ => nilSl, fun b => b < W.heap.size, fun _ => False, fun _ => Fam.nil⟩
theorem r0g_rd (W : World) (n : Nat) : (R0g W n).rd true = fun b => b < W.heap.size := by
  funext b
  simp [Rp.rd, R0g]
theorem glob_rep {W : World} {n : Nat} {e : GVar} (h : GlobAt W e) : RepS W (R0g W n) (.lel true e.ks [e.row] 0 0) (.pointer (some ⟨e.g, 0, none⟩)) := by
  obtain ⟨vals, t, z, hh, hlen, hc⟩ := h
  have hg : e.g < W.heap.size := (Array.getElem?_eq_some_iff.1 hh).1
  have hone : ∀ (i : Nat) r, [e.row][i]? = some r → i = 0 ∧ r = e.row := fun i r hr => by
    cases i with
    | zero => simp at hr; exact ⟨rfl, hr.symm⟩
    | succ i => simp at hr
  refine ⟨⟨e.g, 0, none⟩, 1, ?_, by simp, by simp [addr_add]⟩
  rw [r0g_rd]
  refine .sl e.ks [e.row] _ 1 (fun _ f => vals.getD f undef) (Nat.le_refl _) (fun r hr => by simp at hr; rw [hr, hlen]) (fun _ => ⟨_, rfl, hg, fun i r f c k e1 e2 e3 => ?_⟩) (fun i r f c k e1 e2 e3 => ?_)
  · obtain ⟨rfl, rfl⟩ := hone i r e1
    rw [addr_add]
    simp only [World.cell?, hh]
    simpa using (hc f k c e2 e3).1
  · obtain ⟨rfl, rfl⟩ := hone i r e1
    exact (hc f k c e2 e3).2
theorem law_callsG {P : Program} {W : World} {f : FuncId} {args : List XV} {vs : Array Value} (gs : List GVar) (hg : ∀ e, e ∈ gs → GlobAt W e) (h : HSpec P f args (gs.map GVar.blk) (fun r _ => r = .x (.one (.prp True instDecidableTrue)))) (he : EntersF P f) (hargs : RepXs W (R00 W) args vs) :
    Calls P f vs W fun e W' => e = .returned (.bool true) ∧ Below W.heap.size W W' := by
  have hx : Ext W (R00 W) W (R0g W gs.length) := ⟨Nat.zero_le _, fun _ h => absurd h (Nat.not_lt_zero _), fun _ h => h, fun _ h => h, fun _ _ => rfl, fun _ h => absurd h (Nat.not_lt_zero _)⟩
  have hnb : ∀ id b, ¬ (R0g W gs.length).own id b := fun id b h => by rcases h with h | ⟨h, _⟩ <;> cases h
  have hm : MemOK W (R0g W gs.length) ((gs.map GVar.blk).map some) := ⟨by simp [R0g], fun id b h => by
    simp only [List.getElem?_map, Option.map_eq_some_iff] at h
    obtain ⟨x, ⟨e, h1, rfl⟩, h3⟩ := h
    cases h3
    exact ⟨rfl, glob_rep (hg e (List.mem_of_getElem? h1))⟩, fun i j g _ _ h _ => absurd h (hnb i g), fun i g _ h => absurd h (hnb i g), fun b h => h.elim id False.elim, fun i _ => ⟨rfl, rfl⟩⟩
  rcases h W _ vs (hargs.ext hx) hm with ⟨_, h2⟩ | ⟨v, w', h1, _⟩
  · refine h2.mono ?_
    rintro e W' ⟨v, r, m', R', rfl, rfl, hf, hr⟩
    have hv : v = .bool (@decide True instDecidableTrue) := hr
    refine ⟨by rw [hv]; rfl, hf.os, hf.tape, hf.output, hf.size, fun k hk => hf.block k hk ?_⟩
    rintro ⟨i, _, hb⟩
    exact hnb i k hb
  · rw [he vs W] at h1; cases h1
theorem lifted_trueG {H : Type} {enc : TypeId × Value → H} {C : Checked} {os : Os} {f : FuncId} {fn : Func} {s : ChangeSpec} {X : World → Array Value → Prop} (hX : ∀ (w w' : World) (args : Array Value), w.heap = w'.heap → X w args → X w' args)
    (gs : List GVar) (hG : ∀ w args, X w args → ∀ e, e ∈ gs → GlobAt w e)
    (own : ownKnob C.prog.godebug = none) (started : os.Started) (hl : laidOutB C.prog = true) (noInit : C.prog.inits.idxOf? f = none)
    (hfn : C.prog.funcs[f]? = some fn) (he : EntersF C.prog f) (tb : TypeId) (hres : fn.resultTypes = #[tb]) (htb : C.prog.underlying tb = some .bool)
    (hro : fn.params.toList.all (fun t => C.prog.readableRec t && decide (t < C.prog.types.size)) = true) (hvars : s.vars = [])
    (hs : ∀ ds : List (DataW H), ds.length = fn.params.size → s.fn H ds = { results := [.lit (.bool true)], args := ds }) (qs : List (Bool × List CK)) (hq : parKs C.prog fn.params.toList = some qs)
    (law : ∀ rows, WfRows qs rows → HSpec C.prog f (xvs qs rows) (gs.map GVar.blk) (fun r _ => r = .x (.one (.prp True instDecidableTrue))))
    (witness : ∃ (w : World) (tape : Tape) (i : Input), w.os = os ∧ (w.forCall tape i).Shaped C.prog ∧ i.vars = [] ∧ Input.okWide C.prog (w.forCall tape i) .any w.heap.size f i ∧
      ((s.pre enc C.prog fn [] false (w.forCall tape i).memory i.args ∧ X (w.forCall tape i).memory i.args) ∧ sizedMet enc C.prog fn (OpenSpec.ofChange s) false (w.forCall tape i).memory i.args) ∧ ({} : Assume).holds C.prog (lone (Frame.enter C.prog f i.args .normal) [] (w.forCall tape i))) :
    ReturnsInHanded {} C os f .any (fun w args => (s.pre enc C.prog fn [] false w args ∧ X w args) ∧ sizedMet enc C.prog fn (OpenSpec.ofChange s) false w args) (s.post enc C.prog fn false true false false) := by
  refine returnsInHanded_of_change_and (X := X) hX own started noInit hfn witness ?_
  intro W base args ds gs' before hval hW _ _ hXW _
  have hW' := hW
  obtain ⟨p, q, hA, hV, rfl, hfz, hnd⟩ := hW
  rw [hvars] at hV
  obtain ⟨rfl, rfl⟩ := trodVars_none hV
  have hlt : ∀ x ∈ p, x.block < W.heap.size := fun x hx => hW'.lt x (List.mem_append_left _ hx)
  obtain ⟨rows, h1, h2, h3⟩ := args_rep hA (fun j t v ht hv => hval j t v (by simpa using ht) (by simpa using hv)) hq
  have hrep : RepXs W (R00 W) (xvs qs rows) args := ⟨by simpa using h2, fun j x hx => by simpa [Array.getD_eq_getD_getElem?, List.getD_eq_getElem?_getD] using h3 j x hx⟩
  have hdl : ds.length = fn.params.size := by simpa using (trodAll_length hA).2
  refine (law_callsG gs (hG W args hXW) (law rows h1) he hrep).mono fun e W' ⟨he, hb⟩ => ?_
  subst he
  refine ⟨_, rfl, ds, [], _, [], p, [], hW', ?_, ?_, ?_, hb.frame _, fun h => by cases h⟩
  · rw [List.append_nil, hs ds hdl, hres]
    exact trodAll_mk1 ⟨1, by simp [DataW.trod, Value.cells, htb]⟩
  · rw [List.append_nil, hs ds hdl]
    refine trodAll_below hl hb (fun t ht => ?_) hA hlt
    have := List.all_eq_true.1 hro t ht
    simpa using this
  · rw [List.append_nil, hs ds hdl, hvars]
    rfl
end Go.Sx

/- Sx, variables of the program: what a variable of two plain numbers reads as is what it holds. -/
namespace Go.Sx
open Go Go.RowKit Go.Lib
theorem glob_pair {P : Program} {w : World} {name : String} {g : Nat} {t e : TypeId} {a b : Int} (hn : P.globalNamed name = some g) (ht : (P.globals[g]?).map (·.type) = some t) (hu : P.underlying t = some (.array 2 e)) (hc : P.cellsOf e = 1) (he : P.underlying e = some (.int .i64))
    (hr : VarReads P w name (.agg [.lit (.int .i64 a), .lit (.int .i64 b)])) : GlobAt w ⟨g, [.int .i64, .int .i64], [.int a, .int b]⟩ := by
  obtain ⟨g', t', cs, fuel, p, h1, h2, h3, h4⟩ := hr
  have eg : g = g' := Option.some.inj (hn.symm.trans h1)
  subst eg
  have et : t = t' := Option.some.inj (ht.symm.trans h2)
  subst et
  have hcell : ∀ i, i < 2 → ∀ z, [(DataW.lit (.int .i64 a) : DataW Unit), .lit (.int .i64 b)][i]? = some (.lit (.int .i64 z)) → cs[i]? = some (.int .i64 z) := fun i hi z hz => by
    obtain ⟨fuel', d, q, hd, htr⟩ := array_elem hu h4 i hi
    rw [hz] at hd
    cases hd
    obtain ⟨z', hcz, hd', _⟩ := DataW.trod_int he htr
    cases hd'
    rw [hc, Nat.mul_one] at hcz
    have := congrArg (·[0]?) hcz
    simpa [List.getElem?_take, List.getElem?_drop] using this
  unfold World.var? at h3
  rw [hn] at h3
  simp only [Option.bind_some] at h3
  split at h3
  · rename_i c ty z hh
    cases h3
    refine ⟨cs, ty, z, hh, rfl, fun f k x hx hk => ?_⟩
    have q0 := hcell 0 (by decide) a rfl
    have q1 := hcell 1 (by decide) b rfl
    rcases f with _ | _ | f
    · simp at hx hk
      subst hx hk
      rw [q0, show cs.getD 0 undef = .int .i64 a by simp [Array.getD_eq_getD_getElem?, q0]]
      exact ⟨rfl, .int _ _⟩
    · simp at hx hk
      subst hx hk
      rw [q1, show cs.getD 1 undef = .int .i64 b by simp [Array.getD_eq_getD_getElem?, q1]]
      exact ⟨rfl, .int _ _⟩
    · simp at hx
  · cases h3
end Go.Sx
