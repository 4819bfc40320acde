import Derived.Test.YteodcncppchhnaaGreatDoorXc
import Derived.ProofKit
import Derived.Carry
import Derived.HandedShaped
import Derived.ChangeCalls
/- Sx, the frame: arguments that can be read as data, as abstract values. -/
namespace Go.Sx
open Go Go.RowKit
/-- A cell that fits its kind. -/
inductive Wf : CK → Cell → Prop
  | int {k : IntKind} {n : Int} (h : inR k n) : Wf (.int k) (.int n)
  | bool (b : Bool) : Wf .bool (.bool b)
  | str {s : ByteArray} (h : s.size ≤ maxLen) : Wf .str (.str s)
  | sl {ks : List CK} {rows : Arr} (h : rows.length ≤ maxLen) (hr : ∀ r ∈ rows, r.length = ks.length) (hw : ∀ r ∈ rows, ∀ (j : Nat) k c, ks[j]? = some k → r[j]? = some c → Wf k c) : Wf (.sl ks) (.sl rows)
/-- The kinds of a type's cells, where its fields lie one behind the other. -/
def kindsT (P : Program) : Nat → TypeId → Option (List CK)
  | 0, _ => none
  | n + 1, t => match P.underlying t with
    | some (.int k) => some [.int k]
    | some .bool => some [.bool]
    | some .string => some [.str]
    | some (.slice e) => match kindsT P n e with
      | some ks => if ks.length = P.cellsOf e ∧ 0 < ks.length then some [.sl ks] else none
      | none => none
    | some (.array m e) => match kindsT P n e with
      | some ks => if ks.length = P.cellsOf e ∧ m * ks.length = P.cellsOf t then some (many m ks) else none
      | none => none
    | some (.struct fs) => match flds (fun t => kindsT P n t) 0 fs.toList with
      | some ks => if ks.length = P.cellsOf t then some ks else none
      | none => none
    | _ => none
where
  many : Nat → List CK → List CK
    | 0, _ => []
    | m + 1, ks => ks ++ many m ks
  flds (g : TypeId → Option (List CK)) : Nat → List Field → Option (List CK)
    | _, [] => some []
    | off, f :: l => match g f.type with
      | some ks => if f.offset = off ∧ ks.length = P.cellsOf f.type then match flds g (off + ks.length) l with
          | some ks' => some (ks ++ ks')
          | none => none
        else none
      | none => none
/-- Cells, kind by kind. -/
inductive RW (w : World) (S : Nat → Prop) : List CK → List Cell → List Value → Prop
  | nil : RW w S [] [] []
  | cons {k : CK} {c : Cell} {v : Value} {ks : List CK} {cs : List Cell} {vs : List Value} (h : RepC w S k c v) (hw : Wf k c) (t : RW w S ks cs vs) : RW w S (k :: ks) (c :: cs) (v :: vs)
section
variable {P : Program} {w : World} {S : Nat → Prop}
theorem RW.len {ks : List CK} {cs : List Cell} {vs : List Value} (h : RW w S ks cs vs) : cs.length = ks.length ∧ vs.length = ks.length := by
  induction h with
  | nil => exact ⟨rfl, rfl⟩
  | cons _ _ _ ih => exact ⟨by simp [ih.1], by simp [ih.2]⟩
theorem RW.app {ks ks' : List CK} {cs cs' : List Cell} {vs vs' : List Value} (h : RW w S ks cs vs) (h' : RW w S ks' cs' vs') : RW w S (ks ++ ks') (cs ++ cs') (vs ++ vs') := by
  induction h with
  | nil => exact h'
  | cons h1 h2 _ ih => exact .cons h1 h2 ih
theorem RW.get {ks : List CK} {cs : List Cell} {vs : List Value} (h : RW w S ks cs vs) : ∀ (j : Nat) k c, ks[j]? = some k → cs[j]? = some c → ∃ v, vs[j]? = some v ∧ RepC w S k c v ∧ Wf k c := by
  induction h with
  | nil => intro j k c h; simp at h
  | cons h1 h2 _ ih =>
    intro j k c hk hc
    cases j with
    | zero => simp at hk hc; subst hk hc; exact ⟨_, rfl, h1, h2⟩
    | succ j => simpa using ih j k c (by simpa using hk) (by simpa using hc)
theorem wf_inR {k : IntKind} {n : Int} (h : (Lit.int k n).wf = true) : inR k n := by
  simp only [Lit.wf, Bool.and_eq_true, decide_eq_true_eq] at h
  cases k <;> exact h
theorem mapM_range {α : Type} {f : Nat → Option α} : ∀ (n : Nat) (l : List α), (List.range n).mapM f = some l → l.length = n ∧ ∀ i, i < n → f i = l[i]? := by
  intro n
  induction n with
  | zero => intro l h; simp at h; subst h; exact ⟨rfl, fun i hi => absurd hi (Nat.not_lt_zero i)⟩
  | succ n ih =>
    intro l h
    rw [List.range_succ, List.mapM_append] at h
    simp only [List.mapM_cons, List.mapM_nil, Option.pure_def, Option.bind_some, bind] at h
    cases h1 : (List.range n).mapM f with
    | none => simp [h1] at h
    | some l1 =>
      cases h2 : f n with
      | none => simp [h1, h2] at h
      | some x =>
        simp [h1, h2] at h
        subst h
        obtain ⟨g1, g2⟩ := ih l1 h1
        refine ⟨by simp [g1], fun i hi => ?_⟩
        rcases Nat.lt_or_ge i n with h3 | h3
        · rw [g2 i h3, List.getElem?_append, if_pos (by omega)]
        · have : i = n := by omega
          subst this
          rw [h2, List.getElem?_append, if_neg (by omega), g1]; simp
theorem cells_get {a : Addr} {n : Nat} {vs : List Value} {base : Nat} (h : w.cells? base a n = some vs) : vs.length = n ∧ ∀ i, i < n → w.cell? (a.add i) = vs[i]? := by
  unfold World.cells? at h
  split at h
  · exact mapM_range n vs h
  · cases h
theorem cell_blk {a : Addr} {v : Value} (h : w.cell? a = some v) : a.block < w.heap.size := by
  unfold World.cell? at h
  split at h
  · rename_i hh; exact (Array.getElem?_eq_some_iff.1 hh).1
  · cases h
theorem rw_rows {ks : List CK} : ∀ (n : Nat) (f : Nat → List Value), (∀ i, i < n → ∃ cs, RW w S ks cs (f i)) → ∃ rows : Arr, rows.length = n ∧ ∀ (i : Nat) r, rows[i]? = some r → RW w S ks r (f i)
  | 0, _, _ => ⟨[], rfl, fun i r h => by simp at h⟩
  | n + 1, f, h => by
    obtain ⟨rows, h1, h2⟩ := rw_rows n f (fun i hi => h i (by omega))
    obtain ⟨cs, h3⟩ := h n (by omega)
    refine ⟨rows ++ [cs], by simp [h1], fun i r hr => ?_⟩
    rw [List.getElem?_append] at hr
    split at hr
    · exact h2 i r hr
    · rename_i hl
      have : i - rows.length = 0 := by
        rcases Nat.eq_zero_or_pos (i - rows.length) with h0 | h0
        · exact h0
        · rw [List.getElem?_eq_none (by simp; omega)] at hr; cases hr
      rw [this] at hr
      simp at hr
      subst hr
      have : i = n := by omega
      rw [this]; exact h3
theorem trod_rep {H : Type} {enc : TypeId × Value → H} {sp : Nat → Bool} {held : Bool} : ∀ (fuel n : Nat) (t : TypeId) (ks : List CK) (vs : List Value) (d : DataW H) (ps : List MemPlace), DataW.trod enc P w 0 sp held fuel t vs = some (d, ps) → kindsT P n t = some ks →
    ∃ cs, RW w (fun b => b < w.heap.size) ks cs vs
  | 0, _, _, _, _, _, _, h, _ => by simp [DataW.trod] at h
  | fuel + 1, 0, _, _, _, _, _, _, h => by simp [kindsT] at h
  | fuel + 1, n + 1, t, ks, vs, d, ps, h, hk => by
    unfold kindsT at hk
    unfold DataW.trod at h
    split at hk
    · rename_i k hu
      cases hk
      rw [hu] at h
      simp only at h
      split at h <;> rename_i hu' <;> first | cases hu' | skip
      all_goals first
        | (cases h; done)
        | skip
      split at h
      · rename_i hc
        cases h
        obtain ⟨rfl, hw⟩ := hc
        exact ⟨[.int _], .cons (.int _ _) (.int (wf_inR hw)) .nil⟩
      · cases h
    · rename_i hu
      cases hk
      rw [hu] at h
      simp only at h
      split at h <;> rename_i hu' <;> first | cases hu' | skip
      all_goals first
        | (cases h; done)
        | skip
      exact ⟨[.bool _], .cons (.bool _) (.bool _) .nil⟩
    · rename_i hu
      cases hk
      rw [hu] at h
      simp only at h
      split at h <;> rename_i hu' <;> first | cases hu' | skip
      all_goals first
        | (cases h; done)
        | skip
      split at h
      · rename_i hs
        exact ⟨[.str _], .cons (.str _) (.str hs) .nil⟩
      · cases h
    · rename_i e hu
      rw [hu] at h
      simp only at h
      split at hk
      · rename_i ks' hk'
        split at hk
        · rename_i hc
          cases hk
          obtain ⟨hc1, hc2⟩ := hc
          split at h <;> rename_i hu' <;> first | cases hu' | skip
          all_goals first
            | (cases h; done)
            | skip
          · exact ⟨[.sl []], .cons (.sl ks' [] none 0 (fun _ _ => undef) (Nat.le_refl _) (fun r hr => by simp at hr) (fun hne => (hne rfl).elim) (fun i r f c k h1 => by simp at h1)) (.sl (Nat.zero_le _) (fun r hr => by simp at hr) (fun r hr => by simp at hr)) .nil⟩
          · rename_i a len cap
            split at h
            · rename_i hb
              obtain ⟨_, hlc, hcm⟩ := hb
              cases hm : (List.range len).mapM fun i => (w.cells? 0 (a.add (i * P.cellsOf e)) (P.cellsOf e)).bind (DataW.trod enc P w 0 sp held fuel e) with
              | none => rw [hm] at h; simp at h
              | some elems =>
                obtain ⟨g1, g2⟩ := mapM_range len elems hm
                have key : ∀ i, i < len → ∃ vs', w.cells? 0 (a.add (i * P.cellsOf e)) (P.cellsOf e) = some vs' ∧ ∃ cs, RW w (fun b => b < w.heap.size) ks' cs vs' := fun i hi => by
                  have h3 := g2 i hi
                  rw [List.getElem?_eq_getElem (by omega)] at h3
                  cases h4 : w.cells? 0 (a.add (i * P.cellsOf e)) (P.cellsOf e) with
                  | none => rw [h4] at h3; simp at h3
                  | some vs' =>
                    rw [h4] at h3
                    simp only [Option.bind_some] at h3
                    exact ⟨vs', rfl, trod_rep fuel n e ks' vs' _ _ h3 hk'⟩
                obtain ⟨rows, r1, r2⟩ := rw_rows len (fun i => (w.cells? 0 (a.add (i * P.cellsOf e)) (P.cellsOf e)).getD []) (fun i hi => by
                  obtain ⟨vs', h3, h4⟩ := key i hi
                  rw [h3]; exact h4)
                have hcell : ∀ (i : Nat) r f c k, rows[i]? = some r → r[f]? = some c → ks'[f]? = some k → ∃ v, w.cell? (a.add (i * ks'.length + f)) = some v ∧ RepC w (fun b => b < w.heap.size) k c v ∧ Wf k c := fun i r f c k h1 h2 h3 => by
                  have hi : i < len := by rw [← r1]; exact (List.getElem?_eq_some_iff.1 h1).1
                  have hf : f < ks'.length := (List.getElem?_eq_some_iff.1 h3).1
                  obtain ⟨v, h4, h5, h6⟩ := (r2 i r h1).get f k c h3 h2
                  obtain ⟨vs', h7, _⟩ := key i hi
                  rw [h7] at h4
                  simp only [Option.getD_some] at h4
                  obtain ⟨_, h8⟩ := cells_get h7
                  refine ⟨v, ?_, h5, h6⟩
                  rw [hc1, ← add_add, h8 f (by omega)]
                  exact h4
                have hval : (Value.slice (some a) len cap) = .slice (some a) rows.length cap := by rw [r1]
                refine ⟨[.sl rows], .cons ?_ (.sl (by omega) (fun r hr => ?_) (fun r hr j k c h1 h2 => ?_)) .nil⟩
                · rw [hval]
                  refine .sl ks' rows (some a) cap (fun i f => (w.cell? (a.add (i * ks'.length + f))).getD undef) (by omega) (fun r hr => ?_) (fun hne => ⟨a, rfl, ?_, fun i r f c k h1 h2 h3 => ?_⟩) (fun i r f c k h1 h2 h3 => ?_)
                  · obtain ⟨i, hi⟩ := List.getElem?_of_mem hr
                    exact (r2 i r hi).len.1
                  · have h0 : 0 < rows.length := by
                      cases rows with
                      | nil => exact (hne rfl).elim
                      | cons => simp
                    obtain ⟨v, hv, _⟩ := hcell 0 rows[0] 0 ((rows[0])[0]'(by rw [(r2 0 _ (List.getElem?_eq_getElem h0)).len.1]; exact hc2)) (ks'[0]) (List.getElem?_eq_getElem h0) (List.getElem?_eq_getElem _) (List.getElem?_eq_getElem hc2)
                    have := cell_blk hv
                    rwa [add_block] at this
                  · obtain ⟨v, hv, _⟩ := hcell i r f c k h1 h2 h3
                    rw [hv]; rfl
                  · obtain ⟨v, hv, hr, _⟩ := hcell i r f c k h1 h2 h3
                    rw [hv]; exact hr
                · obtain ⟨i, hi⟩ := List.getElem?_of_mem hr
                  exact (r2 i r hi).len.1
                · obtain ⟨i, hi⟩ := List.getElem?_of_mem hr
                  obtain ⟨v, _, _, hw⟩ := hcell i r j c k hi h2 h1
                  exact hw
            · cases h
        · cases hk
      · cases hk
    · rename_i m e hu
      rw [hu] at h
      simp only at h
      split at hk
      · rename_i ks' hk'
        split at hk
        · rename_i hc
          cases hk
          obtain ⟨hc1, hc2⟩ := hc
          split at h
          · rename_i hl
            cases hm : (List.range m).mapM fun i => DataW.trod enc P w 0 sp held fuel e ((vs.drop (i * P.cellsOf e)).take (P.cellsOf e)) with
            | none => rw [hm] at h; simp at h
            | some xs =>
              obtain ⟨g1, g2⟩ := mapM_range m xs hm
              have key : ∀ i, i < m → ∃ cs, RW w (fun b => b < w.heap.size) ks' cs ((vs.drop (i * P.cellsOf e)).take (P.cellsOf e)) := fun i hi => by
                have h3 := g2 i hi
                rw [List.getElem?_eq_getElem (by omega)] at h3
                exact trod_rep fuel n e ks' _ _ _ h3 hk'
              have all : ∀ j, j ≤ m → ∃ cs, RW w (fun b => b < w.heap.size) (kindsT.many j ks') cs (vs.drop ((m - j) * P.cellsOf e)) := by
                intro j
                induction j with
                | zero =>
                  intro _
                  refine ⟨[], ?_⟩
                  rw [List.drop_eq_nil_of_le (by rw [hl, ← hc2, hc1]; simp)]
                  exact .nil
                | succ j ih =>
                  intro hj
                  obtain ⟨cs2, h2⟩ := ih (by omega)
                  obtain ⟨cs1, h1⟩ := key (m - (j + 1)) (by omega)
                  refine ⟨cs1 ++ cs2, ?_⟩
                  have hd : vs.drop ((m - (j + 1)) * P.cellsOf e) = (vs.drop ((m - (j + 1)) * P.cellsOf e)).take (P.cellsOf e) ++ vs.drop ((m - j) * P.cellsOf e) := by
                    have e1 : (m - j) * P.cellsOf e = (m - (j + 1)) * P.cellsOf e + P.cellsOf e := by rw [← Nat.succ_mul]; congr 1; omega
                    rw [e1, ← List.drop_drop, List.take_append_drop]
                  rw [hd]
                  exact h1.app h2
              obtain ⟨cs, hcs⟩ := all m (Nat.le_refl _)
              refine ⟨cs, ?_⟩
              simpa using hcs
          · cases h
        · cases hk
      · cases hk
    · rename_i fs hu
      rw [hu] at h
      simp only at h
      split at hk
      · rename_i ks' hk'
        split at hk
        · rename_i hc
          cases hk
          split at h
          · rename_i hl
            cases hm : (fs.toList.mapM fun f => DataW.trod enc P w 0 sp held fuel f.type ((vs.drop f.offset).take (P.cellsOf f.type))) with
            | none => rw [hm] at h; simp at h
            | some xs =>
              have all : ∀ (l : List Field) (off : Nat) (ks : List CK) (xs : List (DataW H × List MemPlace)), kindsT.flds P (fun t => kindsT P n t) off l = some ks → (l.mapM fun f => DataW.trod enc P w 0 sp held fuel f.type ((vs.drop f.offset).take (P.cellsOf f.type))) = some xs → off + ks.length = vs.length → ∃ cs, RW w (fun b => b < w.heap.size) ks cs (vs.drop off) := by
                intro l
                induction l with
                | nil =>
                  intro off ks xs h1 h2 h3
                  cases h1
                  refine ⟨[], ?_⟩
                  rw [List.drop_eq_nil_of_le (by simp at h3; omega)]
                  exact .nil
                | cons f l ih =>
                  intro off ks xs h1 h2 h3
                  unfold kindsT.flds at h1
                  split at h1
                  · rename_i k1 hk1
                    split at h1
                    · rename_i hcf
                      obtain ⟨hf1, hf2⟩ := hcf
                      split at h1
                      · rename_i k2 hk2
                        cases h1
                        rw [List.mapM_cons] at h2
                        cases ht : DataW.trod enc P w 0 sp held fuel f.type ((vs.drop f.offset).take (P.cellsOf f.type)) with
                        | none => rw [ht] at h2; simp at h2
                        | some x =>
                          cases ht2 : (l.mapM fun f => DataW.trod enc P w 0 sp held fuel f.type ((vs.drop f.offset).take (P.cellsOf f.type))) with
                          | none => rw [ht, ht2] at h2; simp at h2
                          | some xs2 =>
                            obtain ⟨cs2, g2⟩ := ih (off + k1.length) k2 xs2 hk2 ht2 (by simp at h3; omega)
                            obtain ⟨cs1, g1⟩ := trod_rep fuel n f.type k1 _ _ _ ht hk1
                            refine ⟨cs1 ++ cs2, ?_⟩
                            have hd : vs.drop off = (vs.drop f.offset).take (P.cellsOf f.type) ++ vs.drop (off + k1.length) := by
                              rw [hf1, ← List.drop_drop, hf2, List.take_append_drop]
                            rw [hd]
                            exact g1.app g2
                      · cases h1
                    · cases h1
                  · cases h1
              obtain ⟨cs, hcs⟩ := all _ 0 _ xs hk' hm (by omega)
              exact ⟨cs, by simpa using hcs⟩
          · cases h
        · cases hk
      · cases hk
    · cases hk
end
/-! ### Parameters -/
inductive WfR : List CK → List Cell → Prop
  | nil : WfR [] []
  | cons {k : CK} {c : Cell} {ks : List CK} {cs : List Cell} (h : Wf k c) (t : WfR ks cs) : WfR (k :: ks) (c :: cs)
/-- The kinds of a parameter: an aggregate, or one cell. -/
def parK (P : Program) (t : TypeId) : Option (Bool × List CK) :=
  match kindsT P 20 t with
  | none => none
  | some ks => match P.underlying t with
    | some (.struct _) | some (.array _ _) => some (true, ks)
    | _ => some (false, ks)
def parKs (P : Program) : List TypeId → Option (List (Bool × List CK))
  | [] => some []
  | t :: l => match parK P t, parKs P l with
    | some q, some qs => some (q :: qs)
    | _, _ => none
inductive WfRows : List (Bool × List CK) → List (List Cell) → Prop
  | nil : WfRows [] []
  | cons {b : Bool} {ks : List CK} {r : List Cell} {qs : List (Bool × List CK)} {rows : List (List Cell)} (h : WfR ks r) (t : WfRows qs rows) : WfRows ((b, ks) :: qs) (r :: rows)
def xvOf : Bool × List CK → List Cell → XV
  | (true, ks), r => .agg (svsAt true [r] 0 ks 0)
  | (false, [k]), r => .one (svAt true [r] 0 0 k)
  | (false, _), _ => .one .any
def xvs : List (Bool × List CK) → List (List Cell) → List XV
  | q :: qs, r :: rows => xvOf q r :: xvs qs rows
  | _, _ => []
section
variable {P : Program} {W W' : World}
/-- No object of one's own; every block may be read. -/
def R00 (W : World) : Rp := ⟨0, fun _ => nilSl, fun b => b < W.heap.size, fun _ => False, fun _ => Fam.nil⟩
theorem RW.wf {w : World} {S : Nat → Prop} {ks : List CK} {cs : List Cell} {vs : List Value} (h : RW w S ks cs vs) : WfR ks cs := by
  induction h with
  | nil => exact .nil
  | cons _ h2 _ ih => exact .cons h2 ih
theorem repC_r00 {k : CK} {c : Cell} {v : Value} (h : RepC W (fun b => b < W.heap.size) k c v) : RepC W ((R00 W).rd true) k c v := by
  have : (R00 W).rd true = fun b => b < W.heap.size := by
    funext b
    simp [Rp.rd, R00]
  rw [this]; exact h
theorem rep_at {r : List Cell} {f : Nat} {k : CK} {c : Cell} {v : Value} (hc : r[f]? = some c) (h : RepC W (fun b => b < W.heap.size) k c v) : RepS W (R00 W) (svAt true [r] 0 f k) v := by
  have h0 := repC_r00 h
  have e : cellAt [r] 0 f = c := by simp [cellAt, List.getD_eq_getElem?_getD, hc]
  cases h0 with
  | int k n => simp [svAt, RepS, rI, e, Cell.toInt]
  | bool b => simp [svAt, RepS, rB, e, Cell.toBool]
  | str s => simp [svAt, RepS, rS, e, Cell.toStr]
  | fn f => simp only [svAt, RepS, rF, e, Cell.toFn]; exact ⟨#[], rfl, rfl, fun j p h => by simp at h⟩
  | sl ks rows a cap cv h1 h2 h3 h4 => simp only [svAt, RepS, rA, e, Cell.toArr]; exact .sl ks rows a cap cv h1 h2 h3 h4
  | pt ks row ad cap h0 h1 =>
    simp only [svAt, RepS, rA, e, Cell.toArr]
    exact ⟨ad, cap, h1, Nat.zero_lt_one, by rw [Nat.zero_mul]; exact congrArg (fun x => Value.pointer (some x)) h0.symm⟩
theorem reps_at {r : List Cell} : ∀ {ks : List CK} {cs : List Cell} {vs : List Value} (f : Nat), RW W (fun b => b < W.heap.size) ks cs vs → r.drop f = cs →
    ∀ (j : Nat) s, (svsAt true [r] 0 ks f)[j]? = some s → RepS W (R00 W) s (vs.getD j undef)
  | _, _, _, _, .nil, _ => fun j s h => by simp [svsAt] at h
  | _, _, _, f, .cons (c := c) (cs := cs) h1 _ ht, hd => fun j s hj => by
    have hc : r[f]? = some c := by
      have := congrArg (fun l => l[0]?) hd
      simpa using this
    cases j with
    | zero => simp [svsAt] at hj; subst hj; simpa using rep_at hc h1
    | succ j =>
      have := reps_at (f + 1) ht (by rw [← List.drop_drop, hd]; rfl) j s (by simpa [svsAt] using hj)
      simpa using this
theorem RW.svs_len {ks : List CK} : ∀ {f : Nat} {r : Arr}, (svsAt true r 0 ks f).length = ks.length := by
  induction ks with
  | nil => intros; rfl
  | cons k ks ih => intro f r; simp [svsAt, ih]
theorem kindsT_one {n : Nat} {t : TypeId} {ks : List CK} (h : kindsT P n t = some ks) (h1 : ∀ fs, P.underlying t ≠ some (.struct fs)) (h2 : ∀ m e, P.underlying t ≠ some (.array m e)) : ∃ k, ks = [k] := by
  cases n with
  | zero => simp [kindsT] at h
  | succ n =>
    unfold kindsT at h
    split at h
    · cases h; exact ⟨_, rfl⟩
    · cases h; exact ⟨_, rfl⟩
    · cases h; exact ⟨_, rfl⟩
    · split at h
      · split at h
        · cases h; exact ⟨_, rfl⟩
        · cases h
      · cases h
    · exact (h2 _ _ (by assumption)).elim
    · exact (h1 _ (by assumption)).elim
    · cases h
theorem arg_rep {H : Type} {enc : TypeId × Value → H} {base : Nat} {t : TypeId} {v : Value} {d : DataW H} {ps : List MemPlace} {q : Bool × List CK} (h : DataW.Trod enc P W 0 (fun _ => true) true t v d ps)
    (hv : Value.okWide P W .any base t v) (hq : parK P t = some q) : ∃ r, WfR q.2 r ∧ RepX W (R00 W) (xvOf q r) v := by
  obtain ⟨fuel, h⟩ := h
  unfold parK at hq
  split at hq
  · cases hq
  · rename_i ks hk
    obtain ⟨cs, hcs⟩ := trod_rep fuel 20 t ks _ _ _ h hk
    have agg : (∃ xs, v = .agg xs) → ∃ r, WfR ks r ∧ RepX W (R00 W) (xvOf (true, ks) r) v := by
      rintro ⟨xs, rfl⟩
      refine ⟨cs, hcs.wf, xs, rfl, ?_, ?_⟩
      · rw [RW.svs_len]
        have := hcs.len.2
        simpa [Value.cells] using this
      · intro j s hj
        have := reps_at 0 hcs rfl j s hj
        simp only [Value.cells] at this
        simpa [Array.getD_eq_getD_getElem?, List.getD_eq_getElem?_getD] using this
    unfold Value.okWide at hv
    split at hq
    · rename_i fs hu
      cases hq
      rw [hu] at hv
      obtain ⟨xs, hx, _⟩ := hv
      exact agg ⟨xs, hx⟩
    · rename_i m e hu
      cases hq
      rw [hu] at hv
      obtain ⟨xs, hx, _⟩ := hv
      exact agg ⟨xs, hx⟩
    · rename_i g1 g2
      cases hq
      obtain ⟨k, rfl⟩ := kindsT_one hk (fun fs hu => g1 fs hu) (fun m e hu => g2 m e hu)
      cases hx : v.cells.toList with
      | nil => rw [hx] at hcs; cases hcs
      | cons v' l =>
        rw [hx] at hcs
        cases hcs with
        | cons h1 h2 h3 =>
          cases h3
          refine ⟨_, .cons h2 .nil, ?_⟩
          have hvv : v = v' := by
            cases v <;> simp [Value.cells] at hx <;> first | exact hx | exact hx.1 | skip
            unfold Cell.okWide at hv
            split at hv <;> simp_all [Cell.ok]
          subst hvv
          exact rep_at (f := 0) rfl h1
theorem args_rep {H : Type} {enc : TypeId × Value → H} {base : Nat} : ∀ {ts : List TypeId} {vs : List Value} {ds : List (DataW H)} {ps : List MemPlace} {qs : List (Bool × List CK)}, DataW.TrodAll enc P W 0 (fun _ => true) true ts vs ds ps →
    (∀ (j : Nat) t v, ts[j]? = some t → vs[j]? = some v → Value.okWide P W .any base t v) → parKs P ts = some qs →
    ∃ rows, WfRows qs rows ∧ vs.length = (xvs qs rows).length ∧ ∀ (j : Nat) x, (xvs qs rows)[j]? = some x → RepX W (R00 W) x (vs.getD j undef)
  | [], vs, ds, ps, qs, h, _, hq => by
    cases vs <;> cases ds <;> simp [DataW.TrodAll] at h
    cases hq
    exact ⟨[], .nil, rfl, fun j x hx => by simp [xvs] at hx⟩
  | t :: ts, vs, ds, ps, qs, h, hv, hq => by
    obtain ⟨v, vs', d, ds', p, q, rfl, rfl, rfl, h1, h2⟩ := ChangeShapes.trodAll_cons h
    unfold parKs at hq
    split at hq
    · rename_i q1 q2 e1 e2
      cases hq
      obtain ⟨r, g1, g2⟩ := arg_rep h1 (hv 0 t v rfl rfl) e1
      obtain ⟨rows, g3, g4, g5⟩ := args_rep h2 (fun j t v h h' => hv (j + 1) t v (by simpa using h) (by simpa using h')) e2
      refine ⟨r :: rows, .cons g1 g3, by simp [xvs, g4], fun j x hx => ?_⟩
      cases j with
      | zero => simp [xvs] at hx; subst hx; simpa using g2
      | succ j => simpa using g5 j x (by simpa [xvs] using hx)
    · cases hq
end
end Go.Sx

/- Sx, the frame of a law's row: true for any input that can be read; the input reads as it did. -/
namespace Go.Sx
open Go Go.ChangeShapes Go.WideShapes Go.ChangeAt Go.RowKit
section
variable {P : Program} {W W' : World}
theorem law_calls {f : FuncId} {args : List XV} {vs : Array Value} (h : PSpec P f args (.x (.one (.prp True instDecidableTrue)))) (he : EntersF P f) (hargs : RepXs W (R00 W) args vs) :
    Calls P f vs W fun e W' => e = .returned (.bool true) ∧ Below W.heap.size W W' := by
  have hm : MemOK W (R00 W) (([] : List Blk).map some) := ⟨rfl, fun id b h => by simp at h, fun i j g h => by obtain ⟨b, h⟩ := h; simp at h, fun i g h => by obtain ⟨b, h⟩ := h; simp at h, fun b h => h.elim id False.elim, fun i h => absurd h (Nat.not_lt_zero i)⟩
  rcases h W (R00 W) vs hargs hm with ⟨_, h2⟩ | ⟨v, w', h1, _⟩
  · refine h2.mono ?_
    rintro e W' ⟨v, r, m', R', rfl, ⟨rfl, _⟩, hf, hr⟩
    have hv : v = .bool (@decide True instDecidableTrue) := hr
    refine ⟨by rw [hv]; rfl, hf.os, hf.tape, hf.output, hf.size, fun k hk => hf.block k hk ?_⟩
    rintro ⟨i, ⟨b, hb⟩, _⟩
    simp at hb
  · rw [he vs W] at h1; cases h1
theorem trodAll_below {H : Type} {enc : TypeId × Value → H} (hl : laidOutB P = true) (hb : Below W.heap.size W W') : ∀ {ts : List TypeId} {vs : List Value} {ds : List (DataW H)} {ps : List MemPlace}, (∀ t ∈ ts, P.readableRec t = true ∧ t < P.types.size) →
    DataW.TrodAll enc P W 0 (fun _ => true) true ts vs ds ps → (∀ x ∈ ps, x.block < W.heap.size) → DataW.TrodAll enc P W' 0 (fun b => decide (b < W.heap.size)) true ts vs ds ps
  | [], vs, ds, ps, _, h, _ => by
    cases vs <;> cases ds <;> simp [DataW.TrodAll] at h ⊢
    exact h
  | t :: ts, vs, ds, ps, ht, h, hlt => by
    obtain ⟨v, vs', d, ds', p, q, rfl, rfl, rfl, h1, h2⟩ := trodAll_cons h
    refine ⟨p, q, Below.trod hl (ht t (List.mem_cons_self ..)).1 (ht t (List.mem_cons_self ..)).2 h1 hb fun x hx => hlt x (List.mem_append_left _ hx),
      trodAll_below hl hb (fun t' ht' => ht t' (List.mem_cons_of_mem _ ht')) h2 fun x hx => hlt x (List.mem_append_right _ hx), rfl⟩
end
/-- The law's row, lifted: what remains is the function's own contract. -/
theorem lifted_true {H : Type} {enc : TypeId × Value → H} {C : Checked} {os : Os} {f : FuncId} {fn : Func} {s : ChangeSpec} (own : ownKnob C.prog.godebug = none) (started : os.Started) (hl : laidOutB C.prog = true) (noInit : C.prog.inits.idxOf? f = none)
    (hfn : C.prog.funcs[f]? = some fn) (he : EntersF C.prog f) (tb : TypeId) (hres : fn.resultTypes = #[tb]) (htb : C.prog.underlying tb = some .bool)
    (hro : fn.params.toList.all (fun t => C.prog.readableRec t && decide (t < C.prog.types.size)) = true) (hvars : s.vars = [])
    (hs : ∀ ds : List (DataW H), ds.length = fn.params.size → s.fn H ds = { results := [.lit (.bool true)], args := ds }) (qs : List (Bool × List CK)) (hq : parKs C.prog fn.params.toList = some qs)
    (law : ∀ rows, WfRows qs rows → PSpec C.prog f (xvs qs rows) (.x (.one (.prp True instDecidableTrue))))
    (witness : ∃ (w : World) (tape : Tape) (i : Input), w.os = os ∧ (w.forCall tape i).Shaped C.prog ∧ i.vars = [] ∧ Input.okWide C.prog (w.forCall tape i) .any w.heap.size f i ∧
      s.pre6 enc C.prog fn [] false (w.forCall tape i).memory i.args ∧ ({} : Assume).holds C.prog (lone (Frame.enter C.prog f i.args .normal) [] (w.forCall tape i))) :
    ReturnsInHanded {} C os f .any (s.pre6 enc C.prog fn [] false) (s.post enc C.prog fn false true false false) := by
  refine returnsInHanded_of_change own started noInit hfn witness ?_
  intro W base args ds gs before hval hW _ _
  have hW' := hW
  obtain ⟨p, q, hA, hV, rfl, hfz, hnd⟩ := hW
  rw [hvars] at hV
  obtain ⟨rfl, rfl⟩ := trodVars_none hV
  have hlt : ∀ x ∈ p, x.block < W.heap.size := fun x hx => hW'.lt x (List.mem_append_left _ hx)
  obtain ⟨rows, h1, h2, h3⟩ := args_rep hA (fun j t v ht hv => hval j t v (by simpa using ht) (by simpa using hv)) hq
  have hrep : RepXs W (R00 W) (xvs qs rows) args := ⟨by simpa using h2, fun j x hx => by simpa [Array.getD_eq_getD_getElem?, List.getD_eq_getElem?_getD] using h3 j x hx⟩
  have hdl : ds.length = fn.params.size := by simpa using (trodAll_length hA).2
  refine (law_calls (law rows h1) he hrep).mono fun e W' ⟨he, hb⟩ => ?_
  subst he
  refine ⟨_, rfl, ds, [], _, [], p, [], hW', ?_, ?_, ?_, hb.frame _, fun h => by cases h⟩
  · rw [List.append_nil, hs ds hdl, hres]
    exact trodAll_mk1 ⟨1, by simp [DataW.trod, Value.cells, htb]⟩
  · rw [List.append_nil, hs ds hdl]
    refine trodAll_below hl hb (fun t ht => ?_) hA hlt
    have := List.all_eq_true.1 hro t ht
    simpa using this
  · rw [List.append_nil, hs ds hdl, hvars]
    rfl
/-! ### Rows, parameter by parameter -/
theorem WfRows.inv {b : Bool} {ks : List CK} {qs : List (Bool × List CK)} {rows : List (List Cell)} (h : WfRows ((b, ks) :: qs) rows) : ∃ r rs, rows = r :: rs ∧ WfR ks r ∧ WfRows qs rs := by
  cases h with
  | cons h t => exact ⟨_, _, rfl, h, t⟩
theorem WfRows.nil_inv {rows : List (List Cell)} (h : WfRows [] rows) : rows = [] := by
  cases h; rfl
theorem WfR.inv {k : CK} {ks : List CK} {r : List Cell} (h : WfR (k :: ks) r) : ∃ c cs, r = c :: cs ∧ Wf k c ∧ WfR ks cs := by
  cases h with
  | cons h t => exact ⟨_, _, rfl, h, t⟩
theorem WfR.nil_inv {r : List Cell} (h : WfR [] r) : r = [] := by
  cases h; rfl
theorem Wf.int_inv {k : IntKind} {c : Cell} (h : Wf (.int k) c) : ∃ n, c = .int n ∧ inR k n := by
  cases h with
  | int h => exact ⟨_, rfl, h⟩
theorem Wf.bool_inv {c : Cell} (h : Wf .bool c) : ∃ b, c = .bool b := by
  cases h; exact ⟨_, rfl⟩
theorem Wf.str_inv {c : Cell} (h : Wf .str c) : ∃ s, c = .str s ∧ s.size ≤ maxLen := by
  cases h with
  | str h => exact ⟨_, rfl, h⟩
theorem Wf.sl_inv {ks : List CK} {c : Cell} (h : Wf (.sl ks) c) : ∃ rows, c = .sl rows ∧ Wf (.sl ks) (.sl rows) := by
  cases h with
  | sl a b d => exact ⟨_, rfl, .sl a b d⟩
theorem WfRows.int {b : Bool} {k : IntKind} {qs : List (Bool × List CK)} {rows : List (List Cell)} (h : WfRows ((b, [.int k]) :: qs) rows) : ∃ n rs, rows = [.int n] :: rs ∧ inR k n ∧ WfRows qs rs := by
  obtain ⟨r, rs, rfl, h1, h2⟩ := h.inv
  obtain ⟨c, cs, rfl, h3, h4⟩ := h1.inv
  cases h4.nil_inv
  obtain ⟨n, rfl, h5⟩ := h3.int_inv
  exact ⟨n, rs, rfl, h5, h2⟩
theorem WfRows.bool {b : Bool} {qs : List (Bool × List CK)} {rows : List (List Cell)} (h : WfRows ((b, [.bool]) :: qs) rows) : ∃ n rs, rows = [.bool n] :: rs ∧ WfRows qs rs := by
  obtain ⟨r, rs, rfl, h1, h2⟩ := h.inv
  obtain ⟨c, cs, rfl, h3, h4⟩ := h1.inv
  cases h4.nil_inv
  obtain ⟨n, rfl⟩ := h3.bool_inv
  exact ⟨n, rs, rfl, h2⟩
theorem WfRows.str {b : Bool} {qs : List (Bool × List CK)} {rows : List (List Cell)} (h : WfRows ((b, [.str]) :: qs) rows) : ∃ n rs, rows = [.str n] :: rs ∧ n.size ≤ maxLen ∧ WfRows qs rs := by
  obtain ⟨r, rs, rfl, h1, h2⟩ := h.inv
  obtain ⟨c, cs, rfl, h3, h4⟩ := h1.inv
  cases h4.nil_inv
  obtain ⟨n, rfl, h5⟩ := h3.str_inv
  exact ⟨n, rs, rfl, h5, h2⟩
theorem WfRows.sl {b : Bool} {ks : List CK} {qs : List (Bool × List CK)} {rows : List (List Cell)} (h : WfRows ((b, [.sl ks]) :: qs) rows) : ∃ a rs, rows = [.sl a] :: rs ∧ Wf (.sl ks) (.sl a) ∧ WfRows qs rs := by
  obtain ⟨r, rs, rfl, h1, h2⟩ := h.inv
  obtain ⟨c, cs, rfl, h3, h4⟩ := h1.inv
  cases h4.nil_inv
  obtain ⟨n, rfl, h5⟩ := h3.sl_inv
  exact ⟨n, rs, rfl, h5, h2⟩
/-! ### Slices of one kind -/
theorem wf_ints {k : IntKind} {rows : Arr} (h : Wf (.sl [.int k]) (.sl rows)) : ∃ xs : List Int, rows = (xs.map fun x => [.int x]) ∧ xs.length ≤ maxLen ∧ ∀ x ∈ xs, inR k x := by
  cases h with
  | sl h hr hw =>
    have : ∃ xs : List Int, rows = (xs.map fun x => [.int x]) ∧ ∀ x ∈ xs, inR k x := by
      clear h
      induction rows with
      | nil => exact ⟨[], rfl, fun x hx => by simp at hx⟩
      | cons r rows ih =>
        obtain ⟨xs, rfl, h2⟩ := ih (fun r h => hr r (List.mem_cons_of_mem _ h)) (fun r h => hw r (List.mem_cons_of_mem _ h))
        have h1 := hr r (List.mem_cons_self ..)
        match r, h1 with
        | [c], _ =>
          have h3 := hw [c] (List.mem_cons_self ..) 0 (.int k) c rfl rfl
          cases h3 with
          | int h3 => exact ⟨_ :: xs, rfl, fun x hx => by rcases List.mem_cons.1 hx with rfl | hx; (· exact h3); exact h2 x hx⟩
    obtain ⟨xs, rfl, h2⟩ := this
    exact ⟨xs, rfl, by simpa using h, h2⟩
theorem WfRows.ints {b : Bool} {k : IntKind} {qs : List (Bool × List CK)} {rows : List (List Cell)} (h : WfRows ((b, [.sl [.int k]]) :: qs) rows) :
    ∃ (xs : List Int) (rs : List (List Cell)), rows = [.sl (xs.map fun x => [.int x])] :: rs ∧ xs.length ≤ maxLen ∧ (∀ x ∈ xs, inR k x) ∧ WfRows qs rs := by
  obtain ⟨a, rs, rfl, h1, h2⟩ := h.sl
  obtain ⟨xs, rfl, h3, h4⟩ := wf_ints h1
  exact ⟨xs, rs, rfl, h3, h4, h2⟩
theorem getD_inR {k : IntKind} {xs : List Int} (h : ∀ x ∈ xs, inR k x) (h0 : inR k 0) (j : Nat) : inR k (xs.getD j 0) := by
  rw [List.getD_eq_getElem?_getD]
  cases hx : xs[j]? with
  | none => exact h0
  | some x => exact h x (List.mem_of_getElem? hx)
end Go.Sx
