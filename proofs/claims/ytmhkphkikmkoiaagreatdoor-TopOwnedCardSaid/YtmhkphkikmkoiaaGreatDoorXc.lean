import Derived.Test.YtmhkphkikmkoiaaGreatDoorXb
import Derived.Laws.Externs
import Derived.ProofKit
import Derived.Carry
import Derived.HandedShaped
import Derived.ChangeCalls
namespace Go.Sx
open Go Go.RowKit
section
variable {P : Program} {w w0 w' : World} {R R0 R' : Rp} {M0 : List (Option Blk)} {s : St} {a : Act}
theorem Conc.rebase (hC : Conc w0 R0 M0 s R a w) : Conc w R s.mem ⟨s.mem.length, s.env, s.mem⟩ R { a with defers := [] } w :=
 ⟨⟨rfl, rfl, rfl, Nat.le_refl _, fun _ _ _ => rfl, hC.fr.ok, by rw [hC.fr.ok.n]; exact Nat.le_refl _, fun _ _ => rfl, fun _ => Iff.rfl, fun _ h => .inl h, fun i g hl hg => .inr ⟨i, hl, hg⟩, fun _ _ => Fam.Le.refl _⟩, hC.len, hC.env, Marks.nil .., rfl⟩
def Rp.keep (R R' : Rp) : Rp := ⟨R'.n, R'.ν, R'.I, fun b => R'.J b ∨ R.J b, R'.F⟩
theorem Conc.combine (hC : Conc w0 R0 M0 s R a w) {s' : St} {a' : Act} (h : Conc w R s.mem s' R' a' w') : Conc w0 R0 M0 ⟨s.k, s'.env, s'.mem⟩ (R.keep R') { a' with defers := a.defers } w' := by
 have h1 := hC.after h.fr
 have hext2 : Ext w' R' w' (R.keep R') := ⟨Nat.le_refl _, fun _ _ => rfl, fun _ h => h, fun _ h => .inl h, fun _ _ => rfl, fun _ _ => Fam.Le.refl _⟩
 exact ⟨h1.fr, h.len, fun i v hv => (h.env i v hv).ext hext2, h1.defers, hC.hk⟩
theorem Unk.fr {mem mem' : List (Option Blk)} (hf : Fr w R mem w' R' mem') {g : Nat} (h : Unk w R mem g) : Unk w' (R.keep R') mem' g ∧ w'.heap[g]? = w.heap[g]? := by
 obtain ⟨h1, h2, h3, h4⟩ := h
 refine ⟨⟨Nat.lt_of_lt_of_le h1 hf.size, fun hi => h2 ((hf.i g).1 hi), ?_, ?_⟩, hf.block g h1 h4⟩
 ·rintro (hj | hj)
  ·rcases hf.j g hj with h | h | h
   ·exact h3 h
   ·omega
   ·exact h4 h
  ·exact h3 hj
 ·rintro ⟨id, hl, he⟩
  rcases hf.own id g hl he with h | h
  ·omega
  ·exact h4 h
theorem put_same {a a' : Act} {d : Option Tmp} {u v : Value} (hs : a.tmps.size = a'.tmps.size) (h : a'.put d u = a'.put d v) : a.put d u = a.put d v := by
 cases d with
 | none => rfl
 | some d =>
  simp only [Act.put, Act.mk.injEq, and_true] at h ⊢
  rcases Nat.lt_or_ge d a'.tmps.size with hd | hd
  ·have h1 : (a'.tmps.setIfInBounds d u)[d]? = (a'.tmps.setIfInBounds d v)[d]? := by rw [h]
   simp [hd] at h1
   rw [h1]
  ·rw [Array.setIfInBounds_eq_of_size_le (by omega), Array.setIfInBounds_eq_of_size_le (by omega)]
theorem wpIn_move {ro : Option Nat} {o : Oper} {a a' : Act} {X : Value → World → Prop} {Q : Exit → Act → World → Prop} (hd : ∀ c, o.op ≠ .defer c) (hs : ∀ cs b, o.op ≠ .select cs b) (hsz : a.tmps.size = a'.tmps.size)
  (he : ∀ x ∈ o.op.operands, a.eval x = a'.eval x) (h : o.wpIn (Fo ro) 0 P a' w (fun a1 w1 => ∃ u, a1 = a'.put o.dst u ∧ X u w1) (fun _ _ _ => False)) :
  o.wpIn (Fo ro) 0 P a w (fun a1 w1 => ∃ u, a1 = a.put o.dst u ∧ X u w1) Q := by
 refine ⟨fun _ _ => trivial, ?_⟩
 have h2 := h.2
 rw [Oper.semAt_eq _ _ _ hd] at h2 ⊢
 rw [execOp_congr o hs he]
 have tr : ∀ v w1, (∃ u, a'.put o.dst v = a'.put o.dst u ∧ X u w1) → ∃ u, a.put o.dst v = a.put o.dst u ∧ X u w1 := fun v w1 ⟨u, h1, h2⟩ => ⟨u, put_same hsz h1, h2⟩
 generalize (execOp a'.eval o).run P w = r at *
 cases r with
 | ok n w' =>
  cases n <;> simp only [Oper.uponIn] at h2 ⊢
  case value v => exact tr _ _ h2
  case skip => exact tr _ _ h2
  case defer d =>
   obtain ⟨u, h1, _⟩ := h2
   have h3 := congrArg Act.defers h1
   have e : ∀ (a : Act) (x : Option Tmp) (v : Value), (a.put x v).defers = a.defers := fun a x v => by cases x <;> rfl
   rw [e, e] at h3
   exact absurd h3 (by simp)
  case enter f args =>
   refine ⟨h2.1, CallsIn.mono h2.2 fun e w'' he => ?_⟩
   cases e with
   | returned v => exact tr _ _ he
   | panicked c => exact he.elim
   | outgrown => obtain ⟨_, _, _, h⟩ := he
  case row row args => exact ⟨h2.1, RowsIn.mono h2.2 fun v w'' he => tr _ _ he⟩
  case round l f tmps assign body =>
   refine ⟨h2.1, RoundIn.mono h2.2 fun e w'' he => ?_⟩
   cases e with
   | returned v => exact tr _ _ he
   | panicked c => exact he.elim
   | outgrown => obtain ⟨_, _, _, h⟩ := he
 | halt x w' => cases x <;> simp only [Oper.uponIn] at h2
def Eff (K : St → Prop) (w0 : World) (R0 : Rp) (M0 : List (Option Blk)) (s : St) (R : Rp) (a : Act) (w : World) (o : Oper) (ft : World → Prop) (u : Value) (w1 : World) : Prop :=
 ∃ s1 R1, K s1 ∧ Conc w0 R0 M0 s1 (R.keep R1) (a.put o.dst u) w1 ∧ Fr w R s.mem w1 R1 s1.mem ∧ ft w1
theorem put_defers' (a : Act) (d : Option Tmp) (u : Value) : ({ ({ a with defers := [] } : Act).put d u with defers := a.defers } : Act) = a.put d u := by cases d <;> rfl
theorem aopX_ok (ro : Option Nat) {o : Oper} {K : St → Prop} (h : aopX P o s K) (hC : Conc w0 R0 M0 s R a w) (hd : ∀ c, o.op ≠ .defer c) (hs : ∀ cs b, o.op ≠ .select cs b) {ar : Act} (hsz : ar.tmps.size = a.tmps.size)
  (he : ∀ x ∈ o.op.operands, ar.eval x = a.eval x) (Q : Exit → Act → World → Prop) :
  o.wpIn (Fo ro) 0 P ar w (fun a1 w1 => ∃ u, a1 = ar.put o.dst u ∧ Eff K w0 R0 M0 s R a w o (fun w1 => isCall o.op = false → Foot w w1 R (wrId s o.op)) u w1) Q := by
 obtain ⟨k, env, mem⟩ := s
 simp only [aopX, fN_eq, lenL_eq] at h
 have h1 := aop_ok ro h hC.rebase (fun _ _ _ => False)
 refine wpIn_move (a' := { a with defers := [] }) hd hs hsz he (Oper.wpIn_mono ?_ h1)
 rintro a1 w1 ⟨u, ⟨k', env', mem'⟩, R', rfl, hk, hC', hft⟩
 have h2 := hC.combine hC'
 rw [put_defers'] at h2
 exact ⟨u, rfl, _, R', hk, h2, hC'.fr, hft⟩
def Spared (w : World) (R : Rp) (s : St) (mm : Memo) (fl : List Nat) (w1 : World) : Prop :=
 ∃ sel : List Nat, (∀ id, id ∈ sel → live s.mem id) ∧ (sel = [] ∨ floatsS s mm sel fl = true ∨ (floatsR s mm sel fl ∧ ∀ id, id ∈ sel → ∀ e al ks a, s.blk id = some (.row e al ks a) → scalK ks = true → ∀ b, R.own id b → Agr (some (a.length * ks.length)) w w1 b)) ∧ ∀ b, b < w.heap.size → (∀ id, id ∈ sel → ¬ R.own id b) → w1.heap[b]? = w.heap[b]?
theorem softs_mem : ∀ {sel : List Nat} {m : List Blk} {id : Nat}, id ∈ softs sel m → id ∈ sel
 | [], _, _, h => by simp [softs] at h
 | _ :: _, [], _, h => by simp [softs] at h
 | x :: l, b :: m, id, h => by
  unfold softs at h
  split at h
  ·exact List.mem_cons_of_mem _ (softs_mem h)
  ·rcases List.mem_cons.1 h with rfl | h
   ·exact List.mem_cons_self ..
   ·exact List.mem_cons_of_mem _ (softs_mem h)
theorem softs_firm : ∀ {sel : List Nat} {m : List Blk} {i id : Nat} {b : Blk}, sel[i]? = some id → m[i]? = some b → id ∉ softs sel m → firmB b = true
 | [], _, i, id, b, h, _, _ => by simp at h
 | _ :: _, [], i, id, b, _, h, _ => by simp at h
 | x :: l, c :: m, 0, id, b, h1, h2, h3 => by
  simp at h1 h2
  subst h1 h2
  unfold softs at h3
  split at h3
  ·rename_i e; exact e
  ·exact (h3 (List.mem_cons_self ..)).elim
 | x :: l, c :: m, i + 1, id, b, h1, h2, h3 => by
  refine softs_firm (sel := l) (m := m) (i := i) (by simpa using h1) (by simpa using h2) fun h4 => h3 ?_
  unfold softs
  split
  ·exact h4
  ·exact List.mem_cons_of_mem _ h4
theorem softs_of_firm : ∀ {sel : List Nat} {m : List Blk}, firmM m = true → softs sel m = []
 | [], _, _ => by simp [softs]
 | _ :: _, [], _ => by simp [softs]
 | x :: l, b :: m, h => by
  simp only [firmM, Bool.and_eq_true] at h
  unfold softs
  rw [h.1]
  exact softs_of_firm h.2
def firmS : SV → Prop
 | .int _ _ => True
 | .own _ => True
 | .ptr _ _ => True
 | .tt => True
 | .ff => True
 | _ => False
theorem firmL_get : ∀ {l : List SV}, firmL l = true → ∀ {i : Nat} {x : SV}, l[i]? = some x → firmS x
 | [], _, i, x, hi => by simp at hi
 | v :: l, h, 0, x, hi => by
  simp at hi
  subst hi
  cases v <;> first | trivial | (simp [firmL] at h)
 | v :: l, h, i + 1, x, hi => by
  refine firmL_get (l := l) ?_ (i := i) (by simpa using hi)
  cases v <;> first | exact h | (simp [firmL] at h)
theorem firmS_same {w w' : World} {R R' : Rp} {x : SV} (hf : firmS x) (hν : ∀ id, id < R.n → R'.ν id = R.ν id) {u v : Value} (h1 : RepS w R x u) (h2 : RepS w' R' x v) : u = v := by
 cases x <;> first | exact hf.elim | skip
 case int k n => exact h1.trans h2.symm
 case tt => exact h1.trans h2.symm
 case ff => exact h1.trans h2.symm
 case own id => exact h1.2.trans ((hν id h1.1).symm.trans h2.2.symm)
 case ptr id off =>
  obtain ⟨hl, g, a1, a2⟩ := h1
  obtain ⟨_, g', b1, b2⟩ := h2
  rw [hν id hl, a1] at b1
  cases b1
  exact a2.trans b2.symm
theorem memAt_same {w w' : World} {t : TypeId} {ks : List CK} {row : List Cell} {y z : Nat} (h1 : MemAt w t ks row y z) (h2 : MemAt w' t ks row y z) : w'.heap[y]? = w.heap[y]? := by
 obtain ⟨v1, a1, s1, c1, l1⟩ := h1.ex
 obtain ⟨v2, a2, s2, c2, l2⟩ := h2.ex
 rw [a1, a2]
 have : v1 = v2 := by
  refine Array.ext (by rw [s1, s2]) fun j hj1 hj2 => ?_
  rw [← show v1.getD j undef = v1[j] by simp [Array.getD, hj1], ← show v2.getD j undef = v2[j] by simp [Array.getD, hj2]]
  have hl := h1.len
  rcases Nat.lt_or_ge j ks.length with hj | hj
  ·rw [c1 j _ _ (List.getElem?_eq_getElem hj) (List.getElem?_eq_getElem (by omega)), c2 j _ _ (List.getElem?_eq_getElem hj) (List.getElem?_eq_getElem (by omega))]
  ·have e : j = ks.length := by omega
   rw [e, l1, l2]
 rw [this]
theorem ents_same : ∀ {l m : List MapEntry}, l.map (fun e => (e.key, e.val)) = m.map (fun e => (e.key, e.val)) → l.map (·.born) = m.map (·.born) → l = m
 | [], [], _, _ => rfl
 | [], _ :: _, h, _ => by simp at h
 | _ :: _, [], h, _ => by simp at h
 | a :: l, b :: m, h1, h2 => by
  simp only [List.map_cons, List.cons.injEq] at h1 h2
  obtain ⟨q1, q2⟩ := h1
  obtain ⟨q3, q4⟩ := h2
  have e : a = b := by
   cases a
   cases b
   simp only [Prod.mk.injEq] at q1
   simp only at q3
   rw [q1.1, q1.2, q3]
  rw [e, ents_same q2 q4]
theorem setAt_same {w w' : World} {m : MS} {z : Nat} (h1 : SetAt w m z) (h2 : SetAt w' m z) : w'.heap[z]? = w.heap[z]? := by
 obtain ⟨e1, a1, m1, b1⟩ := h1.ex
 obtain ⟨e2, a2, m2, b2⟩ := h2.ex
 rw [a1, a2]
 have : e1 = e2 := Array.toList_inj.1 (ents_same (m1.rows.trans m2.rows.symm) (b1.trans b2.symm))
 rw [this]
theorem fam_same {w w' : World} {F G : Fam} {t : TypeId} {ks : List CK} {rows : Arr} {ms : List MS} (h1 : FamOK w F t ks rows ms) (h2 : FamOK w' G t ks rows ms) (hl : F.Le G) {g : Nat} (hg : F.has g) : w'.heap[g]? = w.heap[g]? := by
 obtain ⟨i, hi, hy⟩ := hg
 have hr : i < rows.length := by rw [← h1.n]; exact hi
 have hm : i < ms.length := by rw [h1.nm]; exact hr
 rcases hy with rfl | rfl
 ·refine memAt_same (h1.mem i _ (List.getElem?_eq_getElem hr)) ?_
  have := h2.mem i _ (List.getElem?_eq_getElem hr)
  rwa [hl.y i hi, hl.z i hi] at this
 ·refine setAt_same (h1.set i _ (List.getElem?_eq_getElem hm)) ?_
  have := h2.set i _ (List.getElem?_eq_getElem hm)
  rwa [hl.z i hi] at this
theorem firm_same {w w' : World} {R R' : Rp} {i : Nat} {b : Blk} (hf : firmB b = true) (h1 : RepB w R i b) (h2 : RepB w' R' i b) (hν : R'.ν i = R.ν i) (hνa : ∀ id, id < R.n → R'.ν id = R.ν id) (hF : (R.F i).Le (R'.F i)) {g : Nat} (hg : R.own i g) : w'.heap[g]? = w.heap[g]? := by
 have no : ∀ {v : Value}, R.ν i = v → v ≠ .map none → hblk v = some g := fun {v} hv hn => by
  rcases hg with hg | ⟨hg, _⟩
  ·rw [hv] at hg; exact hg
  ·rw [hv] at hg; exact (hn hg).elim
 cases b with
 | box t cs =>
  obtain ⟨g1, v1, a1, a2, a3⟩ := h1
  obtain ⟨g2, v2, b1, b2, b3⟩ := h2
  rw [hν, a1] at b1
  cases b1
  cases no a1 (by simp)
  rw [a2, b2]
  obtain ⟨s1, q1⟩ := a3
  obtain ⟨s2, q2⟩ := b3
  have : v1 = v2 := by
   refine Array.ext (by rw [s1, s2]) fun j hj1 hj2 => ?_
   have hj : j < cs.length := by rw [← s1]; exact hj1
   have c1 := q1 j _ (List.getElem?_eq_getElem hj)
   have c2 := q2 j _ (List.getElem?_eq_getElem hj)
   have e := firmS_same (firmL_get hf (List.getElem?_eq_getElem hj)) hνa c1 c2
   rw [← show v1.getD j undef = v1[j] by simp [Array.getD, hj1], ← show v2.getD j undef = v2[j] by simp [Array.getD, hj2], e]
  rw [this]
 | gbox g' ks row =>
  cases no h1.1 (by simp)
 | fam t ks rows ms =>
  rcases hg with hg | ⟨_, hg⟩
  ·rw [h1.1] at hg; cases hg
  ·exact fam_same h1.2 h2.2 hF hg
 | _ => cases hf
theorem scal_same {w w' : World} {S S' : Nat → Prop} {k : CK} {c : Cell} {u v : Value} (hk : scalK [k] = true) (h1 : RepC w S k c u) (h2 : RepC w' S' k c v) : u = v := by
 cases h1 <;> first | (cases h2; rfl) | (simp [scalK] at hk)
theorem scalK_get : ∀ {ks : List CK}, scalK ks = true → ∀ {f : Nat} {k : CK}, ks[f]? = some k → scalK [k] = true
 | [], _, f, k, h => by simp at h
 | x :: ks, hs, 0, k, h => by
  simp at h
  subst h
  cases x <;> first | rfl | (simp [scalK] at hs)
 | x :: ks, hs, f + 1, k, h => by
  refine scalK_get (ks := ks) ?_ (f := f) (by simpa using h)
  cases x <;> first | exact hs | (simp [scalK] at hs)
theorem row_same {w w' : World} {R R' : Rp} {i : Nat} {e : TypeId} {al : Bool} {ks : List CK} {a : Arr} (hs : scalK ks = true) (h1 : RepB w R i (.row e al ks a)) (h2 : RepB w' R' i (.row e al ks a)) (hν : R'.ν i = R.ν i) {g : Nat} (hg : R.own i g) : Agr (some (a.length * ks.length)) w w' g := by
 obtain ⟨xs, o1, l1, c1⟩ := h1
 obtain ⟨ys, o2, _, c2⟩ := h2
 rw [hν] at o2
 have ho : hblk (R.ν i) = some g := by
  rcases hg with hg | ⟨hg, _⟩
  ·exact hg
  ·rcases o1.2 with ⟨hv, _⟩ | ⟨g', cap, cur, hv, _⟩ <;> rw [hv] at hg <;> cases hg
 refine .inr ⟨_, rfl, fun j hj => ?_⟩
 have hk : 0 < ks.length := Nat.pos_of_ne_zero fun e => by rw [e] at hj; simp at hj
 have hi : j / ks.length < a.length := Nat.div_lt_of_lt_mul (by rw [Nat.mul_comm]; exact hj)
 have hf : j % ks.length < ks.length := Nat.mod_lt _ hk
 have hr := l1 _ (List.getElem_mem hi)
 have hjd : j / ks.length * ks.length + j % ks.length = j := by rw [Nat.mul_comm]; exact Nat.div_add_mod _ _
 obtain ⟨u, u1, u2⟩ := c1 _ _ _ _ _ (List.getElem?_eq_getElem hi) (List.getElem?_eq_getElem (by rw [hr]; exact hf)) (List.getElem?_eq_getElem hf)
 obtain ⟨v, v1, v2⟩ := c2 _ _ _ _ _ (List.getElem?_eq_getElem hi) (List.getElem?_eq_getElem (by rw [hr]; exact hf)) (List.getElem?_eq_getElem hf)
 have huv := scal_same (scalK_get hs (List.getElem?_eq_getElem hf)) u2 v2
 subst huv
 rw [hjd] at u1 v1
 have cell : ∀ {w : World} {xs : List Value}, w.ownsRow 0 e ks.length (R.ν i) a.length xs → xs[j]? = some u → w.cell? ⟨g, j, none⟩ = some u := fun {w xs} o h => by
  rcases o.2 with ⟨hv, _⟩ | ⟨g', cap, cur, hv, _, hh, _, _, _, ht⟩
  ·rw [hv] at ho; cases ho
  ·rw [hv] at ho
   cases ho
   unfold World.cell?
   rw [hh]
   rw [← ht, List.getElem?_take, if_pos hj, Array.getElem?_toList] at h
   simpa using h
 exact ⟨u, cell o1 u1, cell o2 v1⟩
theorem callS_ok {f : FuncId} {args : List AV} {K : AV → St → Prop} {sel : List Nat} {Rs : AV → List (Option Blk) → Prop} {args' : List XV} {m : List Blk} (ha : argsX s sel args = some args') (hm : selB s sel sel = some m) (hd : distinctB sel = true)
  (hspec : HSpec P f args' m Rs) (k : ∀ r m', Rs r m' → afterCall s (lendsA sel args || lendsB s sel sel) sel r m' K) {mm : Memo} {fl : List Nat} (hfl : (sel = [] ∨ floatsS s mm sel fl = true) ∨ ((firmM m || floatsS s mm (softs sel m) fl) = true ∧ ∀ r m', Rs r m' → m' = m.map some) ∨ (floatsR s mm (softs sel m) fl ∧ ∀ r m', Rs r m' → m' = m.map some))
  (hC : Conc w0 R0 M0 s R a w) {vs : Array Value} (hs : vs.size = args.length) (hvs : ∀ (j : Nat) (x : AV), args[j]? = some x → RepA w R x (vs.getD j undef)) :
  Invokes P f vs w fun e w' => ∃ v av s' R', e = .returned v ∧ K av s' ∧ RepA w' R' av v ∧ Conc w0 R0 M0 s' R' a w' ∧ Spared w R s mm fl w' := by
 obtain ⟨hml, hmb⟩ := selB_ok _ _ hm
 have hlive : ∀ id, id ∈ sel → live s.mem id := fun id hid => by
  obtain ⟨j, hj⟩ := List.getElem?_of_mem hid
  obtain ⟨b, h1, _⟩ := hmb j id hj
  exact blk_live h1
 obtain ⟨hal, hag⟩ := argsX_ok _ _ ha
 generalize hlent : (lendsA sel args || lendsB s sel sel) = lent at k
 have hl1 : lendsA sel args = true → lent = true := fun h => by rw [← hlent, h]; rfl
 have hl2 : lendsB s sel sel = true → lent = true := fun h => by rw [← hlent, h]; simp
 have hI := hspec w (Rc w R sel lent) vs ⟨by rw [hs, hal], fun j x' hx' => by
  obtain ⟨x, hx, rfl⟩ := hag j x' hx'
  exact argX_rep hC hlive (fun h => hl1 (lendsA_mem hx h)) (hvs j _ hx)⟩ (callee_ok hC hm hd hl2)
 have fin : ∀ (e : Ending) (w' : World), (∃ v r m' R', e = .returned v ∧ Rs r m' ∧ Fr w (Rc w R sel lent) (m.map some) w' R' m' ∧ RepA w' R' r v) → ∃ v av s' R', e = .returned v ∧ K av s' ∧ RepA w' R' av v ∧ Conc w0 R0 M0 s' R' a w' ∧ Spared w R s mm fl w' := by
  rintro e w' ⟨v, r, m', R', he, hr, hf, hrep⟩
  have hk := k r m' hr
  obtain ⟨k0, env, mem⟩ := s
  simp only [afterCall, fA_eq, lenL_eq] at hk
  have hk2 := (memSel_eq _ _ _ _ hk).2
  have hn : R.n = mem.length := hC.fr.ok.n
  rw [← hn] at hk2
  have hout : ∀ b, b < w.heap.size → (∀ id, id ∈ sel → ¬ R.own id b) → w'.heap[b]? = w.heap[b]? := fun b hb hn => hf.block b hb (by
   rintro ⟨i, ⟨x, hx⟩, hg⟩
   have hi : i < sel.length := by
    have := (List.getElem?_eq_some_iff.1 hx).1
    simpa [hml] using this
   rw [Rc_own (List.getElem?_eq_getElem hi)] at hg
   exact hn _ (List.getElem_mem hi) hg)
  refine ⟨v, _, _, _, he, hk2, backA_rep hC hlive hd hml hf hrep, behind_ok hC hlive hd hml hf, ?_⟩
  have hlast : (∀ r m', Rs r m' → m' = m.map some) → ∀ b, b < w.heap.size → (∀ id, id ∈ softs sel m → ¬ R.own id b) → w'.heap[b]? = w.heap[b]? := fun hsm b hb hns => by
   by_cases hn : ∀ id, id ∈ sel → ¬ R.own id b
   ·exact hout b hb hn
   ·obtain ⟨id, hid, hg⟩ : ∃ id, id ∈ sel ∧ R.own id b := Classical.byContradiction fun hc => hn fun id h1 h2 => hc ⟨id, h1, h2⟩
    obtain ⟨i, hi⟩ := List.getElem?_of_mem hid
    obtain ⟨bk0, _, hmi0, _⟩ := hmb i id hi
    obtain ⟨bk, hmi⟩ : ∃ bk, m[i]? = some bk := ⟨_, hmi0⟩
    have e1 := hsm r m' hr
    have hmi' : (m.map some)[i]? = some (some bk) := by rw [List.getElem?_map, hmi]; rfl
    have r1 := (callee_ok hC hm hd hl2).rep i bk hmi'
    have r2 := hf.ok.rep i bk (by rw [e1]; exact hmi')
    have hil : i < (m.map some).length := (List.getElem?_eq_some_iff.1 hmi').1
    exact firm_same (softs_firm hi hmi fun h => hns id h hg) r1 r2 (hf.ν i hil) (fun id hid => hf.ν id (by have hid' : id < sel.length := hid; simpa [hml] using hid')) (hf.f i hil) ((Rc_own hi).2 hg)
  rcases hfl with hfl | ⟨hfm, hsm⟩ | ⟨hfr, hsm⟩
  ·exact ⟨sel, hlive, hfl.imp id .inl, hout⟩
  ·refine ⟨softs sel m, fun id hid => hlive id (softs_mem hid), ?_, hlast hsm⟩
   rcases Bool.or_eq_true_iff.1 hfm with h | h
   ·exact .inl (softs_of_firm h)
   ·exact .inr (.inl h)
  ·refine ⟨softs sel m, fun id hid => hlive id (softs_mem hid), .inr (.inr ⟨hfr, fun id hid e al ks a hb hs b hg => ?_⟩), hlast hsm⟩
   obtain ⟨i, hi⟩ := List.getElem?_of_mem (softs_mem hid)
   obtain ⟨bk0, hb0, hmi, _⟩ := hmb i id hi
   rw [hb] at hb0
   cases hb0
   have e1 := hsm r m' hr
   have hmi1 : m[i]? = some (.row e (!flatK ks) ks a) := hmi
   have hmi' : (m.map some)[i]? = some (some (.row e (!flatK ks) ks a)) := by rw [List.getElem?_map, hmi1]; rfl
   have r1 := (callee_ok hC hm hd hl2).rep i _ hmi'
   have r2 := hf.ok.rep i _ (by rw [e1]; exact hmi')
   have hil : i < (m.map some).length := (List.getElem?_eq_some_iff.1 hmi').1
   exact row_same hs r1 r2 (hf.ν i hil) ((Rc_own hi).2 hg)
 rcases hI with ⟨h1, h2⟩ | ⟨v, w', h1, h2⟩
 ·exact .inl ⟨h1, h2.mono fin⟩
 ·exact .inr ⟨v, w', h1, fin _ _ h2⟩
theorem call0_ok {f : FuncId} {args : List AV} {K : AV → St → Prop} {mm : Memo} {fl : List Nat} (h : CallVC0 P f args mm fl s K) (hC : Conc w0 R0 M0 s R a w) {vs : Array Value} (hs : vs.size = args.length) (hvs : ∀ (j : Nat) (x : AV), args[j]? = some x → RepA w R x (vs.getD j undef)) :
  Invokes P f vs w fun e w' => ∃ v av s' R', e = .returned v ∧ K av s' ∧ RepA w' R' av v ∧ Conc w0 R0 M0 s' R' a w' ∧ Spared w R s mm fl w' := by
 cases h with
 | mk Rs args' ha hspec k => exact callS_ok (sel := []) (m := []) ha rfl rfl hspec k (.inl (.inl rfl)) hC hs hvs
 | on sel Rs args' m ha hm hd hfl hspec k => exact callS_ok ha hm hd hspec k (.inl (.inr hfl)) hC hs hvs
 | same sel Rs args' m ha hm hd hfm hspec hsm k => exact callS_ok ha hm hd hspec k (.inr (.inl ⟨hfm, hsm⟩)) hC hs hvs
 | rows sel Rs args' m ha hm hd hfr hspec hsm k => exact callS_ok ha hm hd hspec k (.inr (.inr ⟨hfr, hsm⟩)) hC hs hvs
theorem callX_ok (ro : Option Nat) {c : Call} {x : Operand} {f : FuncId} {pre caps : List AV} {dst : Option Tmp} {ty : TypeId} {pos : String} {af : Array Edge} {gd : Option (Nat × Bool)} {mm : Memo} {fl : List Nat} {K : St → Prop}
  (hx : calleeOf (opnd s x) = some (f, pre, caps)) (hcal : c.callee = .value x) (h : callX P f (joinA pre (mapOp s c.args.toList ++ caps)) mm fl ⟨dst, .call c, ty, pos, af, gd⟩ s K) (hC : Conc w0 R0 M0 s R a w)
  {ar : Act} (hsz : ar.tmps.size = a.tmps.size) (he : ∀ x ∈ (Op.call c).operands, ar.eval x = a.eval x) (Q : Exit → Act → World → Prop) :
  Oper.wpIn (Fo ro) 0 P ⟨dst, .call c, ty, pos, af, gd⟩ ar w (fun a1 w1 => ∃ u, a1 = ar.put dst u ∧ Eff K w0 R0 M0 s R a w ⟨dst, .call c, ty, pos, af, gd⟩ (fun w1 => Spared w R s mm fl w1) u w1) Q := by
 obtain ⟨callee, args, ats⟩ := c
 simp only at hcal
 subst hcal
 obtain ⟨k, env, mem⟩ := s
 simp only [callX, fN_eq, lenL_eq] at h
 have hCr := hC.rebase
 have hm : ∀ l, mapOp ⟨mem.length, env, mem⟩ l = mapOp ⟨k, env, mem⟩ l := fun l => by
  induction l with
  | nil => rfl
  | cons y l ih => simp only [mapOp, ih]; cases y <;> rfl
 have hcal : calleeOf (opnd ⟨mem.length, env, mem⟩ x) = some (f, pre, caps) := by
  have e : opnd (⟨mem.length, env, mem⟩ : St) x = opnd ⟨k, env, mem⟩ x := by cases x <;> rfl
  rw [e, hx]
 obtain ⟨vs, h1, h2, h3⟩ := run_callee (P := P) hCr hcal (args := args) (ats := ats) (ty := ty) (d := dst) (pos := pos) (af := af) (gd := gd)
 rw [hm] at h1 h2
 have hcall := call0_ok h hCr h1 h2
 refine wpIn_move (a' := { a with defers := [] }) (by intro c hc; cases hc) (by intro cs b hc; cases hc) hsz he (wpIn_of_wp (by intro c hc; cases hc) ?_)
 have fin : ∀ (v : Value) (w1 : World), (∃ v' av s' R', Ending.returned v = .returned v' ∧ (match s' with
   | ⟨_, env', mem'⟩ => (⟨k, env', mem'⟩ : St).put dst av K) ∧ RepA w1 R' av v' ∧ Conc w R mem s' R' { a with defers := [] } w1 ∧ Spared w R ⟨mem.length, env, mem⟩ mm fl w1) →
   ∃ u, ({ a with defers := [] } : Act).put dst v = ({ a with defers := [] } : Act).put dst u ∧ Eff K w0 R0 M0 ⟨k, env, mem⟩ R a w ⟨dst, .call ⟨.value x, args, ats⟩, ty, pos, af, gd⟩ (fun w1 => Spared w R ⟨k, env, mem⟩ mm fl w1) u w1 := by
  rintro v w1 ⟨v', av, ⟨k', env', mem'⟩, R', he, hk, hr, hC', hg⟩
  cases he
  have h2 := hC.combine hC'
  have h2' : Conc w0 R0 M0 ⟨k, env', mem'⟩ (R.keep R') a w1 := h2
  have hext2 : Ext w1 R' w1 (R.keep R') := ⟨Nat.le_refl _, fun _ _ => rfl, fun _ h => h, fun _ h => .inl h, fun _ _ => rfl, fun _ _ => Fam.Le.refl _⟩
  obtain ⟨s2, ⟨k1, hmem⟩, k2⟩ := h2'.put (hr.ext hext2) (put_mem hk)
  have hmem : s2.mem = mem' := hmem
  have hfs : ∀ (sel l : List Nat), floatsS ⟨mem.length, env, mem⟩ mm sel l = floatsS ⟨k, env, mem⟩ mm sel l := fun sel l => by
   induction l with
   | nil => rfl
   | cons i l ih => simp only [floatsS, ih]; rfl
  obtain ⟨sel, g1, g2, g3⟩ := hg
  have hfr : ∀ (sel l : List Nat), floatsR ⟨mem.length, env, mem⟩ mm sel l = floatsR ⟨k, env, mem⟩ mm sel l := fun sel l => by
   induction l with
   | nil => rfl
   | cons i l ih => simp only [floatsR, ih]; rfl
  exact ⟨v, rfl, s2, R', k1, k2, by rw [hmem]; exact hC'.fr, sel, g1, g2.imp id (fun h => h.imp (fun h => by rw [← hfs]; exact h) fun h => ⟨by rw [← hfr]; exact h.1, h.2⟩), g3⟩
 unfold Oper.wp
 rw [h3 w]
 rcases hcall with ⟨hr, hc⟩ | ⟨v, w1, hr, hf⟩
 ·rw [hr, Oper.upon_enter]
  refine hc.mono ?_
  rintro e w'' ⟨v, av, s', R', rfl, hk, hrep, hC', hg⟩
  exact fin v w'' ⟨v, av, s', R', rfl, hk, hrep, hC', hg⟩
 ·rw [hr, Oper.upon_value]
  exact fin v w1 (by obtain ⟨v', av, s', R', he, h⟩ := hf; exact ⟨v', av, s', R', he, h⟩)
end
end Go.Sx


namespace Go.Sx
open Go Go.RowKit
section
variable {P : Program} {w w0 w' : World} {R R0 R' : Rp} {M0 : List (Option Blk)} {s : St} {a : Act}
theorem grown_refl (w : World) : w.grownBy w none := ⟨rfl, rfl, rfl, Nat.le_refl _, fun _ _ _ => rfl⟩
theorem Fam.Le.has {F G : Fam} (h : F.Le G) {g : Nat} (hg : F.has g) : G.has g := by
 obtain ⟨i, hi, hg⟩ := hg
 exact ⟨i, Nat.lt_of_lt_of_le hi h.c, by rw [h.y i hi, h.z i hi]; exact hg⟩
theorem own_mono {R R' : Rp} {id : Nat} (hν : R'.ν id = R.ν id) (hF : (R.F id).Le (R'.F id)) {b : Nat} (h : R.own id b) : R'.own id b := by
 unfold Rp.own at h ⊢
 rw [hν]
 exact h.imp _root_.id fun ⟨h1, h2⟩ => ⟨h1, hF.has h2⟩
structure Took (w : World) (R : Rp) (mem : List (Option Blk)) (g : Nat) (R' : Rp) (mem' : List (Option Blk)) : Prop where
 unk : ∀ g', Unk w R mem g' → g' ≠ g → Unk w R' mem' g'
 n : R.n ≤ R'.n
 ν : ∀ id, id < R.n → ∀ b, R.own id b → R'.own id b
 ij : ∀ b, R.I b ∨ R.J b → R'.I b ∨ R'.J b
theorem Took.add {w : World} {R R1 : Rp} {mem mem1 : List (Option Blk)} {g : Nat} {v : Value} {b : Blk} (hn : R1.n = mem1.length) (hv : hblk v = some g) (h1 : R1.n = R.n) (h2 : R1.ν = R.ν ∧ R1.F = R.F) (h3 : ∀ b, R1.I b ↔ R.I b) (h4 : ∀ b, R1.J b → R.J b ∨ blkOf R mem b) (h5 : ∀ i, live mem1 i → live mem i)
  (h6 : ∀ b, R.J b → R1.J b) : Took w R mem g (R1.add v) (mem1 ++ [some b]) := by
 refine ⟨fun g' hu hne => ⟨hu.1, fun hi => hu.2.1 ((h3 g').1 hi), fun hj => ?_, ?_⟩, by simp [Rp.add, h1], fun id hid b ho => (Rp.add_own (by omega)).2 (by unfold Rp.own at ho ⊢; rwa [h2.1, h2.2]), fun b hb => hb.imp (h3 b).2 (h6 b)⟩
 ·exact (h4 g' hj).elim hu.2.2.1 hu.2.2.2
 ·rintro ⟨id, hl, he⟩
  rcases live_app hl with hl | hl
  ·have hlt : id < R1.n := by rw [hn]; exact live_lt hl
   replace he := (Rp.add_own hlt).1 he
   unfold Rp.own at he
   rw [h2.1, h2.2] at he
   exact hu.2.2.2 ⟨id, h5 id hl, he⟩
  ·subst hl
   rw [← hn] at he
   replace he := Rp.add_ownnew he
   rw [hv] at he
   cases he
   exact hne rfl
theorem adopt_ok {o : Oper} (hn : isNew o = true) {K : St → Prop} (h : aop P o s K) (hC : Conc w0 R0 M0 s R a w) {wr wr1 : World} {u : Value} (hrun : (execOp a.eval o).run P wr = .ok (.value u) wr1)
  (hg : w.heap[wr.heap.size]? = wr1.heap[wr.heap.size]?) (hu : Unk w R s.mem wr.heap.size) (hb : w0.heap.size ≤ wr.heap.size) :
  ∃ s' R', K s' ∧ Conc w0 R0 M0 s' R' (a.put o.dst u) w ∧ Took w R s.mem wr.heap.size R' s'.mem := by
 obtain ⟨dst, op, ty, pos, after, guard⟩ := o
 unfold isNew at hn
 split at hn
 ·cases hn
 ·rename_i hgd
  simp only at hgd
  subst hgd
  split at hn
  ·
   rename_i t hop
   simp only at hop
   subst hop
   have h : (match zeroOf P t with
    | some z => newBox s t z fun v s' => s'.put dst v K
    | none => False) := h
   split at h
   ·rename_i z hz
    obtain ⟨v, hv, hr⟩ := zeroOf_ok hz
    unfold newBox at h
    split at h
    ·rename_i hk
     have e : (execOp a.eval ⟨dst, .alloc t, ty, pos, after, none⟩).run P wr = .ok (.value (.pointer (some ⟨wr.heap.size, 0, none⟩))) (wr.alloc (.cells v.cells t)) := by
      simp [execOp, Instr.alloc, hv, newVar_run]
     rw [hrun] at e
     cases e
     rw [heap_alloc_new] at hg
     have hl := x_cells (hr w R) hC.fr.ok.cell hk
     obtain ⟨k0, env, mem⟩ := s
     simp only [St.addBlk, fB_eq, fN_eq, snocL_eq, lenL_eq] at h
     have hnn : R.n = mem.length := hC.fr.ok.n
     rw [← hnn] at h
     have hC' := hC.grow (grown_refl w) mem none rfl (fun g e => by cases e) (v := .pointer (some ⟨wr.heap.size, 0, none⟩)) (b := .box t (xvCells z)) (fun g e => by cases e; exact .inr (.inr ⟨hu, hb⟩))
      ⟨wr.heap.size, v.cells, Rp.add_new _ _, hg, hl.ext ⟨Nat.le_succ _, fun id hid => Rp.add_old hid, fun _ h => h, fun _ h => h, fun _ _ => rfl, fun id hid => by rw [Rp.add_F hid]; exact Fam.Le.refl _⟩⟩
     obtain ⟨s', ⟨k1, hm⟩, k2⟩ := hC'.put (v := .x (.one (.ptr R.n 0))) (u := .pointer (some ⟨wr.heap.size, 0, none⟩)) ⟨Nat.lt_succ_self _, wr.heap.size, Rp.add_new _ _, rfl⟩ (put_mem h)
     refine ⟨s', _, k1, k2, ?_⟩
     rw [hm]
     exact Took.add hnn rfl rfl ⟨rfl, rfl⟩ (fun _ => Iff.rfl) (fun _ h => .inl h) (fun _ h => h) (fun _ h => h)
    ·cases h
   ·cases h
  ·
   rename_i t len parts hop
   simp only at hop
   subst hop
   have h : (match elemOf P t with
    | some e => match elemK P e, partsX s parts.toList with
     | some (ks, _), some ps => if (Nat.beq len (lenL ps) && Nat.ble (len * lenL ks) 16777216) = true then match rowsOf s ks 0 ps with
       | some a => dropOwn s (allCells ps) fun s' => s'.addBlk (.row e (alSs s (allCells ps)) ks a) fun id s'' => s''.put dst (.x (.one (.own id))) K
       | none => False
      else False
     | none, some ps => ptrsF P s e len ps fun v s' => s'.put dst v K
     | _, _ => False
    | none => False) := h
   split at h
   ·rename_i e he
    split at h
    ·rename_i ks by_ ps hk hp
     split at h
     ·rename_i hq
      split at h
      ·rename_i ar hr
       obtain ⟨cs, hrun', hrep⟩ := buildSlice_gen (ty := ty) (d := dst) (pos := pos) (af := after) (gd := none) he hk hp hq hr hC
       rw [hrun' wr] at hrun
       cases hrun
       rw [heap_alloc_new] at hg
       obtain ⟨s1, R1, hK, hC1, hx1, hn1, hν1, hd1, hb1, he1, hm1, hk1, hj1, hl1⟩ := dropOwn_ok _ s R _ h hC
       have hI : ∀ b, R1.I b ↔ R.I b := fun b => (hC1.fr.i b).trans (hC.fr.i b).symm
       have hu1 : Unk w R1 s1.mem wr.heap.size := ⟨hu.1, fun hi => hu.2.1 ((hI _).1 hi), fun hj => (hj1 _ hj).elim hu.2.2.1 hu.2.2.2, fun ⟨id, hl, he⟩ => hu.2.2.2 ⟨id, hl1 id hl, by unfold Rp.own at he ⊢; rwa [hν1.1, hν1.2] at he⟩⟩
       have hext : Ext w R1 w (R1.add (.slice (some ⟨wr.heap.size, 0, none⟩) len len)) := ⟨Nat.le_succ _, fun id hid => Rp.add_old hid, fun _ h => h, fun _ h => h, fun _ _ => rfl, fun id hid => by rw [Rp.add_F hid]; exact Fam.Le.refl _⟩
       have hrow := hrep R1 _ w wr.heap.size hx1 hext hd1 (Rp.add_new _ _) hg
       obtain ⟨k0, env, mem⟩ := s1
       simp only [St.addBlk, fB_eq, fN_eq, snocL_eq, lenL_eq] at hK
       have hnn : R1.n = mem.length := hC1.fr.ok.n
       rw [← hnn] at hK
       have hC' := hC1.grow (grown_refl w) mem none rfl (fun g e => by cases e) (v := .slice (some ⟨wr.heap.size, 0, none⟩) len len) (fun g e => by cases e; exact .inr (.inr ⟨hu1, hb⟩)) hrow
       obtain ⟨s', ⟨k1, hm⟩, k2⟩ := hC'.put (v := .x (.one (.own R1.n))) (u := .slice (some ⟨wr.heap.size, 0, none⟩) len len) ⟨Nat.lt_succ_self _, (Rp.add_new _ _).symm⟩ (put_mem hK)
       refine ⟨s', _, k1, k2, ?_⟩
       rw [hm]
       exact Took.add hnn rfl hn1 hν1 hI hj1 hl1 (fun b hb => hx1.j b hb)
      ·cases h
     ·cases h
    ·rename_i ps _ hp
     obtain ⟨vs, z, p, hrp, hrun', h⟩ := ptrsF_ok (ty := ty) (d := dst) (pos := pos) (af := after) (gd := none) he hp h hC
     rw [hrun' wr] at hrun
     cases hrun
     rw [heap_alloc_new] at hg
     obtain ⟨k0, env, mem⟩ := s
     simp only [St.addBlk, fB_eq, fN_eq, snocL_eq, lenL_eq] at h
     have hnn : R.n = mem.length := hC.fr.ok.n
     rw [← hnn] at h
     have hext : Ext w R w (R.add (.slice (some ⟨wr.heap.size, 0, none⟩) (z + 1) (z + 1))) := ⟨Nat.le_succ _, fun id hid => Rp.add_old hid, fun _ h => h, fun _ h => h, fun _ _ => rfl, fun id hid => by rw [Rp.add_F hid]; exact Fam.Le.refl _⟩
     have hC' := hC.grow (grown_refl w) mem none rfl (fun g e => by cases e) (v := .slice (some ⟨wr.heap.size, 0, none⟩) (z + 1) (z + 1)) (b := .ptrs e z p) (fun g e => by cases e; exact .inr (.inr ⟨hu, hb⟩)) ⟨wr.heap.size, vs, Rp.add_new _ _, hg, hrp.ext hext⟩
     obtain ⟨s', ⟨k1, hm⟩, k2⟩ := hC'.put (v := .x (.one (.own R.n))) (u := .slice (some ⟨wr.heap.size, 0, none⟩) (z + 1) (z + 1)) ⟨Nat.lt_succ_self _, (Rp.add_new _ _).symm⟩ (put_mem h)
     refine ⟨s', _, k1, k2, ?_⟩
     rw [hm]
     exact Took.add hnn rfl rfl ⟨rfl, rfl⟩ (fun _ => Iff.rfl) (fun _ h => .inl h) (fun _ h => h) (fun _ h => h)
    ·cases h
   ·cases h
  ·
   rename_i t len cap hop
   simp only at hop
   subst hop
   have h : (match elemOf P t, opnd s len, opnd s cap with
    | some e, .x (.one (.int _ n)), .x (.one (.int _ c)) => match elemK P e with
     | some (ks, bytes) => ifB (noPt ks) (Ob (0 ≤ n ∧ n ≤ c ∧ c * (bytes : Int) ≤ 140737488355328) (s.addBlk (.row e false ks (List.replicate n.toNat (zeroRow ks))) fun id s' => s'.put dst (.x (.one (.own id))) K))
     | none => False
    | _, _, _ => False) := h
   split at h
   ·rename_i e kl n kc c he hln hlc
    split at h
    ·rename_i ks by_ hk
     obtain ⟨hnp, h⟩ := h.elim
     obtain ⟨hq, hK⟩ := h
     obtain ⟨cs, hrun', hrep⟩ := makeSlice_gen (ty := ty) (d := dst) (pos := pos) (af := after) (gd := none) he hk hln hlc hq hC
     rw [hrun' wr] at hrun
     cases hrun
     rw [heap_alloc_new] at hg
     have hrow := hrep hnp R (R.add (.slice (some ⟨wr.heap.size, 0, none⟩) n.toNat c.toNat)) w wr.heap.size (Rp.add_new _ _) hg
     obtain ⟨k0, env, mem⟩ := s
     simp only [St.addBlk, fB_eq, fN_eq, snocL_eq, lenL_eq] at hK
     have hnn : R.n = mem.length := hC.fr.ok.n
     rw [← hnn] at hK
     have hC' := hC.grow (grown_refl w) mem none rfl (fun g e => by cases e) (v := .slice (some ⟨wr.heap.size, 0, none⟩) n.toNat c.toNat) (fun g e => by cases e; exact .inr (.inr ⟨hu, hb⟩)) hrow
     obtain ⟨s', ⟨k1, hm⟩, k2⟩ := hC'.put (v := .x (.one (.own R.n))) (u := .slice (some ⟨wr.heap.size, 0, none⟩) n.toNat c.toNat) ⟨Nat.lt_succ_self _, (Rp.add_new _ _).symm⟩ (put_mem hK)
     refine ⟨s', _, k1, k2, ?_⟩
     rw [hm]
     exact Took.add hnn rfl rfl ⟨rfl, rfl⟩ (fun _ => Iff.rfl) (fun _ h => .inl h) (fun _ h => h) (fun _ h => h)
    ·cases h
   ·cases h
  ·cases hn
theorem new_run {o : Oper} (h : newB P s o = true) (hcc : newC P s o) (hC : Conc w0 R0 M0 s R a w) (wr : World) : ∃ u obj, (execOp a.eval o).run P wr = .ok (.value u) (wr.alloc obj) := by
 obtain ⟨dst, op, ty, pos, after, guard⟩ := o
 unfold newB at h
 split at h
 ·rename_i t hop
  simp only at hop
  subst hop
  split at h
  ·rename_i z hz
   obtain ⟨v, hv, hr⟩ := zeroOf_ok hz
   exact ⟨.pointer (some ⟨wr.heap.size, 0, none⟩), .cells v.cells t, by simp [execOp, Instr.alloc, hv, newVar_run]⟩
  ·cases h
 ·rename_i t len parts hop
  simp only at hop
  subst hop
  split at h
  ·rename_i e he
   split at h
   ·rename_i ks by_ ps hk hp
    simp only [Bool.and_eq_true] at h
    obtain ⟨hq, h⟩ := h
    split at h
    ·rename_i ar hr
     obtain ⟨cs, hrun', hrep⟩ := buildSlice_gen (ty := ty) (d := dst) (pos := pos) (af := after) (gd := guard) he hk hp (by simpa using hq) hr hC
     exact ⟨_, _, hrun' wr⟩
    ·cases h
   ·cases h
  ·cases h
 ·rename_i t len cap hop
  simp only at hop
  subst hop
  split at h
  ·rename_i e kl n kc c he hn hc
   split at h
   ·rename_i x hk
    obtain ⟨ks, by_⟩ := x
    unfold newC at hcc
    simp only [he, hn, hc, hk] at hcc
    obtain ⟨cs, hrun', hrep⟩ := makeSlice_gen (ty := ty) (d := dst) (pos := pos) (af := after) (gd := guard) he hk hn hc hcc hC
    exact ⟨_, _, hrun' wr⟩
   ·cases h
  ·cases h
 ·cases h
end
end Go.Sx


namespace Go.Sx
open Go Go.RowKit
def maskE (acc : List Nat) (es : List Edge) : Nat := es.foldr (fun e m => if Region.binds .any e = true then (2 ^ e.on ||| acc.getD e.on 0) ||| m else m) 0
def closL : List Nat → List Oper → List Nat
 | acc, [] => acc
 | acc, o :: l => closL (acc ++ [maskE acc o.after.toList]) l
def ordd (cl : List Nat) (x y : Nat) : Bool := (cl.getD y 0).testBit x
def lowB : Nat → List Oper → Bool
 | _, [] => true
 | i, o :: l => o.after.toList.all (fun e => !Region.binds .any e || decide (e.on < i)) && lowB (i + 1) l
def dstNe (x y : Option Tmp) : Bool := match x with
 | some d => y != some d
 | none => true
def notLooks (ops : Array Oper) (d : Option Tmp) (o : Oper) : Bool := match d with
 | some d => !(o.looksAt ops).contains d
 | none => true
def notSel : Op → Bool
 | .select .. => false
 | .defer _ => false
 | _ => true
def prB (ops : Array Oper) (cl : List Nat) (x y : Ent) : Bool :=
 match ops[x.i]?, ops[y.i]? with
 | some ox, some oy => decide (x.i ≠ y.i) && !(ordd cl y.i x.i) && (ordd cl x.i y.i || (ox.apart ops oy && (isNew oy || (quiet ox.op && (quiet oy.op || y.fl.contains x.i))))) &&
  (!(isNew ox || isNew oy) || dstNe ox.dst oy.dst) && (!(isNew oy) || notLooks ops oy.dst ox)
 | _, _ => false
def pairsB (ops : Array Oper) (cl : List Nat) : List Ent → Bool
 | [] => true
 | x :: l => l.all (prB ops cl x) && pairsB ops cl l
def noneLooks (ops : Array Oper) (l : List Ent) (y : Nat) : Bool :=
 match ops[y]? with
 | some oy => l.all fun z => match ops[z.i]? with
  | some oz => notLooks ops oz.dst oy
  | none => false
 | none => false
def enOK (ops : Array Oper) (cl : List Nat) (y : Nat) : List Ent → Bool
 | [] => false
 | x :: l => (match ops[x.i]? with
  | some ox => quiet ox.op || ordd cl x.i y
  | none => false) && ((x.en.contains y && noneLooks ops l y) || enOK ops cl y l)
def ordOK (ops : Array Oper) (r : RO) : Bool :=
 let cl := closL [] ops.toList
 lowB 0 ops.toList && ops.toList.all (fun o => notSel o.op) && pairsB ops cl r.2 && r.2.all (fun x => decide (x.i < ops.size)) && (List.range ops.size).all (fun i => r.2.any fun x => x.i == i) &&
  r.2.all fun y => match ops[y.i]? with
   | some oy => !(isNew oy) || (r.1.contains y.i && noneLooks ops r.2 y.i) || enOK ops cl y.i r.2
   | none => false
theorem mask_bit {acc : List Nat} {x : Nat} : ∀ {es : List Edge}, (maskE acc es).testBit x = true → ∃ e ∈ es, Region.binds .any e = true ∧ (e.on = x ∨ (acc.getD e.on 0).testBit x = true)
 | [], h => by simp [maskE] at h
 | e :: es, h => by
  unfold maskE at h
  rw [List.foldr_cons] at h
  split at h
  ·rename_i hb
   rw [Nat.testBit_or, Nat.testBit_or, Bool.or_eq_true, Bool.or_eq_true] at h
   rcases h with (h | h) | h
   ·rw [Nat.testBit_two_pow] at h
    exact ⟨e, List.mem_cons_self .., hb, .inl (by simpa using h)⟩
   ·exact ⟨e, List.mem_cons_self .., hb, .inr h⟩
   ·obtain ⟨e', h1, h2⟩ := mask_bit (es := es) h
    exact ⟨e', List.mem_cons_of_mem _ h1, h2⟩
  ·obtain ⟨e', h1, h2⟩ := mask_bit (es := es) h
   exact ⟨e', List.mem_cons_of_mem _ h1, h2⟩
theorem closL_get : ∀ (l : List Oper) (acc : List Nat), (∀ j, j < acc.length → (closL acc l)[j]? = acc[j]?) ∧ ∀ j o, l[j]? = some o → ∃ acc', (closL acc l)[acc.length + j]? = some (maskE acc' o.after.toList) ∧ ∀ i, i < acc.length + j → acc'[i]? = (closL acc l)[i]?
 | [], acc => ⟨fun _ _ => rfl, fun j o h => by simp at h⟩
 | o :: l, acc => by
  obtain ⟨h1, h2⟩ := closL_get l (acc ++ [maskE acc o.after.toList])
  simp only [List.length_append, List.length_singleton] at h1 h2
  refine ⟨fun j hj => ?_, fun j o' ho => ?_⟩
  ·rw [closL, h1 j (by omega), List.getElem?_append, if_pos hj]
  ·cases j with
   | zero =>
    simp at ho; subst ho
    refine ⟨acc, ?_, fun i hi => ?_⟩
    ·rw [closL, Nat.add_zero, h1 _ (by omega)]; simp
    ·rw [closL, h1 i (by omega), List.getElem?_append, if_pos (by omega)]
   | succ j =>
    obtain ⟨acc', h3, h4⟩ := h2 j o' (by simpa using ho)
    refine ⟨acc', ?_, fun i hi => ?_⟩
    ·rw [closL, ← h3]; congr 1; omega
    ·rw [closL]; exact h4 i (by omega)
theorem low_spec : ∀ (l : List Oper) (i : Nat), lowB i l = true → ∀ j o, l[j]? = some o → ∀ e ∈ o.after.toList, Region.binds .any e = true → e.on < i + j
 | [], _, _, j, o, h => by simp at h
 | o :: l, i, h, j, o', ho => by
  simp only [lowB, Bool.and_eq_true] at h
  cases j with
  | zero =>
   simp at ho; subst ho
   intro e he hb
   have := List.all_eq_true.1 h.1 e he
   simp [hb] at this
   simpa using this
  | succ j =>
   intro e he hb
   have := low_spec l (i + 1) h.2 j o' (by simpa using ho) e he hb
   omega
def Down (ops : Array Oper) (L : Array Bool) : Prop := ∀ y o, ops[y]? = some o → L.getD y false = true → ∀ e ∈ o.after.toList, Region.binds .any e = true → L.getD e.on false = true
def Rdy (ops : Array Oper) (L : Array Bool) (y : Nat) : Prop := ∀ o, ops[y]? = some o → ∀ e ∈ o.after.toList, Region.binds .any e = true → L.getD e.on false = true
theorem ordd_listed {ops : Array Oper} {L : Array Bool} (hl : lowB 0 ops.toList = true) (hd : Down ops L) : ∀ (y x : Nat), y < ops.size → ordd (closL [] ops.toList) x y = true → Rdy ops L y → L.getD x false = true := by
 intro y
 induction y using Nat.strongRecOn with
 | _ y ih =>
  intro x hy h hr
  have ho : ops.toList[y]? = some ops[y] := by simp [hy]
  obtain ⟨acc', h1, h2⟩ := (closL_get ops.toList []).2 y ops[y] ho
  simp only [List.length_nil, Nat.zero_add] at h1 h2
  unfold ordd at h
  rw [List.getD_eq_getElem?_getD, h1, Option.getD_some] at h
  obtain ⟨e, he, hb, hx⟩ := mask_bit h
  have hlt := low_spec _ 0 hl y ops[y] ho e he hb
  rw [Nat.zero_add] at hlt
  have hle := hr ops[y] (by simp) e he hb
  rcases hx with rfl | hx
  ·exact hle
  ·refine ih e.on hlt x (by omega) ?_ (fun o' ho' => hd e.on o' ho' hle)
   unfold ordd
   rw [List.getD_eq_getElem?_getD] at hx ⊢
   rw [← h2 e.on hlt]
   exact hx
def dstOf (ops : Array Oper) (i : Nat) : Option Tmp := (ops[i]?).bind (·.dst)
def fill (ops : Array Oper) (L : List (Nat × Value)) (a : Act) : Act := L.foldl (fun a p => a.put (dstOf ops p.1) p.2) a
def Ne (x y : Option Tmp) : Prop := ∀ d, x = some d → y ≠ some d
theorem Ne.symm {x y : Option Tmp} (h : Ne x y) : Ne y x := fun d hy hx => h d hx hy
theorem dstNe_spec {x y : Option Tmp} (h : dstNe x y = true) : Ne x y := fun d hd => by
 subst hd
 simpa [dstNe] using h
theorem fill_put {ops : Array Oper} {d : Option Tmp} {v : Value} : ∀ (L : List (Nat × Value)) (a : Act), (∀ p ∈ L, Ne (dstOf ops p.1) d) → fill ops L (a.put d v) = (fill ops L a).put d v
 | [], _, _ => rfl
 | p :: L, a, h => by
  show fill ops L ((a.put d v).put (dstOf ops p.1) p.2) = (fill ops L (a.put (dstOf ops p.1) p.2)).put d v
  rw [← fill_put L _ (fun q hq => h q (List.mem_cons_of_mem _ hq)), Act.put_comm a v p.2 (h p (List.mem_cons_self ..)).symm]
theorem fill_app {ops : Array Oper} (L L' : List (Nat × Value)) (a : Act) : fill ops (L ++ L') a = fill ops L' (fill ops L a) := by simp [fill]
theorem put_size (a : Act) (d : Option Tmp) (v : Value) : (a.put d v).tmps.size = a.tmps.size := by cases d <;> simp [Act.put]
theorem fill_size {ops : Array Oper} : ∀ (L : List (Nat × Value)) (a : Act), (fill ops L a).tmps.size = a.tmps.size
 | [], _ => rfl
 | _ :: L, _ => (fill_size L _).trans (put_size _ _ _)
structure Alike (ops : Array Oper) (o : Oper) (a a' : Act) : Prop where
 ev : ∀ x ∈ o.op.operands, a.eval x = a'.eval x
 wa : Region.wanted o (yielded ops a.tmps) = Region.wanted o (yielded ops a'.tmps)
theorem Alike.symm {ops : Array Oper} {o : Oper} {a a' : Act} (h : Alike ops o a a') : Alike ops o a' a := ⟨fun x hx => (h.ev x hx).symm, h.wa.symm⟩
theorem Alike.refl {ops : Array Oper} {o : Oper} {a : Act} : Alike ops o a a := ⟨fun _ _ => rfl, rfl⟩
theorem Alike.trans {ops : Array Oper} {o : Oper} {a b c : Act} (h : Alike ops o a b) (h' : Alike ops o b c) : Alike ops o a c := ⟨fun x hx => (h.ev x hx).trans (h'.ev x hx), h.wa.trans h'.wa⟩
theorem Alike.run {ops : Array Oper} {o : Oper} {a a' : Act} (hs : notSel o.op = true) (h : Alike ops o a a') : execOp a.eval o = execOp a'.eval o := execOp_congr o (fun cs b e => by rw [e] at hs; cases hs) h.ev
theorem alike_put {ops : Array Oper} {o : Oper} {a : Act} {d : Option Tmp} {v : Value} (h : ∀ t, d = some t → t ∉ o.looksAt ops) : Alike ops o (a.put d v) a :=
 ⟨fun x hx => Act.eval_put fun t ht hxt => h t ht (by
  subst hxt
  exact List.mem_append_left _ (List.mem_filterMap.2 ⟨.tmp t, by simpa using hx, rfl⟩)), wanted_put o a d v h⟩
theorem alike_fill {ops : Array Oper} {o : Oper} : ∀ (L : List (Nat × Value)) (a : Act), (∀ p ∈ L, ∀ t, dstOf ops p.1 = some t → t ∉ o.looksAt ops) → Alike ops o (fill ops L a) a
 | [], _, _ => .refl
 | p :: L, _, h => (alike_fill L _ (fun q hq => h q (List.mem_cons_of_mem _ hq))).trans (alike_put (h p (List.mem_cons_self ..)))
theorem notLooks_spec {ops : Array Oper} {d : Option Tmp} {o : Oper} (h : notLooks ops d o = true) : ∀ t, d = some t → t ∉ o.looksAt ops := fun t ht => by
 subst ht
 simpa [notLooks] using h
end Go.Sx


namespace Go.Sx
open Go Go.RowKit
theorem prB_spec {ops : Array Oper} {cl : List Nat} {x y : Ent} (h : prB ops cl x y = true) {ox oy : Oper} (hx : ops[x.i]? = some ox) (hy : ops[y.i]? = some oy) :
  x.i ≠ y.i ∧ (ordd cl x.i y.i = true ∨ (ox.apart ops oy = true ∧ (isNew oy = true ∨ (quiet ox.op = true ∧ (quiet oy.op = true ∨ x.i ∈ y.fl))))) ∧ (isNew ox = true ∨ isNew oy = true → Ne ox.dst oy.dst) ∧ (isNew oy = true → ∀ t, oy.dst = some t → t ∉ ox.looksAt ops) := by
 unfold prB at h
 rw [hx, hy] at h
 simp only [Bool.and_eq_true, Bool.or_eq_true, decide_eq_true_eq] at h
 obtain ⟨⟨⟨⟨h1, _⟩, h3⟩, h4⟩, h5⟩ := h
 refine ⟨h1, ?_, fun hn => ?_, fun hn => ?_⟩
 ·rcases h3 with h3 | ⟨h3, h6⟩
  ·exact .inl h3
  ·refine .inr ⟨h3, ?_⟩
   rcases h6 with h6 | ⟨h6, h7⟩
   ·exact .inl h6
   ·exact .inr ⟨h6, h7.imp id fun h => by simpa using h⟩
 ·rcases h4 with h4 | h4
  ·rcases hn with hn | hn <;> simp [hn] at h4
  ·exact dstNe_spec h4
 ·rcases h5 with h5 | h5
  ·simp [hn] at h5
  ·exact notLooks_spec h5
structure FE where
 ent : Ent
 v : Value
 B : Nat → Prop
 N : Option Nat
structure AE where
 i : Nat
 u : Value
 wr : World
 wr1 : World
abbrev FE.p (e : FE) : Nat × Value := (e.ent.i, e.v)
abbrev AE.p (e : AE) : Nat × Value := (e.i, e.u)
section
variable {P : Program} {ops : Array Oper} {w w0 w' w1 : World} {R R0 R' : Rp} {M0 : List (Option Blk)} {s : St} {a a' : Act}
def Stable (P : Program) (ops : Array Oper) (e : FE) (a : Act) (w : World) : Prop :=
 ∃ o, ops[e.ent.i]? = some o ∧ ((Region.wanted o (yielded ops a.tmps) = true ∧ ∀ w', (∀ b, e.B b → Agr e.N w w' b) → (execOp a.eval o).run P w' = .ok (.value e.v) w') ∨ (Region.wanted o (yielded ops a.tmps) = false ∧ e.v = undef))
theorem Stable.alike {e : FE} (h : Stable P ops e a w) (ha : ∀ o, ops[e.ent.i]? = some o → Alike ops o a' a ∧ notSel o.op = true) : Stable P ops e a' w := by
 obtain ⟨o, h1, h2⟩ := h
 obtain ⟨h3, h4⟩ := ha o h1
 refine ⟨o, h1, ?_⟩
 rw [h3.run h4, h3.wa]
 exact h2
theorem Stable.world {e : FE} (h : Stable P ops e a w) (hb : ∀ b, e.B b → Agr e.N w w1 b) : Stable P ops e a w1 := by
 obtain ⟨o, h1, h2⟩ := h
 exact ⟨o, h1, h2.imp (fun ⟨h3, h4⟩ => ⟨h3, fun w' hw => h4 w' fun b hB => (hb b hB).trans (hw b hB)⟩) id⟩
def Pend (P : Program) (ops : Array Oper) : List FE → Act → World → Prop
 | [], _, _ => True
 | e :: F, a, w => Stable P ops e a w ∧ Pend P ops F (a.put (dstOf ops e.ent.i) e.v) w
theorem Pend.world : ∀ {F : List FE} {a : Act}, Pend P ops F a w → (∀ e ∈ F, ∀ b, e.B b → Agr e.N w w1 b) → Pend P ops F a w1
 | [], _, _, _ => trivial
 | e :: _, _, h, hb => ⟨h.1.world (hb e (List.mem_cons_self ..)), Pend.world h.2 fun e' he => hb e' (List.mem_cons_of_mem _ he)⟩
theorem Pend.put {d : Option Tmp} {v : Value} : ∀ {F : List FE} {a : Act}, Pend P ops F a w → (∀ e ∈ F, Ne (dstOf ops e.ent.i) d) → (∀ e ∈ F, ∀ o, ops[e.ent.i]? = some o → notSel o.op = true ∧ ∀ t, d = some t → t ∉ o.looksAt ops) → Pend P ops F (a.put d v) w
 | [], _, _, _, _ => trivial
 | e :: F, a, h, h1, h2 => by
  refine ⟨h.1.alike fun o ho => ⟨alike_put (h2 e (List.mem_cons_self ..) o ho).2, (h2 e (List.mem_cons_self ..) o ho).1⟩, ?_⟩
  rw [Act.put_comm a v e.v (h1 e (List.mem_cons_self ..)).symm]
  exact Pend.put h.2 (fun e' he => h1 e' (List.mem_cons_of_mem _ he)) (fun e' he => h2 e' (List.mem_cons_of_mem _ he))
theorem Pend.snoc {e : FE} : ∀ {F : List FE} {a : Act}, Pend P ops F a w → Stable P ops e (fill ops (F.map FE.p) a) w → Pend P ops (F ++ [e]) a w
 | [], _, _, h => ⟨h, trivial⟩
 | _ :: _, _, h, h' => ⟨h.1, Pend.snoc h.2 h'⟩
def FEok (m : Memo) (R : Rp) (w : World) (e : FE) : Prop :=
 (∀ b, e.B b → b < w.heap.size) ∧ ∃ d, lookM e.ent.i m = some d ∧ match d with
  | .reg => ∀ b, ¬ e.B b
  | .obj id => id < R.n ∧ ∀ b, e.B b → R.own id b
  | .row id n => id < R.n ∧ (∀ b, e.B b → R.own id b) ∧ e.N = some n
  | .lst => ∀ b, e.B b → R.I b ∨ R.J b
  | .all => True
theorem FEok.move {m : Memo} {e : FE} (h : FEok m R w e) (hs : w.heap.size ≤ w1.heap.size) (hn : R.n ≤ R'.n) (hν : ∀ id, id < R.n → ∀ b, R.own id b → R'.own id b) (hij : ∀ b, R.I b ∨ R.J b → R'.I b ∨ R'.J b) : FEok m R' w1 e := by
 obtain ⟨h1, d, h2, h3⟩ := h
 refine ⟨fun b hb => Nat.lt_of_lt_of_le (h1 b hb) hs, d, h2, ?_⟩
 cases d with
 | reg => exact h3
 | obj id => exact ⟨Nat.lt_of_lt_of_le h3.1 hn, fun b hb => hν id h3.1 b (h3.2 b hb)⟩
 | row id n => exact ⟨Nat.lt_of_lt_of_le h3.1 hn, fun b hb => hν id h3.1 b (h3.2.1 b hb), h3.2.2⟩
 | lst => exact fun b hb => hij b (h3 b hb)
 | all => trivial
theorem FEok.memo {m : Memo} {e : FE} (h : FEok m R w e) {i : Nat} {d : Md} (hi : i ≠ e.ent.i) : FEok ((i, d) :: m) R w e := by
 obtain ⟨h1, d', h2, h3⟩ := h
 refine ⟨h1, d', ?_, h3⟩
 unfold lookM
 rw [show Nat.beq i e.ent.i = false from by
  cases h : Nat.beq i e.ent.i with
  | false => rfl
  | true => exact (hi (Nat.eq_of_beq_eq_true h)).elim]
 exact h2
def EN (P : Program) (ops : Array Oper) (U : Act) (y : Nat) : Prop := ∀ o, ops[y]? = some o → ∀ wr, ∃ u obj, (execOp U.eval o).run P wr = .ok (.value u) (wr.alloc obj)
def NL (ops : Array Oper) (l : Ord) (y : Nat) : Prop := ∀ z ∈ l, ∀ oz oy, ops[z.i]? = some oz → ops[y]? = some oy → ∀ t, oz.dst = some t → t ∉ oy.looksAt ops
theorem NL.of {l : Ord} {y : Nat} (h : noneLooks ops l y = true) : NL ops l y := fun z hz oz oy h1 h2 => by
 unfold noneLooks at h
 rw [h2] at h
 have := List.all_eq_true.1 h z hz
 rw [h1] at this
 exact notLooks_spec this
theorem NL.tail {l : Ord} {x : Ent} {y : Nat} (h : NL ops (x :: l) y) : NL ops l y := fun z hz => h z (List.mem_cons_of_mem _ hz)
theorem EN.alike {U U' : Act} {y : Nat} (h : EN P ops U y) (ha : ∀ o, ops[y]? = some o → Alike ops o U' U ∧ notSel o.op = true) : EN P ops U' y := fun o ho wr => by
 obtain ⟨h1, h2⟩ := ha o ho
 rw [h1.run h2]
 exact h o ho wr
structure Held (P : Program) (ops : Array Oper) (U : Act) (w : World) (R : Rp) (mem : List (Option Blk)) (w0 : World) (l : Ord) (p : AE) : Prop where
 run : ∀ o, ops[p.i]? = some o → (execOp U.eval o).run P p.wr = .ok (.value p.u) p.wr1
 heap : w.heap[p.wr.heap.size]? = p.wr1.heap[p.wr.heap.size]?
 unk : Unk w R mem p.wr.heap.size
 old : w0.heap.size ≤ p.wr.heap.size
 nl : NL ops l p.i
structure RI (P : Program) (ops : Array Oper) (K : St → Prop) (w0 : World) (R0 : Rp) (M0 : List (Option Blk)) (L : Array Bool) (a : Act) (w : World) (F : List FE) (A : List AE) (l : Ord) (m : Memo) (s : St) (R : Rp) (a' : Act) : Prop where
 size : L.size = ops.size
 down : Down ops L
 rel : fill ops (F.map FE.p) a = fill ops (A.map AE.p) a'
 pend : Pend P ops F a w
 conc : Conc w0 R0 M0 s R a' w
 feok : ∀ e ∈ F, FEok m R w e
 held : ∀ p ∈ A, Held P ops (fill ops (A.map AE.p) a') w R s.mem w0 l p
 body : aopsR P ops.toList l m s K
 pw : (F.map FE.ent ++ l).Pairwise (fun x y => prB ops (closL [] ops.toList) x y = true)
 cover : ∀ i, i < ops.size → (L.getD i true = false ↔ (∃ e ∈ F, e.ent.i = i) ∨ ((∃ x ∈ l, x.i = i) ∧ ∀ p ∈ A, p.i ≠ i))
 rng : ∀ x ∈ F.map FE.ent ++ l, x.i < ops.size
 qF : ∀ e ∈ F, ∀ o, ops[e.ent.i]? = some o → quiet o.op = true
 inA : ∀ p ∈ A, (∃ x ∈ l, x.i = p.i) ∧ ∀ o, ops[p.i]? = some o → isNew o = true
 ndA : A.Pairwise fun p q => p.i ≠ q.i ∧ p.wr.heap.size ≠ q.wr.heap.size
 en : ∀ x ∈ l, ∀ o, ops[x.i]? = some o → isNew o = true → (EN P ops (fill ops (A.map AE.p) a') x.i ∧ NL ops l x.i) ∨ enOK ops (closL [] ops.toList) x.i l = true
theorem new_quiet {o : Oper} (h : isNew o = true) : quiet o.op = false := by
 unfold isNew at h
 split at h
 ·cases h
 ·split at h <;> first | (rename_i hop; rw [hop]; rfl) | cases h
theorem new_guard {o : Oper} (h : isNew o = true) : o.guard = none := by
 unfold isNew at h
 split at h
 ·cases h
 ·assumption
theorem dstOf_eq {i : Nat} {o : Oper} (h : ops[i]? = some o) : dstOf ops i = o.dst := by simp [dstOf, h]
theorem enB_get {l : List Nat} (h : enB P ops.toList s l = true) : ∀ y ∈ l, ∃ o, ops[y]? = some o ∧ newB P s o = true := by
 induction l with
 | nil => intro y hy; simp at hy
 | cons z l ih =>
  intro y hy
  simp only [enB, Bool.and_eq_true] at h
  rcases List.mem_cons.1 hy with rfl | hy
  ·have h1 := h.1
   split at h1
   ·rename_i o ho
    rw [getL_eq] at ho
    exact ⟨o, by simpa using ho, h1⟩
   ·cases h1
  ·exact ih h.2 y hy
theorem en_get {l : List Nat} (h : enB P ops.toList s l = true) (hc : ∀ y ∈ l, ∀ o, getL ops.toList y = some o → newC P s o) : ∀ y ∈ l, ∃ o, ops[y]? = some o ∧ newB P s o = true ∧ newC P s o := fun y hy => by
 obtain ⟨o, h1, h2⟩ := enB_get h y hy
 exact ⟨o, h1, h2, hc y hy o (by rw [getL_eq]; simpa using h1)⟩
theorem quiet_ok {o : Oper} {K : AV → Prop} (h : popOp P s o.op K) (hC : Conc w0 R0 M0 s R a w) :
  ∃ v av, ∃ B : Nat → Prop, ∃ N : Option Nat, K av ∧ RepA w R av v ∧ (∀ w', (∀ b, B b → Agr N w w' b) → (execOp a.eval o).run P w' = .ok (.value v) w') ∧ (∀ b, B b → b < w.heap.size) ∧ (match mdAt s o.op with
   | .reg => ∀ b, ¬ B b
   | .obj id => id < R.n ∧ ∀ b, B b → R.own id b
   | .row id n => id < R.n ∧ (∀ b, B b → R.own id b) ∧ N = some n
   | .lst => ∀ b, B b → R.I b ∨ R.J b
   | .all => True) := by
 by_cases hr : regAt s o.op = true
 ·obtain ⟨v, av, h1, h2, h3⟩ : ∃ v av, K av ∧ RepA w R av v ∧ ∀ w', (execOp a.eval o).run P w' = .ok (.value v) w' := by
   by_cases hr0 : regOnly o.op = true
   ·exact regOnly_ok hr0 h hC
   ·obtain ⟨dst, op, ty, pos, after, guard⟩ := o
    simp only at h hr hr0 ⊢
    have hr0' : regOnly op = false := by simpa using hr0
    unfold regAt at hr
    rw [hr0'] at hr
    simp only at hr
    split at hr
    ·rename_i c
     split at hr
     ·rename_i hc
      split at hr
      ·rename_i x t hca hct
       obtain ⟨callee, args, ats⟩ := c
       simp only at hc hca hct
       subst hc
       have hargs : args = #[x] := by rw [← Array.toArray_toList (xs := args), hca]
       have hats : ats = #[t] := by rw [← Array.toArray_toList (xs := ats), hct]
       subst hargs hats
       have hl : lenF P s t (opnd s x) K := h
       obtain ⟨v, av, k1, k2, k3⟩ := lenS_ok (ty := ty) hl hC (hC.eval x) hr
       exact ⟨v, av, k1, k2, fun w' => by simp [execOp, resolve, invoke, builtin, k3 w']⟩
      ·cases hr
     ·cases hr
    ·cases hr
  refine ⟨v, av, fun _ => False, none, h1, h2, fun w' _ => h3 w', fun b hb => hb.elim, ?_⟩
  unfold mdAt
  rw [hr]
  exact fun b hb => hb
 ·have hr' : regAt s o.op = false := by simpa using hr
  obtain ⟨v, av, h1, h2, h3⟩ := popOp_ok h hC
  have hall : ∃ B : Nat → Prop, (∀ w', (∀ b, B b → Agr none w w' b) → (execOp a.eval o).run P w' = .ok (.value v) w') ∧ (∀ b, B b → b < w.heap.size) := ⟨fun b => b < w.heap.size, fun w' hw => h3 w' fun b hb => (hw b hb).eq, fun _ hb => hb⟩
  obtain ⟨dst, op, ty, pos, after, guard⟩ := o
  simp only at h h3 hr' ⊢
  unfold mdAt
  rw [hr']
  cases op with
  | load t p =>
   have h : loadF P s t (opnd s p) K := h
   have hx := hC.eval p
   have hagg : ∃ n, aggSize P t = some n := by
    cases hag : aggSize P t with
    | some n => exact ⟨n, rfl⟩
    | none =>
     have hA : ∀ x, ¬ loadA P s t x K := fun x hx => by unfold loadA at hx; rw [hag] at hx; exact hx
     unfold loadF at h
     split at h
     ·split at h
      ·rw [hag] at h; exact h.elim
      ·exact h.elim
     ·split at h
      ·rw [hag] at h; exact h.elim
      ·rw [hag] at h; exact h.elim
      ·exact (hA _ h).elim
     ·exact (hA _ h).elim
   obtain ⟨n, ht⟩ := hagg
   have hrun0 := h3 w (Same.refl w)
   have key : ∀ ad : Addr, a.eval p = .pointer (some ad) → ((∃ c e z, w.heap[ad.block]? = some (.cells c e z)) ∨ n = some 0) → ∀ w', w'.heap[ad.block]? = w.heap[ad.block]? → (execOp a.eval ⟨dst, .load t p, ty, pos, after, guard⟩).run P w' = .ok (.value v) w' := fun ad had hc w' hw => by
    have e : ∀ w', (execOp a.eval ⟨dst, .load t p, ty, pos, after, guard⟩).run P w' = ((Instr.loadAt t (.pointer (some ad))).run P w').andThen (fun v w' => .ok (.value v) w') := fun w' => by
     simp only [execOp, had, Sem.run_bind]; rfl
    rw [e] at hrun0 ⊢
    cases hl : (Instr.loadAt t (.pointer (some ad))).run P w with
    | ok v1 w2 =>
     rw [hl] at hrun0
     simp only [Result.andThen_ok, Result.ok.injEq, Next.value.injEq] at hrun0
     obtain ⟨rfl, rfl⟩ := hrun0
     rw [load_move ht hc hl hw]
     rfl
    | halt x w2 => rw [hl] at hrun0; simp at hrun0
   simp only
   cases hxo : opnd s p with
   | tup l => obtain ⟨B, h4, h5⟩ := hall; exact ⟨v, av, B, none, h1, h2, h4, h5, trivial⟩
   | x xv =>
    cases xv with
    | agg l => obtain ⟨B, h4, h5⟩ := hall; exact ⟨v, av, B, none, h1, h2, h4, h5, trivial⟩
    | one sv =>
     rw [hxo] at h hx
     cases sv with
     | ptr id off =>
      obtain ⟨hid, g, hg, hxe⟩ := hx
      have h : loadA P s t (.x (.one (.ptr id off))) K := h
      have hblk : ∃ t' cs, s.blk id = some (.box t' cs) := by
       unfold loadA at h
       rw [ht] at h
       cases n <;> simp only at h <;> split at h <;> first | exact h.elim | (rename_i hb; exact ⟨_, _, hb⟩)
      obtain ⟨t', cs, hb⟩ := hblk
      obtain ⟨g', vals, hg', hh, _⟩ := hC.box hb
      rw [hg] at hg'
      cases hg'
      refine ⟨v, av, fun b => b = g, none, h1, h2, fun w' hw => key _ hxe (.inl ⟨_, _, _, hh⟩) w' (hw g rfl).eq, fun b hb => by subst hb; exact (Array.getElem?_eq_some_iff.1 hh).1, hid, fun b hb => by subst hb; exact .inl (by rw [hg]; rfl)⟩
     | elt id sz i f =>
      obtain ⟨hid, g, n', c, hg, hxe⟩ := hx
      have hblk : (∃ e al ks ar, s.blk id = some (.row e al ks ar)) ∨ (∃ e G m, s.blk id = some (.prow e G m)) ∨ ∃ e z p, s.blk id = some (.ptrs e z p) := by
       unfold loadF at h
       simp only at h
       split at h
       ·rename_i hb; exact .inr (.inl ⟨_, _, _, hb⟩)
       ·rename_i hb; exact .inr (.inr ⟨_, _, _, hb⟩)
       ·left
        unfold loadA at h
        rw [ht] at h
        cases n <;> simp only at h <;> split at h <;> first | exact h.elim | (rename_i hb; exact ⟨_, _, _, _, hb⟩)
      obtain ⟨e, sz', m, xs, ho⟩ : ∃ e sz' m xs, w.ownsRow 0 e sz' (R.ν id) m xs := by
       rcases hblk with ⟨e, al, ks, ar, hb⟩ | ⟨e, G, m, hb⟩ | ⟨e, z, p, hb⟩
       ·obtain ⟨xs, ho, _⟩ := hC.row hb; exact ⟨_, _, _, xs, ho⟩
       ·obtain ⟨_, _, xs, ho, _⟩ := hC.prow hb; exact ⟨_, _, _, xs, ho⟩
       ·obtain ⟨g2, vs, h1, h2, h3⟩ := hC.ptrs hb; exact ⟨_, _, _, _, ptrs_owns h1 h2 h3⟩
      rw [hg] at ho
      rcases ho.2 with ⟨hv', _⟩ | ⟨g', cap, cur, hv', hbase, hh, _⟩
      ·cases hv'
      cases hv'
      have hobj : (fun d : Md => ∃ v av, ∃ B : Nat → Prop, ∃ N : Option Nat, K av ∧ RepA w R av v ∧ (∀ w', (∀ b, B b → Agr N w w' b) → (execOp a.eval ⟨dst, .load t p, ty, pos, after, guard⟩).run P w' = .ok (.value v) w') ∧ (∀ b, B b → b < w.heap.size) ∧ (match d with
        | .reg => ∀ b, ¬ B b
        | .obj id => id < R.n ∧ ∀ b, B b → R.own id b
        | .row id n => id < R.n ∧ (∀ b, B b → R.own id b) ∧ N = some n
        | .lst => ∀ b, B b → R.I b ∨ R.J b
        | .all => True)) (.obj id) :=
       ⟨v, av, fun b => b = g, none, h1, h2, fun w' hw => key _ hxe (.inl ⟨_, _, _, hh⟩) w' (hw g rfl).eq, fun b hb => by subst hb; exact (Array.getElem?_eq_some_iff.1 hh).1, hid, fun b hb => by subst hb; exact .inl (by rw [hg]; rfl)⟩
      have hmd : mdElt s id = .obj id ∨ ∃ e2 al ks ar, s.blk id = some (.row e2 al ks ar) ∧ scalK ks = true ∧ mdElt s id = .row id (ar.length * ks.length) := by
       unfold mdElt
       split
       ·rename_i e2 al ks ar hb
        split
        ·rename_i hsc
         exact .inr ⟨e2, al, ks, ar, hb, hsc, rfl⟩
        ·exact .inl rfl
       ·exact .inl rfl
      simp only
      rcases hmd with hmd | ⟨e2, al, ks, ar, hb, hsc, hmd⟩
      ·rw [hmd]; exact hobj
      ·rw [hmd]
       ·skip
        refine ⟨v, av, fun b => b = g, some (ar.length * ks.length), h1, h2, fun w' hw => ?_, fun b hb => by subst hb; exact (Array.getElem?_eq_some_iff.1 hh).1, hid, fun b hb => by subst hb; exact .inl (by rw [hg]; rfl), rfl⟩
        rcases hw g rfl with hw | ⟨n1, e1, hw⟩
        ·exact key _ hxe (.inl ⟨_, _, _, hh⟩) w' hw
        ·cases e1
         have hin : i < ar.length ∧ (n = none → i * sz + f < ar.length * ks.length) ∧ ∀ m, n = some m → ∀ k, k < m → i * sz + f + k < ar.length * ks.length := by
          unfold loadF at h
          simp only [hb] at h
          unfold loadA at h
          rw [ht] at h
          have hle : ∀ i, i < ar.length → ∀ q, q < ks.length → i * ks.length + q < ar.length * ks.length := fun i hi q hq => by
           have := Nat.mul_le_mul_right ks.length (show i + 1 ≤ ar.length from hi)
           rw [Nat.add_mul] at this
           omega
          cases n with
          | none =>
           simp only [hb] at h
           split at h
           ·rename_i k hk
            split at h
            ·rename_i hz
             have hz' : sz = ks.length := by rw [← lenL_eq]; exact Nat.eq_of_beq_eq_true hz
             obtain ⟨hi, _⟩ := h
             rw [getL_eq] at hk
             have hf := (List.getElem?_eq_some_iff.1 hk).1
             exact ⟨hi, fun _ => by rw [hz']; exact hle i hi f hf, fun m e => by cases e⟩
            ·cases h
           ·cases h
          | some m =>
           simp only [hb] at h
           split at h
           ·rename_i hz
            rw [Bool.and_eq_true] at hz
            have hz' : sz = ks.length := by rw [← lenL_eq]; exact Nat.eq_of_beq_eq_true hz.1
            have hf : f + m ≤ ks.length := by rw [← lenL_eq]; exact Nat.le_of_ble_eq_true hz.2
            obtain ⟨hi, _⟩ := h
            refine ⟨hi, fun e => (by cases e), fun m' e k hk => ?_⟩
            cases e
            rw [hz', Nat.add_assoc]
            exact hle i hi (f + k) (by omega)
           ·cases h
         obtain ⟨_, i1, i2⟩ := hin
         have e : ∀ w', (execOp a.eval ⟨dst, .load t p, ty, pos, after, guard⟩).run P w' = ((Instr.loadAt t (.pointer (some ⟨g, i * sz + f, none⟩))).run P w').andThen (fun v w' => .ok (.value v) w') := fun w' => by
          simp only [execOp, hxe, Sem.run_bind]; rfl
         rw [e] at hrun0 ⊢
         cases hl : (Instr.loadAt t (.pointer (some ⟨g, i * sz + f, none⟩))).run P w with
         | ok v1 w2 =>
          rw [hl] at hrun0
          simp only [Result.andThen_ok, Result.ok.injEq, Next.value.injEq] at hrun0
          obtain ⟨rfl, rfl⟩ := hrun0
          rw [load_moveN ht (fun e => hw _ (i1 e)) (fun m e k hk => by
           have := hw _ (i2 m e k hk)
           unfold Addr.add
           split
           ·rename_i hk0
            subst hk0
            exact this
           ·exact this) hl]
          rfl
         | halt x w2 => rw [hl] at hrun0; simp at hrun0
     | lel al ks ar i f =>
      obtain ⟨ad, cap, hc, hi, hxe⟩ := hx
      have h : loadA P s t (.x (.one (.lel al ks ar i f))) K := h
      obtain ⟨ad', cap', cv, he, hcap, hlen, ha, hcc⟩ := RepC.sl_inv hc
      cases he
      have hne : ar ≠ [] := by rintro rfl; simp at hi
      obtain ⟨xad, e, hS, hcell⟩ := ha hne
      cases e
      have hS' : R.I ad.block ∨ R.J ad.block := hS.elim .inr fun h => .inl h.2
      have hcells : (∃ c e z, w.heap[(ad.add (i * ks.length + f)).block]? = some (.cells c e z)) ∨ n = some 0 := by
       rw [add_block]
       unfold loadA at h
       rw [ht] at h
       have hex : (∃ f', f' < ks.length) ∨ n = some 0 := by
        cases n with
        | none =>
         simp only at h
         obtain ⟨k, hk, _⟩ := optP.elim h
         rw [getL_eq] at hk; exact .inl ⟨f, (List.getElem?_eq_some_iff.1 hk).1⟩
        | some n =>
         simp only at h
         split at h
         ·rename_i hq
          have hle : f + n ≤ ks.length := by rw [← lenL_eq]; exact Nat.le_of_ble_eq_true hq
          by_cases hk : ks.length = 0
          ·right; congr 1; omega
          ·exact .inl ⟨0, by omega⟩
         ·cases h
       refine hex.imp (fun ⟨f', hf'⟩ => ?_) id
       obtain ⟨r, ce, g1, g2⟩ := row_has hlen hi (List.getElem?_eq_getElem hf')
       have := hcell i r f' ce _ g1 g2 (List.getElem?_eq_getElem hf')
       unfold World.cell? at this
       rw [add_block] at this
       split at this
       ·rename_i c e z hh; exact ⟨c, e, z, hh⟩
       ·cases this
      refine ⟨v, av, fun b => b = ad.block, none, h1, h2, fun w' hw => key _ hxe hcells w' (by rw [add_block]; exact (hw _ rfl).eq), fun b hb => by subst hb; exact hC.fr.ok.lt _ hS', fun b hb => by subst hb; exact hS'⟩
     | pel G i f =>
      obtain ⟨hG, hi, hxe⟩ := hx
      have hblk : ∃ t' ks rows ms, s.blk G = some (.fam t' ks rows ms) := by
       unfold loadF at h
       simp only at h
       split at h
       ·rename_i hb; exact ⟨_, _, _, _, hb⟩
       ·exact h.elim
      obtain ⟨t', ks, rows, ms, hb⟩ := hblk
      obtain ⟨hν, hF⟩ := hC.fam hb
      have hir : i < rows.length := by rw [← hF.n]; exact hi
      obtain ⟨_, vals, hh, _⟩ := hF.mem i _ (List.getElem?_eq_getElem hir)
      exact ⟨v, av, fun b => b = (R.F G).Y i, none, h1, h2, fun w' hw => key _ hxe (.inl ⟨_, _, _, hh⟩) w' (hw _ rfl).eq, fun b hb => by subst hb; exact (Array.getElem?_eq_some_iff.1 hh).1, hG, fun b hb => by subst hb; exact .inr ⟨hν, i, hi, .inl rfl⟩⟩
     | _ => obtain ⟨B, h4, h5⟩ := hall; exact ⟨v, av, B, none, h1, h2, h4, h5, trivial⟩
  | _ => first
   | (obtain ⟨B, h4, h5⟩ := hall; exact ⟨v, av, B, none, h1, h2, h4, h5, trivial⟩)
end
end Go.Sx


namespace Go.Sx
open Go Go.RowKit
theorem memoK_eq (s : St) (op : Op) (i : Nat) (m : Memo) (K : Memo → Prop) : memoK s op i m K = K ((i, mdAt s op) :: m) := fMd_eq _ _
section
variable {P : Program} {ops : Array Oper} {w w0 w' w1 : World} {R R0 R' : Rp} {M0 : List (Option Blk)} {s : St} {a a' : Act} {K : St → Prop} {L : Array Bool} {F : List FE} {A : List AE} {l : Ord} {m : Memo} {x : Ent}
theorem RI.pF (h : RI P ops K w0 R0 M0 L a w F A l m s R a') : ∀ e ∈ F, ∀ z ∈ l, prB ops (closL [] ops.toList) e.ent z = true := fun e he z hz =>
 (List.pairwise_append.1 h.pw).2.2 e.ent (List.mem_map_of_mem he) z hz
theorem RI.pl (h : RI P ops K w0 R0 M0 L a w F A l m s R a') : l.Pairwise (fun x y => prB ops (closL [] ops.toList) x y = true) := (List.pairwise_append.1 h.pw).2.1
theorem RI.inl (h : RI P ops K w0 R0 M0 L a w F A l m s R a') {p : AE} (hp : p ∈ A) : ∃ z o, z ∈ l ∧ z.i = p.i ∧ ops[p.i]? = some o ∧ isNew o = true := by
 obtain ⟨⟨z, hz, he⟩, hn⟩ := h.inA p hp
 have hlt := h.rng z (List.mem_append_right _ hz)
 rw [he] at hlt
 exact ⟨z, ops[p.i], hz, he, by simp [hlt], hn _ (by simp [hlt])⟩
theorem RI.goOn (hsel : ∀ (i : Nat) o, ops[i]? = some o → notSel o.op = true) (h : RI P ops K w0 R0 M0 L a w F A (x :: l) m s R a') {o : Oper} (ho : ops[x.i]? = some o) (hq : quiet o.op = true) :
  ∃ e m' s' a'', RI P ops K w0 R0 M0 L a w (F ++ [e]) A l m' s' R a'' ∧ e.ent = x := by
 have hpl := List.pairwise_cons.1 h.pl
 have hpF := h.pF
 have hxA : ∀ p ∈ A, ∃ z oz, z ∈ l ∧ z.i = p.i ∧ ops[p.i]? = some oz ∧ isNew oz = true ∧ Ne oz.dst o.dst ∧ ∀ t, oz.dst = some t → t ∉ o.looksAt ops := fun p hp => by
  obtain ⟨z, oz, hz, he, h1, h2⟩ := h.inl hp
  rcases List.mem_cons.1 hz with rfl | hz
  ·rw [he, h1] at ho
   cases ho
   rw [new_quiet h2] at hq
   cases hq
  ·have hs := prB_spec (hpl.1 z hz) ho (by rw [he]; exact h1)
   exact ⟨z, oz, hz, he, h1, h2, (hs.2.2.1 (.inr h2)).symm, hs.2.2.2 h2⟩
 have hpi : ∀ p ∈ A, p.i ≠ x.i := fun p hp e => by
  obtain ⟨z, oz, _, _, h1, h2, _⟩ := hxA p hp
  rw [e, ho] at h1
  cases h1
  rw [new_quiet h2] at hq
  cases hq
 obtain ⟨i, fl, en⟩ := x
 have hg : getL ops.toList i = some o := by rw [getL_eq]; simpa using ho
 have hb := h.body
 rw [aopsR_cons, stepR, hg] at hb
 simp only [hq] at hb
 obtain ⟨s1, hC1, hw, hm1⟩ := wantedA_ok hb h.conc
 have key : ∃ v, ∃ B : Nat → Prop, ∃ N : Option Nat, ∃ d s2, s2.mem = s.mem ∧ Conc w0 R0 M0 s2 R (a'.put o.dst v) w ∧ Stable P ops ⟨⟨i, fl, en⟩, v, B, N⟩ a' w ∧ (∀ b, B b → b < w.heap.size) ∧ (match d with
   | .reg => ∀ b, ¬ B b
   | .obj id => id < R.n ∧ ∀ b, B b → R.own id b
   | .row id n => id < R.n ∧ (∀ b, B b → R.own id b) ∧ N = some n
   | .lst => ∀ b, B b → R.I b ∨ R.J b
   | .all => True) ∧ (enB P ops.toList s2 en = true ∧ ∀ y ∈ en, ∀ o, getL ops.toList y = some o → newC P s2 o) ∧ aopsR P ops.toList l ((i, d) :: m) s2 K := by
  rcases hw with ⟨hwt, hk⟩ | ⟨hwt, hk⟩
  ·rw [memoK_eq] at hk
   obtain ⟨v, av, B, N, k1, k2, k3, k4, k5⟩ := quiet_ok hk hC1
   obtain ⟨s2, ⟨k6, k7⟩, k8⟩ := hC1.put k2 (put_mem k1)
   obtain ⟨he, hec, k6⟩ := enVC_elim k6
   exact ⟨v, B, N, _, s2, k7.trans hm1, k8, ⟨o, ho, .inl ⟨hwt, k3⟩⟩, k4, k5, ⟨he, hec⟩, k6⟩
  ·obtain ⟨s2, ⟨k6, k7⟩, k8⟩ := hC1.put (v := .und) (u := undef) rfl (put_mem hk)
   obtain ⟨he, hec, k6⟩ := enVC_elim k6
   exact ⟨undef, fun _ => False, none, .reg, s2, k7.trans hm1, k8, ⟨o, ho, .inr ⟨hwt, rfl⟩⟩, fun b hb => hb.elim, fun b hb => hb, ⟨he, hec⟩, k6⟩
 obtain ⟨v, B, N, d, s2, hmem, hC2, hst, hbsz, hmd, hen, hbody⟩ := key
 have hd : dstOf ops i = o.dst := dstOf_eq ho
 have hU : fill ops (A.map AE.p) (a'.put o.dst v) = (fill ops (A.map AE.p) a').put o.dst v := fill_put _ _ fun p hp => by
  obtain ⟨q, hq, rfl⟩ := List.mem_map.1 hp
  obtain ⟨z, oz, _, _, h1, _, h3, _⟩ := hxA q hq
  rw [dstOf_eq h1]; exact h3
 have hal : ∀ U : Act, ∀ y oy, ops[y]? = some oy → NL ops (⟨i, fl, en⟩ :: l) y → Alike ops oy (U.put o.dst v) U ∧ notSel oy.op = true := fun U y oy hy hn => ⟨alike_put (hn ⟨i, fl, en⟩ (List.mem_cons_self ..) o oy ho hy), hsel _ _ hy⟩
 refine ⟨⟨⟨i, fl, en⟩, v, B, N⟩, (i, d) :: m, s2, a'.put o.dst v, ⟨h.size, h.down, ?_, ?_, hC2, ?_, ?_, hbody, by simpa using h.pw, ?_, by simpa using h.rng, ?_, ?_, h.ndA, ?_⟩, rfl⟩
 ·rw [hU, List.map_append, fill_app, h.rel]
  show (fill ops (A.map AE.p) a').put (dstOf ops i) v = _
  rw [hd]
 ·refine h.pend.snoc ?_
  rw [h.rel]
  refine hst.alike fun o' ho' => ?_
  have : o' = o := by rw [show (⟨⟨i, fl, en⟩, v, B, N⟩ : FE).ent.i = i from rfl, ho] at ho'; cases ho'; rfl
  subst this
  refine ⟨alike_fill _ _ fun p hp => ?_, hsel _ _ ho⟩
  obtain ⟨q, hq', rfl⟩ := List.mem_map.1 hp
  obtain ⟨z, oz, _, _, h1, _, _, h4⟩ := hxA q hq'
  show ∀ t, dstOf ops q.i = some t → _
  rw [dstOf_eq h1]; exact h4
 ·intro e he
  rcases List.mem_append.1 he with he | he
  ·refine (h.feok e he).memo fun hi => ?_
   have hlt := h.rng e.ent (List.mem_append_left _ (List.mem_map_of_mem he))
   exact (prB_spec (hpF e he ⟨i, fl, en⟩ (List.mem_cons_self ..)) (ox := ops[e.ent.i]) (by simp [hlt]) ho).1 hi.symm
  ·simp at he
   subst he
   exact ⟨hbsz, d, by simp [lookM], hmd⟩
 ·intro p hp
  have hh := h.held p hp
  refine ⟨fun oy hy => ?_, hh.heap, by rw [hmem]; exact hh.unk, hh.old, hh.nl.tail⟩
  obtain ⟨k1, k2⟩ := hal (fill ops (A.map AE.p) a') p.i oy hy hh.nl
  rw [hU, k1.run k2]
  exact hh.run oy hy
 ·intro j hj
  rw [h.cover j hj]
  constructor
  ·rintro (⟨e, he, rfl⟩ | ⟨⟨z, hz, rfl⟩, hA⟩)
   ·exact .inl ⟨e, List.mem_append_left _ he, rfl⟩
   ·rcases List.mem_cons.1 hz with rfl | hz
    ·exact .inl ⟨_, List.mem_append_right _ (List.mem_singleton.2 rfl), rfl⟩
    ·exact .inr ⟨⟨z, hz, rfl⟩, hA⟩
  ·rintro (⟨e, he, rfl⟩ | ⟨⟨z, hz, rfl⟩, hA⟩)
   ·rcases List.mem_append.1 he with he | he
    ·exact .inl ⟨e, he, rfl⟩
    ·simp at he
     subst he
     exact .inr ⟨⟨_, List.mem_cons_self .., rfl⟩, hpi⟩
   ·exact .inr ⟨⟨z, List.mem_cons_of_mem _ hz, rfl⟩, hA⟩
 ·intro e he o' ho'
  rcases List.mem_append.1 he with he | he
  ·exact h.qF e he o' ho'
  ·simp at he
   subst he
   rw [show (⟨⟨i, fl, en⟩, v, B, N⟩ : FE).ent.i = i from rfl, ho] at ho'
   cases ho'
   exact hq
 ·intro p hp
  obtain ⟨z, oz, hz, he, _⟩ := hxA p hp
  exact ⟨⟨z, hz, he⟩, (h.inA p hp).2⟩
 ·intro z hz oz hoz hnz
  rcases h.en z (List.mem_cons_of_mem _ hz) oz hoz hnz with ⟨k1, k2⟩ | k1
  ·refine .inl ⟨?_, k2.tail⟩
   rw [hU]
   exact k1.alike fun oy hy => hal _ _ _ hy k2
  ·simp only [enOK, ho, hq, Bool.true_or, Bool.true_and, Bool.or_eq_true, Bool.and_eq_true] at k1
   rcases k1 with ⟨k1, k2⟩ | k1
   ·have hnl := NL.of k2
    refine .inl ⟨?_, hnl⟩
    obtain ⟨oy, h1, h2, h2c⟩ := en_get hen.1 hen.2 z.i (by simpa using k1)
    have hE : EN P ops (a'.put o.dst v) z.i := fun o' ho' wr => by
     rw [h1] at ho'; cases ho'
     exact new_run h2 h2c hC2 wr
    refine hE.alike fun oy' hy' => ⟨alike_fill _ _ fun p hp => ?_, hsel _ _ hy'⟩
    obtain ⟨q, hq', rfl⟩ := List.mem_map.1 hp
    obtain ⟨z', oz', hz', he', h1', _⟩ := hxA q hq'
    show ∀ t, dstOf ops q.i = some t → _
    rw [dstOf_eq h1']
    exact hnl z' hz' oz' oy' (by rw [he']; exact h1') hy'
   ·exact .inr k1
theorem fill_perm {L L' : List (Nat × Value)} (hp : L.Perm L') : ∀ (a : Act), L.Pairwise (fun p q => Ne (dstOf ops p.1) (dstOf ops q.1)) → fill ops L a = fill ops L' a := by
 induction hp with
 | nil => intro a _; rfl
 | cons x _ ih => intro a h; exact ih _ (List.pairwise_cons.1 h).2
 | swap x y l =>
  intro a h
  have h1 := (List.pairwise_cons.1 h).1 x (List.mem_cons_self ..)
  show fill ops l ((a.put (dstOf ops y.1) y.2).put (dstOf ops x.1) x.2) = fill ops l ((a.put (dstOf ops x.1) x.2).put (dstOf ops y.1) y.2)
  rw [Act.put_comm a y.2 x.2 h1]
 | trans h1 _ ih1 ih2 => intro a h; rw [ih1 a h]; exact ih2 a (h1.pairwise h (fun h => Ne.symm h))
theorem RI.neA (h : RI P ops K w0 R0 M0 L a w F A l m s R a') : (A.map AE.p).Pairwise (fun p q => Ne (dstOf ops p.1) (dstOf ops q.1)) := by
 rw [List.pairwise_map]
 refine h.ndA.imp_of_mem fun {p q} hp hq hpq => ?_
 obtain ⟨z, oz, hz, he, h1, h2⟩ := h.inl hp
 obtain ⟨z', oz', hz', he', h1', h2'⟩ := h.inl hq
 show Ne (dstOf ops p.i) (dstOf ops q.i)
 rw [dstOf_eq h1, dstOf_eq h1']
 have hne : z ≠ z' := fun e => hpq.1 (by rw [← he, ← he', e])
 have hd : prB ops (closL [] ops.toList) z z' = true ∨ prB ops (closL [] ops.toList) z' z = true := by
  obtain ⟨i, hi⟩ := List.getElem?_of_mem hz
  obtain ⟨j, hj⟩ := List.getElem?_of_mem hz'
  obtain ⟨hi1, hi2⟩ := List.getElem?_eq_some_iff.1 hi
  obtain ⟨hj1, hj2⟩ := List.getElem?_eq_some_iff.1 hj
  have hp := List.pairwise_iff_getElem.1 h.pl
  rcases Nat.lt_trichotomy i j with hlt | heq | hgt
  ·left; rw [← hi2, ← hj2]; exact hp i j hi1 hj1 hlt
  ·subst heq; exact (hne (by rw [← hi2, ← hj2])).elim
  ·right; rw [← hi2, ← hj2]; exact hp j i hj1 hi1 hgt
 rcases hd with hd | hd
 ·exact (prB_spec hd (by rw [he]; exact h1) (by rw [he']; exact h1')).2.2.1 (.inl h2)
 ·exact ((prB_spec hd (by rw [he']; exact h1') (by rw [he]; exact h1)).2.2.1 (.inl h2')).symm
theorem RI.adopt (hsel : ∀ (i : Nat) o, ops[i]? = some o → notSel o.op = true) (h : RI P ops K w0 R0 M0 L a w F A (x :: l) m s R a') {p : AE} (hp : p ∈ A) (hpx : p.i = x.i) :
  ∃ A' s' R' a'', RI P ops K w0 R0 M0 L a w F A' l m s' R' a'' := by
 obtain ⟨z0, o, _, _, ho, hn⟩ := h.inl hp
 rw [hpx] at ho
 have hpl := List.pairwise_cons.1 h.pl
 obtain ⟨A1, A2, rfl⟩ := List.append_of_mem hp
 have hperm : (A1 ++ p :: A2).Perm (p :: (A1 ++ A2)) := List.perm_middle
 have hnd := h.ndA
 have hnd' : (p :: (A1 ++ A2)).Pairwise fun p q => p.i ≠ q.i ∧ p.wr.heap.size ≠ q.wr.heap.size := hperm.pairwise hnd (fun h => ⟨h.1.symm, h.2.symm⟩)
 obtain ⟨hnp, hnd''⟩ := List.pairwise_cons.1 hnd'
 have hmem : ∀ q, q ∈ A1 ++ A2 → q ∈ A1 ++ p :: A2 := fun q hq => by simp at hq ⊢; rcases hq with hq | hq <;> simp [hq]
 have hfill : fill ops ((A1 ++ p :: A2).map AE.p) a' = fill ops ((A1 ++ A2).map AE.p) (a'.put (dstOf ops p.i) p.u) := by
  rw [fill_perm (hperm.map AE.p) a' h.neA]
  rfl
 have hinl : ∀ q, q ∈ A1 ++ A2 → ∃ z oz, z ∈ l ∧ z.i = q.i ∧ ops[q.i]? = some oz ∧ isNew oz = true := fun q hq => by
  obtain ⟨z, oz, hz, he, h1, h2⟩ := h.inl (hmem q hq)
  rcases List.mem_cons.1 hz with rfl | hz
  ·exact (hnp q hq).1 (hpx.trans he) |>.elim
  ·exact ⟨z, oz, hz, he, h1, h2⟩
 have hheld := h.held p hp
 have hUa : ∀ oy, ops[p.i]? = some oy → Alike ops oy (fill ops ((A1 ++ p :: A2).map AE.p) a') a' := fun oy hy => alike_fill _ _ fun q' hq' => by
  obtain ⟨q, hq, rfl⟩ := List.mem_map.1 hq'
  obtain ⟨z, oz, hz, he, h1, h2⟩ := h.inl hq
  show ∀ t, dstOf ops q.i = some t → _
  rw [dstOf_eq h1]
  exact hheld.nl z hz oz oy (by rw [he]; exact h1) hy
 have hrun : (execOp a'.eval o).run P p.wr = .ok (.value p.u) p.wr1 := by
  rw [← (hUa o (by rw [hpx]; exact ho)).run (hsel _ _ ho)]
  exact hheld.run o (by rw [hpx]; exact ho)
 obtain ⟨i, fl, en⟩ := x
 have hb := h.body
 rw [aopsR_cons, stepR, show getL ops.toList i = some o from by rw [getL_eq]; simpa using ho] at hb
 simp only [new_quiet hn] at hb
 have hwt : wantedA ops.toList o s = fun run skip => run s := by funext run skip; unfold wantedA; rw [new_guard hn]
 rw [hwt] at hb
 simp only [aopF, hn] at hb
 obtain ⟨s2, R2, k1, k2, k3⟩ := adopt_ok hn hb h.conc hrun hheld.heap hheld.unk hheld.old
 obtain ⟨hen, henc, k1⟩ := enVC_elim k1
 ·skip
  have hd : dstOf ops p.i = o.dst := dstOf_eq (by rw [hpx]; exact ho)
  have hU : fill ops ((A1 ++ A2).map AE.p) (a'.put o.dst p.u) = fill ops ((A1 ++ p :: A2).map AE.p) a' := by rw [hfill, hd]
  refine ⟨A1 ++ A2, s2, R2, a'.put o.dst p.u, ⟨h.size, h.down, by rw [hU]; exact h.rel, h.pend, k2, fun e he => (h.feok e he).move (Nat.le_refl _) k3.n k3.ν k3.ij, fun q hq => ?_, k1, ?_, fun j hj => ?_, ?_, h.qF, fun q hq => ?_, hnd'', fun z hz oz hoz hnz => ?_⟩⟩
  ·have hh := h.held q (hmem q hq)
   exact ⟨fun oy hy => by rw [hU]; exact hh.run oy hy, hh.heap, k3.unk _ hh.unk (fun e => (hnp q hq).2 e.symm), hh.old, hh.nl.tail⟩
  ·have := h.pw
   exact this.sublist (List.Sublist.append (List.Sublist.refl _) (List.sublist_cons_self _ _))
  ·rw [h.cover j hj]
   constructor
   ·rintro (hF | ⟨⟨z, hz, rfl⟩, hA⟩)
    ·exact .inl hF
    ·rcases List.mem_cons.1 hz with rfl | hz
     ·exact (hA p hp hpx).elim
     ·exact .inr ⟨⟨z, hz, rfl⟩, fun q hq => hA q (hmem q hq)⟩
   ·rintro (hF | ⟨⟨z, hz, rfl⟩, hA⟩)
    ·exact .inl hF
    ·refine .inr ⟨⟨z, List.mem_cons_of_mem _ hz, rfl⟩, fun q hq => ?_⟩
     rcases List.mem_append.1 hq with hq | hq
     ·exact hA q (List.mem_append_left _ hq)
     ·rcases List.mem_cons.1 hq with rfl | hq
      ·intro e
       have hlt := h.rng z (List.mem_append_right _ (List.mem_cons_of_mem _ hz))
       exact (prB_spec (hpl.1 z hz) ho (oy := ops[z.i]) (by simp [hlt])).1 (hpx.symm.trans e)
      ·exact hA q (List.mem_append_right _ hq)
  ·intro z hz
   refine h.rng z ?_
   rcases List.mem_append.1 hz with hz | hz
   ·exact List.mem_append_left _ hz
   ·exact List.mem_append_right _ (List.mem_cons_of_mem _ hz)
  ·obtain ⟨z, oz, hz, he, _⟩ := hinl q hq
   exact ⟨⟨z, hz, he⟩, (h.inA q (hmem q hq)).2⟩
  ·rw [hU]
   rcases h.en z (List.mem_cons_of_mem _ hz) oz hoz hnz with ⟨g1, g2⟩ | g1
   ·exact .inl ⟨g1, g2.tail⟩
   ·simp only [enOK, ho, Bool.or_eq_true, Bool.and_eq_true] at g1
    rcases g1.2 with ⟨g2, g3⟩ | g2
    ·have hnl := NL.of g3
     refine .inl ⟨?_, hnl⟩
     obtain ⟨oy, h1, h2, h2c⟩ := en_get hen henc z.i (by simpa using g2)
     have hE : EN P ops (a'.put o.dst p.u) z.i := fun o' ho' wr => by
      rw [h1] at ho'; cases ho'
      exact new_run h2 h2c k2 wr
     rw [← hU]
     refine hE.alike fun oy' hy' => ⟨alike_fill _ _ fun q' hq' => ?_, hsel _ _ hy'⟩
     obtain ⟨q, hq, rfl⟩ := List.mem_map.1 hq'
     obtain ⟨z', oz', hz', he', h1', _⟩ := hinl q hq
     show ∀ t, dstOf ops q.i = some t → _
     rw [dstOf_eq h1']
     exact hnl z' hz' oz' oy' (by rw [he']; exact h1') hy'
    ·exact .inr g2
end
end Go.Sx


namespace Go.Sx
open Go Go.RowKit
theorem getD_both {L : Array Bool} {n i : Nat} (h : L.size = n) (hi : i < n) {b c : Bool} : L.getD i b = L.getD i c := by
 simp [Array.getD_eq_getD_getElem?, show i < L.size by omega]
theorem set_self {L : Array Bool} {i : Nat} (h : i < L.size) (b : Bool) : (L.setIfInBounds i true).getD i b = true := by simp [Array.getD_eq_getD_getElem?, h]
theorem set_other {L : Array Bool} {i j : Nat} (h : j ≠ i) (b : Bool) : (L.setIfInBounds i true).getD j b = L.getD j b := by
 simp [Array.getD_eq_getD_getElem?, Array.getElem?_setIfInBounds_ne (fun e => h e.symm)]
theorem set_mono {L : Array Bool} {i j : Nat} {n : Nat} (hs : L.size = n) (hi : i < n) (h : L.getD j false = true) : (L.setIfInBounds i true).getD j false = true := by
 by_cases e : j = i
 ·subst e; exact set_self (by omega) _
 ·rw [set_other e]; exact h
theorem down_set {ops : Array Oper} {L : Array Bool} {i : Nat} (hs : L.size = ops.size) (hi : i < ops.size) (h : Down ops L) (hr : Rdy ops L i) : Down ops (L.setIfInBounds i true) := fun y o ho hy e he hb => by
 refine set_mono hs hi ?_
 by_cases hyi : y = i
 ·subst hyi; exact hr o ho e he hb
 ·rw [set_other hyi] at hy; exact h y o ho hy e he hb
section
variable {P : Program} {ops : Array Oper} {w w0 w' w1 : World} {R R0 R' : Rp} {M0 : List (Option Blk)} {s : St} {a a' : Act} {K : St → Prop} {L : Array Bool} {F : List FE} {A : List AE} {l : Ord} {m : Memo} {x : Ent}
theorem Pend.split {e : FE} {F2 : List FE} : ∀ {F1 : List FE} {a : Act}, Pend P ops (F1 ++ e :: F2) a w → Stable P ops e (fill ops (F1.map FE.p) a) w
 | [], _, h => h.1
 | _ :: F1, _, h => Pend.split (F1 := F1) h.2
theorem Pend.remove {e : FE} {F2 : List FE} : ∀ {F1 : List FE} {a : Act}, Pend P ops (F1 ++ e :: F2) a w → (∀ f ∈ F1, Ne (dstOf ops f.ent.i) (dstOf ops e.ent.i)) → (∀ f ∈ F1, ∀ o, ops[f.ent.i]? = some o → notSel o.op = true ∧ ∀ t, dstOf ops e.ent.i = some t → t ∉ o.looksAt ops) →
  Pend P ops (F1 ++ F2) (a.put (dstOf ops e.ent.i) e.v) w
 | [], _, h, _, _ => h.2
 | f :: F1, a, h, h1, h2 => by
  refine ⟨h.1.alike fun o ho => ⟨alike_put (h2 f (List.mem_cons_self ..) o ho).2, (h2 f (List.mem_cons_self ..) o ho).1⟩, ?_⟩
  rw [Act.put_comm a e.v f.v (h1 f (List.mem_cons_self ..)).symm]
  exact Pend.remove (F1 := F1) h.2 (fun g hg => h1 g (List.mem_cons_of_mem _ hg)) (fun g hg => h2 g (List.mem_cons_of_mem _ hg))
theorem RI.unF (h : RI P ops K w0 R0 M0 L a w F A l m s R a') {e : FE} (he : e ∈ F) : e.ent.i < ops.size ∧ L.getD e.ent.i true = false := by
 have hlt := h.rng e.ent (List.mem_append_left _ (List.mem_map_of_mem he))
 exact ⟨hlt, (h.cover _ hlt).2 (.inl ⟨e, he, rfl⟩)⟩
theorem RI.exec (hlow : lowB 0 ops.toList = true) (hsel : ∀ (i : Nat) o, ops[i]? = some o → notSel o.op = true) (h : RI P ops K w0 R0 M0 L a w F A l m s R a') {e : FE} (he : e ∈ F) (hr : Rdy ops L e.ent.i) :
  ∃ o, ops[e.ent.i]? = some o ∧ ((Region.wanted o (yielded ops a.tmps) = true ∧ (execOp a.eval o).run P w = .ok (.value e.v) w) ∨ (Region.wanted o (yielded ops a.tmps) = false ∧ e.v = undef)) ∧
   ∃ F', RI P ops K w0 R0 M0 (L.setIfInBounds e.ent.i true) (a.put o.dst e.v) w F' A l m s R a' := by
 obtain ⟨hlt, hun⟩ := h.unF he
 have ho : ops[e.ent.i]? = some ops[e.ent.i] := by simp [hlt]
 obtain ⟨F1, F2, rfl⟩ := List.append_of_mem he
 have hpw := h.pw
 have hF1 : ∀ f ∈ F1, ∃ of, ops[f.ent.i]? = some of ∧ Ne of.dst ops[e.ent.i].dst ∧ (∀ t, of.dst = some t → t ∉ ops[e.ent.i].looksAt ops) ∧ ∀ t, ops[e.ent.i].dst = some t → t ∉ of.looksAt ops := fun f hf => by
  have hfm : f ∈ F1 ++ e :: F2 := List.mem_append_left _ hf
  obtain ⟨hflt, hfun⟩ := h.unF hfm
  have hp : prB ops (closL [] ops.toList) f.ent e.ent = true := by
   rw [List.map_append, List.append_assoc] at hpw
   exact (List.pairwise_append.1 hpw).2.2 f.ent (List.mem_map_of_mem hf) e.ent (by simp)
  have hof : ops[f.ent.i]? = some ops[f.ent.i] := by simp [hflt]
  obtain ⟨_, h2, _⟩ := prB_spec hp hof ho
  rcases h2 with h2 | ⟨h2, _⟩
  ·have := ordd_listed hlow h.down e.ent.i f.ent.i hlt h2 hr
   rw [getD_both h.size hflt (c := true), hfun] at this
   cases this
  ·obtain ⟨g1, g2, g3⟩ := Oper.apart_spec h2
   exact ⟨_, hof, g2, g1, g3⟩
 have hst : Stable P ops e a w := (Pend.split h.pend).alike fun o' ho' => by
  rw [ho] at ho'
  cases ho'
  refine ⟨(alike_fill _ _ fun q hq => ?_).symm, hsel _ _ ho⟩
  obtain ⟨f, hf, rfl⟩ := List.mem_map.1 hq
  obtain ⟨of, g1, _, g3, _⟩ := hF1 f hf
  show ∀ t, dstOf ops f.ent.i = some t → _
  rw [dstOf_eq g1]; exact g3
 have hd : dstOf ops e.ent.i = ops[e.ent.i].dst := dstOf_eq ho
 have hmem : ∀ f, f ∈ F1 ++ F2 → f ∈ F1 ++ e :: F2 := fun q hq => by simp at hq ⊢; rcases hq with hq | hq <;> simp [hq]
 have hnd : ∀ f, f ∈ F1 ++ F2 → f.ent.i ≠ e.ent.i := fun f hf hfe => by
  rw [List.map_append, List.append_assoc, List.map_cons] at hpw
  have hp := List.pairwise_append.1 hpw
  rcases List.mem_append.1 hf with hf | hf
  ·have hfm : f ∈ F1 ++ e :: F2 := List.mem_append_left _ hf
   have := hp.2.2 f.ent (List.mem_map_of_mem hf) e.ent (by simp)
   exact (prB_spec this (ox := ops[f.ent.i]'(h.unF hfm).1) (by simp [(h.unF hfm).1]) ho).1 hfe
  ·have hfm : f ∈ F1 ++ e :: F2 := List.mem_append_right _ (List.mem_cons_of_mem _ hf)
   have := (List.pairwise_cons.1 hp.2.1).1 f.ent (List.mem_append_left _ (List.mem_map_of_mem hf))
   exact (prB_spec this ho (oy := ops[f.ent.i]'(h.unF hfm).1) (by simp [(h.unF hfm).1])).1 hfe.symm
 have hnl : ∀ z ∈ l, z.i ≠ e.ent.i := fun z hz hze => by
  have hlt' := h.rng z (List.mem_append_right _ hz)
  exact (prB_spec (h.pF e he z hz) ho (oy := ops[z.i]) (by simp [hlt'])).1 hze.symm
 refine ⟨_, ho, ?_, F1 ++ F2, ⟨by simpa using h.size, down_set h.size hlt h.down hr, ?_, ?_, h.conc, fun f hf => h.feok f (hmem f hf), h.held, h.body, ?_, fun j hj => ?_, fun z hz => h.rng z ?_, fun f hf => h.qF f (hmem f hf), h.inA, h.ndA, h.en⟩⟩
 ·obtain ⟨o', ho', hs⟩ := hst
  rw [ho] at ho'
  cases ho'
  exact hs.imp (fun ⟨g1, g2⟩ => ⟨g1, g2 w fun _ _ => .inl rfl⟩) id
 ·rw [← h.rel, List.map_append, List.map_append, fill_app, fill_app, fill_put]
  ·rw [← hd]; rfl
  ·intro q hq
   obtain ⟨f, hf, rfl⟩ := List.mem_map.1 hq
   obtain ⟨of, g1, g2, _⟩ := hF1 f hf
   rw [dstOf_eq g1]; exact g2
 ·rw [← hd]
  refine Pend.remove h.pend (fun f hf => ?_) (fun f hf o' ho' => ⟨hsel _ _ ho', ?_⟩)
  ·obtain ⟨of, g1, g2, _⟩ := hF1 f hf
   rw [dstOf_eq g1, hd]; exact g2
  ·obtain ⟨of, g1, _, _, g4⟩ := hF1 f hf
   rw [g1] at ho'; cases ho'
   rw [hd]; exact g4
 ·refine h.pw.sublist (List.Sublist.append (List.Sublist.map _ ?_) (List.Sublist.refl _))
  exact List.Sublist.append (List.Sublist.refl _) (List.sublist_cons_self _ _)
 ·by_cases hje : j = e.ent.i
  ·subst hje
   rw [set_self (by rw [h.size]; exact hlt)]
   constructor
   ·intro hh; cases hh
   ·rintro (⟨f, hf, hfe⟩ | ⟨⟨z, hz, hze⟩, _⟩)
    ·exact (hnd f hf hfe).elim
    ·exact (hnl z hz hze).elim
  ·rw [set_other hje, h.cover j hj]
   constructor
   ·rintro (⟨f, hf, rfl⟩ | hh)
    ·refine .inl ⟨f, ?_, rfl⟩
     simp at hf ⊢
     rcases hf with hf | rfl | hf
     ·exact .inl hf
     ·exact (hje rfl).elim
     ·exact .inr hf
    ·exact .inr hh
   ·rintro (⟨f, hf, rfl⟩ | hh)
    ·exact .inl ⟨f, hmem f hf, rfl⟩
    ·exact .inr hh
 ·rcases List.mem_append.1 hz with hz | hz
  ·obtain ⟨f, hf, rfl⟩ := List.mem_map.1 hz
   exact List.mem_append_left _ (List.mem_map_of_mem (hmem f hf))
  ·exact List.mem_append_right _ hz
theorem RI.alikeF (hlow : lowB 0 ops.toList = true) (h : RI P ops K w0 R0 M0 L a w F A l m s R a') (hx : x ∈ l) {o : Oper} (ho : ops[x.i]? = some o) (hr : Rdy ops L x.i) :
  (∀ f ∈ F, ∃ of, ops[f.ent.i]? = some of ∧ Oper.apart ops of o = true ∧ (isNew o = true ∨ (Sx.quiet of.op = true ∧ (Sx.quiet o.op = true ∨ f.ent.i ∈ x.fl)))) := fun f hf => by
 obtain ⟨hflt, hfun⟩ := h.unF hf
 have hlt := h.rng x (List.mem_append_right _ hx)
 have hof : ops[f.ent.i]? = some ops[f.ent.i] := by simp [hflt]
 obtain ⟨_, h2, _⟩ := prB_spec (h.pF f hf x hx) hof ho
 rcases h2 with h2 | ⟨h2, h3⟩
 ·have := ordd_listed hlow h.down x.i f.ent.i hlt h2 hr
  rw [getD_both h.size hflt (c := true), hfun] at this
  cases this
 ·exact ⟨_, hof, h2, h3⟩
theorem RI.early (hlow : lowB 0 ops.toList = true) (hsel : ∀ (i : Nat) o, ops[i]? = some o → notSel o.op = true) (h : RI P ops K w0 R0 M0 L a w F A l m s R a') (hx : x ∈ l) {o : Oper} (ho : ops[x.i]? = some o) (hn : isNew o = true)
  (hun : L.getD x.i true = false) (hr : Rdy ops L x.i) (hE : EN P ops (fill ops (A.map AE.p) a') x.i) (hNL : NL ops l x.i) :
  ∃ u obj, (execOp a.eval o).run P w = .ok (.value u) (w.alloc obj) ∧ ∃ A', RI P ops K w0 R0 M0 (L.setIfInBounds x.i true) (a.put o.dst u) (w.alloc obj) F A' l m s R a' := by
 have hlt := h.rng x (List.mem_append_right _ hx)
 have hF := h.alikeF hlow hx ho hr
 have hpA : ∀ p ∈ A, p.i ≠ x.i := fun p hp e => by
  rcases (h.cover x.i hlt).1 hun with ⟨f, hf, hfe⟩ | ⟨_, hA⟩
  ·have hflt := (h.unF hf).1
   exact (prB_spec (h.pF f hf x hx) (ox := ops[f.ent.i]) (by simp [hflt]) ho).1 hfe
  ·exact hA p hp e
 have hal : Alike ops o a (fill ops (A.map AE.p) a') := by
  rw [← h.rel]
  refine (alike_fill _ _ fun q hq => ?_).symm
  obtain ⟨f, hf, rfl⟩ := List.mem_map.1 hq
  obtain ⟨of, g1, g2, _⟩ := hF f hf
  show ∀ t, dstOf ops f.ent.i = some t → _
  rw [dstOf_eq g1]; exact (Oper.apart_spec g2).1
 obtain ⟨u, obj, hrun⟩ := hE o ho w
 have hd : dstOf ops x.i = o.dst := dstOf_eq ho
 refine ⟨u, obj, by rw [hal.run (hsel _ _ ho)]; exact hrun, A ++ [⟨x.i, u, w, w.alloc obj⟩], ?_⟩
 have hbel : Below w.heap.size w (w.alloc obj) := ⟨rfl, rfl, rfl, by simp, fun b hb => Below.heap_alloc w _ b hb⟩
 have hU : fill ops ((A ++ [(⟨x.i, u, w, w.alloc obj⟩ : AE)]).map AE.p) a' = (fill ops (A.map AE.p) a').put o.dst u := by
  rw [List.map_append, fill_app]
  show (fill ops (A.map AE.p) a').put (dstOf ops x.i) u = _
  rw [hd]
 have hbsz : ∀ e ∈ F, ∀ b, e.B b → Agr e.N w (w.alloc obj) b := fun e he b hb => .inl (hbel.block b ((h.feok e he).1 b hb))
 have hput : ∀ y oy, ops[y]? = some oy → NL ops l y → Alike ops oy ((fill ops (A.map AE.p) a').put o.dst u) (fill ops (A.map AE.p) a') ∧ notSel oy.op = true := fun y oy hy hnl => ⟨alike_put (hnl x hx o oy ho hy), hsel _ _ hy⟩
 have hsz : (w.alloc obj).heap.size = w.heap.size + 1 := by simp
 have hUnk : ∀ g, Unk w R s.mem g → Unk (w.alloc obj) R s.mem g := fun g hg => ⟨by rw [hsz]; exact Nat.lt_succ_of_lt hg.1, hg.2⟩
 refine ⟨by simpa using h.size, down_set h.size hlt h.down hr, ?_, ?_, h.conc.same hbel, fun e he => (h.feok e he).move (by rw [hsz]; omega) (Nat.le_refl _) (fun _ _ _ h => h) (fun _ h => h), fun p hp => ?_, h.body, h.pw, fun j hj => ?_, h.rng, h.qF, fun p hp => ?_, ?_, fun z hz oz hoz hnz => ?_⟩
 ·rw [hU, fill_put, h.rel]
  intro q hq
  obtain ⟨f, hf, rfl⟩ := List.mem_map.1 hq
  obtain ⟨of, g1, g2, _⟩ := hF f hf
  rw [dstOf_eq g1]; exact (Oper.apart_spec g2).2.1
 ·refine (h.pend.put (fun f hf => ?_) fun f hf o' ho' => ⟨hsel _ _ ho', ?_⟩).world hbsz
  ·obtain ⟨of, g1, g2, _⟩ := hF f hf
   rw [dstOf_eq g1]; exact (Oper.apart_spec g2).2.1
  ·obtain ⟨of, g1, g2, _⟩ := hF f hf
   rw [g1] at ho'; cases ho'
   exact (Oper.apart_spec g2).2.2
 ·rw [hU]
  rcases List.mem_append.1 hp with hp | hp
  ·have hh := h.held p hp
   refine ⟨fun oy hy => ?_, ?_, hUnk _ hh.unk, hh.old, hh.nl⟩
   ·obtain ⟨k1, k2⟩ := hput p.i oy hy hh.nl
    rw [k1.run k2]; exact hh.run oy hy
   ·rw [hbel.block _ hh.unk.1]; exact hh.heap
  ·simp at hp
   subst hp
   refine ⟨fun oy hy => ?_, rfl, ⟨by rw [hsz]; exact Nat.lt_succ_self _, fun hi => ?_, fun hj => ?_, ?_⟩, h.conc.fr.size, hNL⟩
   ·obtain ⟨k1, k2⟩ := hput x.i oy hy hNL
    rw [k1.run k2]
    rw [show (⟨x.i, u, w, w.alloc obj⟩ : AE).i = x.i from rfl, ho] at hy
    cases hy
    exact hrun
   ·exact Nat.lt_irrefl _ (h.conc.fr.ok.lt _ (.inl hi))
   ·exact Nat.lt_irrefl _ (h.conc.fr.ok.lt _ (.inr hj))
   ·rintro ⟨id, ⟨b, hb⟩, he⟩
    exact Nat.lt_irrefl _ ((h.conc.fr.ok.rep id b hb).own_lt he)
 ·by_cases hje : j = x.i
  ·subst hje
   rw [set_self (by rw [h.size]; exact hlt)]
   constructor
   ·intro hh; cases hh
   ·rintro (⟨f, hf, hfe⟩ | ⟨_, hA⟩)
    ·have hflt := (h.unF hf).1
     exact ((prB_spec (h.pF f hf x hx) (ox := ops[f.ent.i]) (by simp [hflt]) ho).1 hfe).elim
    ·exact (hA _ (List.mem_append_right _ (List.mem_singleton.2 rfl)) rfl).elim
  ·rw [set_other hje, h.cover j hj]
   constructor
   ·rintro (hh | ⟨h1, h2⟩)
    ·exact .inl hh
    ·refine .inr ⟨h1, fun p hp => ?_⟩
     rcases List.mem_append.1 hp with hp | hp
     ·exact h2 p hp
     ·simp at hp; subst hp; exact fun e => hje e.symm
   ·rintro (hh | ⟨h1, h2⟩)
    ·exact .inl hh
    ·exact .inr ⟨h1, fun p hp => h2 p (List.mem_append_left _ hp)⟩
 ·rcases List.mem_append.1 hp with hp | hp
  ·exact h.inA p hp
  ·simp at hp
   subst hp
   exact ⟨⟨x, hx, rfl⟩, fun o' ho' => by rw [show (⟨x.i, u, w, w.alloc obj⟩ : AE).i = x.i from rfl, ho] at ho'; cases ho'; exact hn⟩
 ·rw [List.pairwise_append]
  refine ⟨h.ndA, by simp, fun p hp q hq => ?_⟩
  simp at hq
  subst hq
  exact ⟨hpA p hp, fun e => Nat.lt_irrefl _ (e ▸ (h.held p hp).unk.1)⟩
 ·rw [hU]
  rcases h.en z hz oz hoz hnz with ⟨k1, k2⟩ | k1
  ·exact .inl ⟨k1.alike fun oy hy => hput _ _ hy k2, k2⟩
  ·exact .inr k1
end
end Go.Sx


namespace Go.Sx
open Go Go.RowKit
theorem regFl_get {m : Memo} : ∀ {l : List Nat}, regFl m l = true → ∀ i ∈ l, lookM i m = some .reg
 | [], _, i, hi => by simp at hi
 | j :: l, h, i, hi => by
  simp only [regFl, Bool.and_eq_true] at h
  rcases List.mem_cons.1 hi with rfl | hi
  ·have h1 := h.1
   split at h1
   ·assumption
   ·cases h1
  ·exact regFl_get h.2 i hi
theorem liveB_live {s : St} {id : Nat} (h : liveB s id = true) : live s.mem id := by
 unfold liveB at h
 split at h
 ·rename_i b hb; exact ⟨b, blk_eq hb⟩
 ·cases h
theorem floatsB_get {s : St} {m : Memo} {wr : Option Nat} : ∀ {l : List Nat}, floatsB s m (some wr) l = true → ∀ i ∈ l, ∃ d, lookM i m = some d ∧ match d with
  | .reg => True
  | .obj id => wr = none ∨ ∃ id', wr = some id' ∧ id ≠ id' ∧ live s.mem id ∧ live s.mem id'
  | .row id _ => wr = none ∨ ∃ id', wr = some id' ∧ id ≠ id' ∧ live s.mem id ∧ live s.mem id'
  | .lst => wr = none ∨ ∃ id', wr = some id' ∧ live s.mem id'
  | .all => wr = none
 | [], _, i, hi => by simp at hi
 | j :: l, h, i, hi => by
  simp only [floatsB, Bool.and_eq_true] at h
  rcases List.mem_cons.1 hi with rfl | hi
  ·have h1 := h.1
   cases hl : lookM i m with
   | none => rw [hl] at h1; cases h1
   | some d =>
    rw [hl] at h1
    refine ⟨d, rfl, ?_⟩
    cases d with
    | reg => trivial
    | obj id =>
     cases wr with
     | none => exact .inl rfl
     | some id' =>
      simp only [Bool.and_eq_true] at h1
      exact .inr ⟨id', rfl, fun e => by subst e; simp [apartId] at h1, liveB_live h1.1.2, liveB_live h1.2⟩
    | row id n =>
     cases wr with
     | none => exact .inl rfl
     | some id' =>
      simp only [Bool.and_eq_true] at h1
      exact .inr ⟨id', rfl, fun e => by subst e; simp [apartId] at h1, liveB_live h1.1.2, liveB_live h1.2⟩
    | lst =>
     cases wr with
     | none => exact .inl rfl
     | some id' => exact .inr ⟨id', rfl, liveB_live h1⟩
    | all =>
     cases wr with
     | none => rfl
     | some id' => cases h1
  ·exact floatsB_get h.2 i hi
theorem floatsS_get {s : St} {m : Memo} {sel : List Nat} : ∀ {l : List Nat}, floatsS s m sel l = true → ∀ i ∈ l, ∃ d, lookM i m = some d ∧ match d with
  | .reg => True
  | .obj id => id ∉ sel ∧ live s.mem id
  | .row id _ => id ∉ sel ∧ live s.mem id
  | .lst => True
  | .all => False
 | [], _, i, hi => by simp at hi
 | j :: l, h, i, hi => by
  simp only [floatsS, Bool.and_eq_true] at h
  rcases List.mem_cons.1 hi with rfl | hi
  ·have h1 := h.1
   cases hl : lookM i m with
   | none => rw [hl] at h1; cases h1
   | some d =>
    rw [hl] at h1
    refine ⟨d, rfl, ?_⟩
    cases d with
    | reg => trivial
    | obj id =>
     simp only [Bool.and_eq_true] at h1
     refine ⟨?_, liveB_live h1.2⟩
     cases hx : idx sel id with
     | none => exact idx_none hx
     | some n => rw [hx] at h1; exact absurd h1.1 (by simp)
    | row id _ =>
     simp only [Bool.and_eq_true] at h1
     refine ⟨?_, liveB_live h1.2⟩
     cases hx : idx sel id with
     | none => exact idx_none hx
     | some n => rw [hx] at h1; exact absurd h1.1 (by simp)
    | lst => trivial
    | all => cases h1
  ·exact floatsS_get h.2 i hi
theorem floatsR_get {s : St} {m : Memo} {sel : List Nat} : ∀ {l : List Nat}, floatsR s m sel l → ∀ i ∈ l, ∃ d, lookM i m = some d ∧ match d with
  | .reg => True
  | .obj id => id ∉ sel ∧ live s.mem id
  | .row id n => (id ∉ sel ∧ live s.mem id) ∨ ∃ e al ks a, id ∈ sel ∧ s.blk id = some (.row e al ks a) ∧ scalK ks = true ∧ n ≤ a.length * ks.length
  | .lst => True
  | .all => False
 | [], _, i, hi => by simp at hi
 | j :: l, h, i, hi => by
  simp only [floatsR] at h
  rcases List.mem_cons.1 hi with rfl | hi
  ·have h1 := h.1
   cases hl : lookM i m with
   | none => rw [hl] at h1; exact h1.elim
   | some d =>
    rw [hl] at h1
    refine ⟨d, rfl, ?_⟩
    cases d with
    | reg => trivial
    | obj id =>
     simp only [Bool.and_eq_true] at h1
     refine ⟨?_, liveB_live h1.2⟩
     cases hx : idx sel id with
     | none => exact idx_none hx
     | some n => rw [hx] at h1; exact absurd h1.1 (by simp)
    | row id n =>
     simp only at h1
     cases hx : idx sel id with
     | none =>
      rw [hx] at h1
      exact .inl ⟨idx_none hx, liveB_live h1⟩
     | some q =>
      rw [hx] at h1
      simp only at h1
      by_cases hin : id ∈ sel
      ·split at h1
       ·rename_i e al ks a hb
        split at h1
        ·rename_i hsc
         exact .inr ⟨_, _, _, _, hin, hb, hsc, h1⟩
        ·exact h1.elim
       ·exact h1.elim
      ·split at h1
       ·rename_i e al ks a hb
        exact .inl ⟨hin, ⟨_, blk_eq hb⟩⟩
       ·exact h1.elim
    | lst => trivial
    | all => exact h1.elim
  ·exact floatsR_get h.2 i hi
theorem writes_wr {s : St} {op : Op} {r : Option Nat} (h : writesId s op = some r) : wrId s op = r ∧ isCall op = false := by
 unfold writesId at h
 split at h
 ·split at h
  ·rename_i hx; cases h; exact ⟨by simp [wrId, hx, idOf], rfl⟩
  ·rename_i hx; cases h; exact ⟨by simp [wrId, hx, idOf], rfl⟩
  ·rename_i hx; cases h; exact ⟨by simp [wrId, hx, idOf], rfl⟩
  ·cases h
 ·cases h; exact ⟨rfl, rfl⟩
 ·cases h; exact ⟨rfl, rfl⟩
 ·cases h; exact ⟨rfl, rfl⟩
 ·rename_i c
  split at h
  ·rename_i hc
   split at h
   ·rename_i x l hx
    split at h
    ·rename_i ho; cases h; exact ⟨by simp [wrId, hc, hx, ho, idOf], by simp [isCall, hc]⟩
    ·rename_i ho; cases h; exact ⟨by simp [wrId, hc, hx, ho, idOf], by simp [isCall, hc]⟩
    ·cases h
   ·cases h
  ·cases h
 ·cases h
theorem filt_lt {p q : Nat → Bool} : ∀ (l : List Nat), (∀ j ∈ l, q j = true → p j = true) → (∃ i ∈ l, p i = true ∧ q i = false) → (l.filter q).length < (l.filter p).length
 | [], _, ⟨i, hi, _⟩ => by simp at hi
 | x :: l, h, ⟨i, hi, h1, h2⟩ => by
  have hle : (l.filter q).length ≤ (l.filter p).length := by
   clear h1 h2 hi
   have h' : ∀ j ∈ l, q j = true → p j = true := fun j hj => h j (List.mem_cons_of_mem _ hj)
   clear h
   induction l with
   | nil => simp
   | cons y l ih =>
    have ih := ih (fun j hj => h' j (List.mem_cons_of_mem _ hj))
    have hy := h' y (List.mem_cons_self ..)
    rw [List.filter_cons, List.filter_cons]
    by_cases hq : q y = true
    ·rw [if_pos hq, if_pos (hy hq)]; simp; exact ih
    ·rw [if_neg hq]
     split
     ·simp; omega
     ·exact ih
  rw [List.filter_cons, List.filter_cons]
  rcases List.mem_cons.1 hi with rfl | hi
  ·rw [if_neg (by rw [h2]; simp), if_pos h1]; simp; omega
  ·have := filt_lt l (fun j hj => h j (List.mem_cons_of_mem _ hj)) ⟨i, hi, h1, h2⟩
   have hx := h x (List.mem_cons_self ..)
   by_cases hq : q x = true
   ·rw [if_pos hq, if_pos (hx hq)]; simp; exact this
   ·rw [if_neg hq]
    split
    ·simp; omega
    ·exact this
section
variable {P : Program} {ops : Array Oper} {w w0 w' w1 : World} {R R0 R' : Rp} {M0 : List (Option Blk)} {s : St} {a a' : Act} {K : St → Prop} {L : Array Bool} {F : List FE} {A : List AE} {l : Ord} {m : Memo} {x : Ent}
def AnyRI (P : Program) (ops : Array Oper) (K : St → Prop) (w0 : World) (R0 : Rp) (M0 : List (Option Blk)) (L : Array Bool) (a : Act) (w : World) : Prop := ∃ F A l m s R a', RI P ops K w0 R0 M0 L a w F A l m s R a'
theorem RI.after (hlow : lowB 0 ops.toList = true) (hsel : ∀ (i : Nat) o, ops[i]? = some o → notSel o.op = true) (h : RI P ops K w0 R0 M0 L a w F A (x :: l) m s R a') {o : Oper} (ho : ops[x.i]? = some o) (_hq : quiet o.op = false) (hn : isNew o = false)
  (hr : Rdy ops L x.i) {u : Value} {s2 : St} {R2 : Rp} (hC : Conc w0 R0 M0 s2 R2 (a'.put o.dst u) w1) (hsz : w.heap.size ≤ w1.heap.size) (hB : ∀ f ∈ F, ∀ b, f.B b → Agr f.N w w1 b)
  (hN : R.n ≤ R2.n) (hν : ∀ id, id < R.n → ∀ b, R.own id b → R2.own id b) (hij : ∀ b, R.I b ∨ R.J b → R2.I b ∨ R2.J b) (hunk : ∀ g, Unk w R s.mem g → Unk w1 R2 s2.mem g ∧ w1.heap[g]? = w.heap[g]?)
  (hk : enVC P ops.toList s2 x.en (aopsR P ops.toList l m s2 K)) : AnyRI P ops K w0 R0 M0 (L.setIfInBounds x.i true) (a.put o.dst u) w1 := by
 have hlt := h.rng x (List.mem_append_right _ (List.mem_cons_self ..))
 have hF := h.alikeF hlow (List.mem_cons_self ..) ho hr
 have hpl := List.pairwise_cons.1 h.pl
 have hxA : ∀ p ∈ A, ∃ z oz, z ∈ l ∧ z.i = p.i ∧ ops[p.i]? = some oz ∧ isNew oz = true ∧ Ne oz.dst o.dst ∧ ∀ t, oz.dst = some t → t ∉ o.looksAt ops := fun p hp => by
  obtain ⟨z, oz, hz, he, h1, h2⟩ := h.inl hp
  rcases List.mem_cons.1 hz with rfl | hz
  ·rw [he, h1] at ho
   cases ho
   rw [h2] at hn
   cases hn
  ·have hs := prB_spec (hpl.1 z hz) ho (by rw [he]; exact h1)
   exact ⟨z, oz, hz, he, h1, h2, (hs.2.2.1 (.inr h2)).symm, hs.2.2.2 h2⟩
 have hd : dstOf ops x.i = o.dst := dstOf_eq ho
 have hU : fill ops (A.map AE.p) (a'.put o.dst u) = (fill ops (A.map AE.p) a').put o.dst u := fill_put _ _ fun p hp => by
  obtain ⟨q, hq, rfl⟩ := List.mem_map.1 hp
  obtain ⟨z, oz, _, _, h1, _, h3, _⟩ := hxA q hq
  rw [dstOf_eq h1]; exact h3
 have hal : ∀ U : Act, ∀ y oy, ops[y]? = some oy → NL ops (x :: l) y → Alike ops oy (U.put o.dst u) U ∧ notSel oy.op = true := fun U y oy hy hn => ⟨alike_put (hn x (List.mem_cons_self ..) o oy ho hy), hsel _ _ hy⟩
 obtain ⟨hen, henc, hk⟩ := enVC_elim hk
 ·skip
  refine ⟨F, A, l, m, s2, R2, a'.put o.dst u, by simpa using h.size, down_set h.size hlt h.down hr, ?_, ?_, hC, fun e he => (h.feok e he).move hsz hN hν hij, fun p hp => ?_, hk, ?_, fun j hj => ?_, fun z hz => h.rng z ?_, h.qF, fun p hp => ?_, h.ndA, fun z hz oz hoz hnz => ?_⟩
  ·rw [hU, fill_put, h.rel]
   intro q hq'
   obtain ⟨f, hf, rfl⟩ := List.mem_map.1 hq'
   obtain ⟨of, g1, g2, _⟩ := hF f hf
   rw [dstOf_eq g1]; exact (Oper.apart_spec g2).2.1
  ·refine (h.pend.put (fun f hf => ?_) fun f hf o' ho' => ⟨hsel _ _ ho', ?_⟩).world hB
   ·obtain ⟨of, g1, g2, _⟩ := hF f hf
    rw [dstOf_eq g1]; exact (Oper.apart_spec g2).2.1
   ·obtain ⟨of, g1, g2, _⟩ := hF f hf
    rw [g1] at ho'; cases ho'
    exact (Oper.apart_spec g2).2.2
  ·have hh := h.held p hp
   obtain ⟨u1, u2⟩ := hunk _ hh.unk
   refine ⟨fun oy hy => ?_, u2.trans hh.heap, u1, hh.old, hh.nl.tail⟩
   obtain ⟨k1, k2⟩ := hal (fill ops (A.map AE.p) a') p.i oy hy hh.nl
   rw [hU, k1.run k2]
   exact hh.run oy hy
  ·exact h.pw.sublist (List.Sublist.append (List.Sublist.refl _) (List.sublist_cons_self _ _))
  ·by_cases hje : j = x.i
   ·subst hje
    rw [set_self (by rw [h.size]; exact hlt)]
    constructor
    ·intro hh; cases hh
    ·rintro (⟨f, hf, hfe⟩ | ⟨⟨z, hz, hze⟩, _⟩)
     ·have hflt := (h.unF hf).1
      exact ((prB_spec (h.pF f hf x (List.mem_cons_self ..)) (ox := ops[f.ent.i]) (by simp [hflt]) ho).1 hfe).elim
     ·have hzlt := h.rng z (List.mem_append_right _ (List.mem_cons_of_mem _ hz))
      exact ((prB_spec (hpl.1 z hz) ho (oy := ops[z.i]) (by simp [hzlt])).1 hze.symm).elim
   ·rw [set_other hje, h.cover j hj]
    constructor
    ·rintro (hh | ⟨⟨z, hz, rfl⟩, hA⟩)
     ·exact .inl hh
     ·rcases List.mem_cons.1 hz with rfl | hz
      ·exact (hje rfl).elim
      ·exact .inr ⟨⟨z, hz, rfl⟩, hA⟩
    ·rintro (hh | ⟨⟨z, hz, rfl⟩, hA⟩)
     ·exact .inl hh
     ·exact .inr ⟨⟨z, List.mem_cons_of_mem _ hz, rfl⟩, hA⟩
  ·rcases List.mem_append.1 hz with hz | hz
   ·exact List.mem_append_left _ hz
   ·exact List.mem_append_right _ (List.mem_cons_of_mem _ hz)
  ·obtain ⟨z, oz, hz, he, _⟩ := hxA p hp
   exact ⟨⟨z, hz, he⟩, (h.inA p hp).2⟩
  ·rcases h.en z (List.mem_cons_of_mem _ hz) oz hoz hnz with ⟨k1, k2⟩ | k1
   ·refine .inl ⟨?_, k2.tail⟩
    rw [hU]
    exact k1.alike fun oy hy => hal _ _ _ hy k2
   ·simp only [enOK, ho, Bool.or_eq_true, Bool.and_eq_true] at k1
    rcases k1.2 with ⟨k1, k2⟩ | k1
    ·have hnl := NL.of k2
     refine .inl ⟨?_, hnl⟩
     obtain ⟨oy, h1, h2, h2c⟩ := en_get hen henc z.i (by simpa using k1)
     have hE : EN P ops (a'.put o.dst u) z.i := fun o' ho' wr => by
      rw [h1] at ho'; cases ho'
      exact new_run h2 h2c hC wr
     refine hE.alike fun oy' hy' => ⟨alike_fill _ _ fun p hp => ?_, hsel _ _ hy'⟩
     obtain ⟨q, hq', rfl⟩ := List.mem_map.1 hp
     obtain ⟨z', oz', hz', he', h1', _⟩ := hxA q hq'
     show ∀ t, dstOf ops q.i = some t → _
     rw [dstOf_eq h1']
     exact hnl z' hz' oz' oy' (by rw [he']; exact h1') hy'
    ·exact .inr k1
theorem RI.eff (hlow : lowB 0 ops.toList = true) (hsel : ∀ (i : Nat) o, ops[i]? = some o → notSel o.op = true) (ro : Option Nat) (h : RI P ops K w0 R0 M0 L a w F A (x :: l) m s R a') {o : Oper} (ho : ops[x.i]? = some o) (hq : quiet o.op = false) (hn : isNew o = false)
  (hr : Rdy ops L x.i) (Q : Exit → Act → World → Prop) :
  (Region.wanted o (yielded ops a.tmps) = true ∧ o.wpIn (Fo ro) 0 P a w (fun a1 w1 => AnyRI P ops K w0 R0 M0 (L.setIfInBounds x.i true) a1 w1) Q) ∨
  (Region.wanted o (yielded ops a.tmps) = false ∧ AnyRI P ops K w0 R0 M0 (L.setIfInBounds x.i true) (a.put o.dst undef) w) := by
 have hF := h.alikeF hlow (List.mem_cons_self ..) ho hr
 have hpl := List.pairwise_cons.1 h.pl
 have hal : Alike ops o a a' := by
  refine Alike.trans (b := fill ops (F.map FE.p) a) (alike_fill _ _ fun q hq => ?_).symm ?_
  ·obtain ⟨f, hf, rfl⟩ := List.mem_map.1 hq
   obtain ⟨of, g1, g2, _⟩ := hF f hf
   show ∀ t, dstOf ops f.ent.i = some t → _
   rw [dstOf_eq g1]; exact (Oper.apart_spec g2).1
  ·rw [h.rel]
   refine alike_fill _ _ fun q' hq' => ?_
   obtain ⟨q, hqA, rfl⟩ := List.mem_map.1 hq'
   obtain ⟨z, oz, hz, he, h1, h2⟩ := h.inl hqA
   show ∀ t, dstOf ops q.i = some t → _
   rw [dstOf_eq h1]
   rcases List.mem_cons.1 hz with rfl | hz
   ·rw [he, h1] at ho; cases ho; rw [h2] at hn; cases hn
   ·exact (prB_spec (hpl.1 z hz) ho (by rw [he]; exact h1)).2.2.2 h2
 have hsza : a.tmps.size = a'.tmps.size := by
  have := congrArg (fun a => a.tmps.size) h.rel
  simpa [fill_size] using this
 have hfl : ∀ f ∈ F, f.ent.i ∈ x.fl := fun f hf => by
  obtain ⟨of, _, _, g3⟩ := hF f hf
  rcases g3 with g3 | ⟨_, g3 | g3⟩
  ·rw [hn] at g3; cases g3
  ·rw [hq] at g3; cases g3
  ·exact g3
 have hns := hsel _ _ ho
 have hdf : ∀ c, o.op ≠ .defer c := fun c e => by rw [e] at hns; cases hns
 have hse : ∀ cs b, o.op ≠ .select cs b := fun cs b e => by rw [e] at hns; cases hns
 have hb := h.body
 obtain ⟨i, fl, en⟩ := x
 rw [aopsR_cons, stepR, show getL ops.toList i = some o from by rw [getL_eq]; simpa using ho] at hb
 simp only [hq] at hb
 obtain ⟨s1, hC1, hw, hm1⟩ := wantedA_ok hb h.conc
 rw [hal.wa]
 rcases hw with ⟨hwt, hk⟩ | ⟨hwt, hk⟩
 ·refine .inl ⟨hwt, ?_⟩
  have fin : ∀ (u : Value) (w1 : World) (ft : World → Prop), (ft w1 → ∀ f ∈ F, ∀ b, f.B b → Agr f.N w w1 b) → Eff (fun s'' => enVC P ops.toList s'' en (aopsR P ops.toList l m s'' K)) w0 R0 M0 s1 R a' w o ft u w1 → AnyRI P ops K w0 R0 M0 (L.setIfInBounds i true) (a.put o.dst u) w1 := by
   rintro u w1 ft hft ⟨s2, R2, k1, k2, k3, k4⟩
   rw [hm1] at k3
   refine h.after hlow hsel ho hq hn hr k2 k3.size (hft k4) ?_ ?_ ?_ (fun g hg => Unk.fr k3 hg) k1
   ·show R.n ≤ R2.n
    rw [h.conc.fr.ok.n]; exact k3.kn
   ·exact fun id hid b hb => own_mono (k3.ν id (by rw [← h.conc.fr.ok.n]; exact hid)) (k3.f id (by rw [← h.conc.fr.ok.n]; exact hid)) hb
   ·exact fun b hb => hb.imp (k3.i b).2 .inr
  have mono : ∀ (ft : World → Prop), (∀ w1, ft w1 → ∀ f ∈ F, ∀ b, f.B b → Agr f.N w w1 b) → o.wpIn (Fo ro) 0 P a w (fun a1 w1 => ∃ u, a1 = a.put o.dst u ∧ Eff (fun s'' => enVC P ops.toList s'' en (aopsR P ops.toList l m s'' K)) w0 R0 M0 s1 R a' w o ft u w1) Q → o.wpIn (Fo ro) 0 P a w (fun a1 w1 => AnyRI P ops K w0 R0 M0 (L.setIfInBounds i true) a1 w1) Q := fun ft hft hh =>
   Oper.wpIn_mono (fun a1 w1 ⟨u, he, hE⟩ => by subst he; exact fin u w1 ft (hft w1) hE) hh
  unfold aopF at hk
  rw [hn] at hk
  simp only at hk
  split at hk
  ·rename_i hreg
   refine mono _ (fun w1 _ f hf b hb => ?_) (aopX_ok ro hk hC1 hdf hse hsza hal.ev Q)
   obtain ⟨_, d, hd, hmd⟩ := h.feok f hf
   rw [regFl_get hreg _ (hfl f hf)] at hd
   cases hd
   exact (hmd b hb).elim
  ·split at hk
   ·rename_i c _ hop
    split at hk
    ·rename_i x hc
     split at hk
     ·rename_i f pre caps hcal
      obtain ⟨dst, op, ty, pos, af, gd⟩ := o
      simp only at hop
      subst hop
      refine mono _ (fun w1 hg f hf b hb => ?_) (callX_ok ro hcal hc hk hC1 hsza hal.ev Q)
      obtain ⟨sel, hlv, hsel', hg⟩ := hg
      rcases hsel' with rfl | hfs | ⟨hfs, hra⟩
      ·exact .inl (hg b ((h.feok f hf).1 b hb) fun id hid he => by simp at hid)
      rotate_left
      ·obtain ⟨_, d, hd, hmd⟩ := h.feok f hf
       obtain ⟨d', hd', hm'⟩ := floatsR_get hfs _ (hfl f hf)
       rw [hd] at hd'
       cases hd'
       cases d with
       | reg => exact (hmd b hb).elim
       | obj id0 => exact .inl (hg b ((h.feok f hf).1 b hb) fun id hid he => hm'.1 (hC1.fr.ok.sep _ _ b hm'.2 (hlv id hid) (hmd.2 b hb) he ▸ hid))
       | row id0 n =>
        rcases hm' with hm' | ⟨e, al, ks, ar, hin, hbk, hsc, hle⟩
        ·exact .inl (hg b ((h.feok f hf).1 b hb) fun id hid he => hm'.1 (hC1.fr.ok.sep _ _ b hm'.2 (hlv id hid) (hmd.2.1 b hb) he ▸ hid))
        ·rcases hra id0 hin e al ks ar hbk hsc b (hmd.2.1 b hb) with k1 | ⟨n1, e1, k1⟩
         ·exact .inl k1
         ·cases e1
          exact .inr ⟨n, hmd.2.2, fun j hj => k1 j (Nat.lt_of_lt_of_le hj hle)⟩
       | lst => exact .inl (hg b ((h.feok f hf).1 b hb) fun id hid he => by
         have := hC1.fr.ok.ij _ b (hlv id hid) he
         exact (hmd b hb).elim this.1 this.2)
       | all => exact hm'.elim
      refine .inl (hg b ((h.feok f hf).1 b hb) fun id hid he => ?_)
      obtain ⟨_, d, hd, hmd⟩ := h.feok f hf
      obtain ⟨d', hd', hm'⟩ := floatsS_get hfs _ (hfl f hf)
      rw [hd] at hd'
      cases hd'
      cases d with
      | reg => exact hmd b hb
      | row id0 n => exact hm'.1 (hC1.fr.ok.sep _ _ b hm'.2 (hlv id hid) (hmd.2.1 b hb) he ▸ hid)
      | obj id0 => exact hm'.1 (hC1.fr.ok.sep _ _ b hm'.2 (hlv id hid) (hmd.2 b hb) he ▸ hid)
      | lst =>
       have := hC1.fr.ok.ij _ b (hlv id hid) he
       exact (hmd b hb).elim this.1 this.2
      | all => exact hm'
     ·cases hk
    ·cases hk
   ·split at hk
    ·rename_i hfb
     cases hwr : writesId s1 o.op with
     | none =>
      rw [hwr] at hfb
      have hreg : regFl m fl = true := by
       have : ∀ l : List Nat, floatsB s1 m none l = true → regFl m l = true := by
        intro l
        induction l with
        | nil => intro _; rfl
        | cons j l ih =>
         intro hh
         simp only [floatsB, Bool.and_eq_true] at hh
         simp only [regFl, Bool.and_eq_true]
         refine ⟨?_, ih hh.2⟩
         have h1 := hh.1
         cases hl : lookM j m with
         | none => rw [hl] at h1; cases h1
         | some d => cases d <;> simp [hl] at h1 ⊢
       exact this fl hfb
      refine mono _ (fun w1 _ f hf b hb => ?_) (aopX_ok ro hk hC1 hdf hse hsza hal.ev Q)
      obtain ⟨_, d, hd, hmd⟩ := h.feok f hf
      rw [regFl_get hreg _ (hfl f hf)] at hd
      cases hd
      exact (hmd b hb).elim
     | some r =>
      rw [hwr] at hfb
      obtain ⟨hwr1, hnc⟩ := writes_wr hwr
      refine mono _ (fun w1 hft f hf b hb => ?_) (aopX_ok ro hk hC1 hdf hse hsza hal.ev Q)
      have hfoot := hft hnc
      rw [hwr1] at hfoot
      obtain ⟨hbs, d, hd, hmd⟩ := h.feok f hf
      obtain ⟨d', hd', hm'⟩ := floatsB_get hfb _ (hfl f hf)
      rw [hd] at hd'
      cases hd'
      refine .inl (hfoot b (hbs b hb) fun id hid he => ?_)
      cases d with
      | reg => exact hmd b hb
      | row id0 n =>
       rcases hm' with hm' | ⟨id', e1, e2, e3, e4⟩
       ·rw [hm'] at hid; cases hid
       ·rw [e1] at hid; cases hid
        exact e2 (hC1.fr.ok.sep _ _ b e3 e4 (hmd.2.1 b hb) he)
      | obj id0 =>
       rcases hm' with hm' | ⟨id', e1, e2, e3, e4⟩
       ·rw [hm'] at hid; cases hid
       ·rw [e1] at hid; cases hid
        exact e2 (hC1.fr.ok.sep _ _ b e3 e4 (hmd.2 b hb) he)
      | lst =>
       rcases hm' with hm' | ⟨id', e1, e2⟩
       ·rw [hm'] at hid; cases hid
       ·rw [e1] at hid; cases hid
        have := hC1.fr.ok.ij _ b e2 he
        exact (hmd b hb).elim this.1 this.2
      | all => rw [hm'] at hid; cases hid
    ·cases hk
 ·refine .inr ⟨hwt, ?_⟩
  obtain ⟨s2, ⟨k6, k7⟩, k8⟩ := hC1.put (v := .und) (u := undef) rfl (put_mem hk)
  refine h.after hlow hsel ho hq hn hr k8 (Nat.le_refl _) (fun _ _ _ _ => .inl rfl) (Nat.le_refl _) (fun _ _ _ h => h) (fun _ h => h) (fun g hg => ⟨?_, rfl⟩) k6
  rw [k7, hm1]; exact hg
end
end Go.Sx


namespace Go.Sx
open Go Go.RowKit
section
variable {P : Program} {ops : Array Oper} {w w0 w' w1 : World} {R R0 R' : Rp} {M0 : List (Option Blk)} {s : St} {a a' : Act} {K : St → Prop} {L : Array Bool} {F : List FE} {A : List AE} {l : Ord} {m : Memo} {x : Ent}
theorem RI.isA (h : RI P ops K w0 R0 M0 L a w F A l m s R a') (hx : x ∈ l) (hl : L.getD x.i false = true) : ∃ p ∈ A, p.i = x.i := by
 have hlt := h.rng x (List.mem_append_right _ hx)
 apply Classical.byContradiction
 intro hno
 have := (h.cover x.i hlt).2 (.inr ⟨⟨x, hx, rfl⟩, fun p hp e => hno ⟨p, hp, e⟩⟩)
 rw [getD_both h.size hlt (c := false), hl] at this
 cases this
theorem RI.reach (hlow : lowB 0 ops.toList = true) (hsel : ∀ (i : Nat) o, ops[i]? = some o → notSel o.op = true) {i : Nat} (hi : i < ops.size) {o : Oper} (ho : ops[i]? = some o) (hn : isNew o = false) (hun : L.getD i true = false) (hr : Rdy ops L i) :
  ∀ (l : Ord) (F : List FE) (A : List AE) (m : Memo) (s : St) (R : Rp) (a' : Act), RI P ops K w0 R0 M0 L a w F A l m s R a' →
   ∃ F A l m s R a', RI P ops K w0 R0 M0 L a w F A l m s R a' ∧ ((∃ e ∈ F, e.ent.i = i) ∨ (Sx.quiet o.op = false ∧ ∃ x l', l = x :: l' ∧ x.i = i))
 | [], F, A, m, s, R, a', h => by
  rcases (h.cover i hi).1 hun with hF | ⟨⟨z, hz, _⟩, _⟩
  ·exact ⟨F, A, [], m, s, R, a', h, .inl hF⟩
  ·simp at hz
 | x :: l, F, A, m, s, R, a', h => by
  rcases (h.cover i hi).1 hun with hF | ⟨⟨z, hz, hzi⟩, hA⟩
  ·exact ⟨F, A, x :: l, m, s, R, a', h, .inl hF⟩
  ·have hlt := h.rng x (List.mem_append_right _ (List.mem_cons_self ..))
   have hox : ops[x.i]? = some ops[x.i] := by simp [hlt]
   by_cases hxi : x.i = i
   ·cases hq : Sx.quiet o.op with
    | true =>
     obtain ⟨e, m', s', a'', h', he⟩ := h.goOn hsel (by rw [hxi]; exact ho) hq
     exact ⟨_, _, _, _, _, _, _, h', .inl ⟨e, List.mem_append_right _ (List.mem_singleton.2 rfl), by rw [he]; exact hxi⟩⟩
    | false => exact ⟨F, A, x :: l, m, s, R, a', h, .inr ⟨rfl, x, l, rfl, hxi⟩⟩
   ·have hzl : z ∈ l := by
     rcases List.mem_cons.1 hz with rfl | hz
     ·exact (hxi hzi).elim
     ·exact hz
    have hp := (List.pairwise_cons.1 h.pl).1 z hzl
    obtain ⟨_, h2, _⟩ := prB_spec hp hox (by rw [hzi]; exact ho)
    by_cases hlx : L.getD x.i false = true
    ·obtain ⟨p, hp, hpx⟩ := h.isA (List.mem_cons_self ..) hlx
     obtain ⟨A', s', R', a'', h'⟩ := h.adopt hsel hp hpx
     exact RI.reach hlow hsel hi ho hn hun hr l _ _ _ _ _ _ h'
    ·rcases h2 with h2 | ⟨_, h3 | ⟨h3, _⟩⟩
     ·rw [hzi] at h2
      exact (hlx (ordd_listed hlow h.down i x.i hi h2 hr)).elim
     ·rw [hn] at h3; cases h3
     ·obtain ⟨e, m', s', a'', h', _⟩ := h.goOn hsel hox h3
      exact RI.reach hlow hsel hi ho hn hun hr l _ _ _ _ _ _ h'
theorem RI.reachN (hlow : lowB 0 ops.toList = true) (hsel : ∀ (i : Nat) o, ops[i]? = some o → notSel o.op = true) {y : Nat} (hi : y < ops.size) {o : Oper} (ho : ops[y]? = some o) (hn : isNew o = true) (hun : L.getD y true = false) (hr : Rdy ops L y) :
  ∀ (l : Ord) (F : List FE) (A : List AE) (m : Memo) (s : St) (R : Rp) (a' : Act), RI P ops K w0 R0 M0 L a w F A l m s R a' → (∃ x ∈ l, x.i = y) →
   ∃ F A l m s R a', RI P ops K w0 R0 M0 L a w F A l m s R a' ∧ ∃ x ∈ l, x.i = y ∧ EN P ops (fill ops (A.map AE.p) a') y ∧ NL ops l y
 | [], F, A, m, s, R, a', h, ⟨x, hx, _⟩ => by simp at hx
 | z :: l, F, A, m, s, R, a', h, ⟨x, hx, hxy⟩ => by
  rcases h.en x hx o (by rw [hxy]; exact ho) hn with ⟨k1, k2⟩ | k1
  ·rw [hxy] at k1 k2
   exact ⟨F, A, z :: l, m, s, R, a', h, x, hx, hxy, k1, k2⟩
  ·have hlt := h.rng z (List.mem_append_right _ (List.mem_cons_self ..))
   have hoz : ops[z.i]? = some ops[z.i] := by simp [hlt]
   simp only [enOK, hoz, hxy, Bool.or_eq_true, Bool.and_eq_true] at k1
   by_cases hlz : L.getD z.i false = true
   ·obtain ⟨p, hp, hpz⟩ := h.isA (List.mem_cons_self ..) hlz
    obtain ⟨A', s', R', a'', h'⟩ := h.adopt hsel hp hpz
    have hxl : x ∈ l := by
     rcases List.mem_cons.1 hx with rfl | hx
     ·rw [hxy, getD_both h.size hi (c := true), hun] at hlz; cases hlz
     ·exact hx
    exact RI.reachN hlow hsel hi ho hn hun hr l _ _ _ _ _ _ h' ⟨x, hxl, hxy⟩
   ·rcases k1.1 with k1 | k1
    ·obtain ⟨e, m', s', a'', h', _⟩ := h.goOn hsel hoz k1
     have hxl : x ∈ l := by
      rcases List.mem_cons.1 hx with rfl | hx
      ·have ho' := ho
       rw [← hxy, hoz] at ho'
       cases ho'
       rw [new_quiet hn] at k1
       cases k1
      ·exact hx
     exact RI.reachN hlow hsel hi ho hn hun hr l _ _ _ _ _ _ h' ⟨x, hxl, hxy⟩
    ·exact (hlz (ordd_listed hlow h.down y z.i hi k1 hr)).elim
theorem RI.fin (hsel : ∀ (i : Nat) o, ops[i]? = some o → notSel o.op = true) (hall : ∀ i, i < ops.size → L.getD i false = true) :
  ∀ (l : Ord) (F : List FE) (A : List AE) (m : Memo) (s : St) (R : Rp) (a' : Act), RI P ops K w0 R0 M0 L a w F A l m s R a' → ∃ s R, K s ∧ Conc w0 R0 M0 s R a w
 | [], F, A, m, s, R, a', h => by
  have hA : A = [] := by
   cases A with
   | nil => rfl
   | cons p A => obtain ⟨⟨x, hx, _⟩, _⟩ := h.inA p (List.mem_cons_self ..); simp at hx
  have hF : F = [] := by
   cases F with
   | nil => rfl
   | cons e F =>
    obtain ⟨h1, h2⟩ := h.unF (List.mem_cons_self ..)
    rw [getD_both h.size h1 (c := false), hall _ h1] at h2
    cases h2
  subst hA hF
  have hrel : a = a' := h.rel
  rw [hrel]
  exact ⟨s, R, h.body, h.conc⟩
 | x :: l, F, A, m, s, R, a', h => by
  have hlt := h.rng x (List.mem_append_right _ (List.mem_cons_self ..))
  obtain ⟨p, hp, hpx⟩ := h.isA (List.mem_cons_self ..) (hall _ hlt)
  obtain ⟨A', s', R', a'', h'⟩ := h.adopt hsel hp hpx
  exact RI.fin hsel hall l _ _ _ _ _ _ h'
def left (n : Nat) (L : Array Bool) : Nat := ((List.range n).filter fun i => !L.getD i true).length
theorem mem_ready {i : Nat} : i ∈ Region.ready .any ops L ↔ i < ops.size ∧ L.getD i true = false ∧ Rdy ops L i := by
 unfold Region.ready
 rw [List.mem_filter, List.mem_range, Bool.and_eq_true]
 constructor
 ·rintro ⟨h1, h2, h3⟩
  refine ⟨h1, by simpa using h2, fun o ho e he hb => ?_⟩
  rw [ho] at h3
  simp only [Option.map_some, Option.getD_some, Array.all_eq_true'] at h3
  have := h3 e (by simpa using he)
  rw [hb] at this
  simpa using this
 ·rintro ⟨h1, h2, h3⟩
  refine ⟨h1, by simp [h2], ?_⟩
  have ho : ops[i]? = some ops[i] := by simp [h1]
  rw [ho]
  simp only [Option.map_some, Option.getD_some, Array.all_eq_true']
  intro e he
  cases hb : Region.binds .any e with
  | false => rfl
  | true => rw [h3 _ ho e (by simpa using he) hb]; rfl
theorem all_listed (hlow : lowB 0 ops.toList = true) (h : Region.ready .any ops L = []) (hs : L.size = ops.size) : ∀ i, i < ops.size → L.getD i false = true := by
 intro i
 induction i using Nat.strongRecOn with
 | _ i ih =>
  intro hi
  apply Classical.byContradiction
  intro hno
  have hun : L.getD i true = false := by
   rw [getD_both hs hi (c := false)]
   simpa using hno
  have : i ∈ Region.ready .any ops L := mem_ready.2 ⟨hi, hun, fun o ho e he hb => by
   have hlt := low_spec _ 0 hlow i o (by simpa using ho) e he hb
   exact ih e.on (by omega) (by omega)⟩
  rw [h] at this
  simp at this
theorem any_ok (hlow : lowB 0 ops.toList = true) (hsel : ∀ (i : Nat) o, ops[i]? = some o → notSel o.op = true) (ro : Option Nat) {Q : Exit → Act → World → Prop} (hQ : ∀ s R a w, K s → Conc w0 R0 M0 s R a w → Q .normal a w) :
  ∀ (f : Nat) (L : Array Bool) (a : Act) (w : World), AnyRI P ops K w0 R0 M0 L a w → left ops.size L ≤ f → wpAnyIn (Fo ro) 0 P .any ops Q f L a w
 | f, L, a, w, ⟨F, A, l, m, s, R, a', h⟩, hf => by
  have hfin : Region.ready .any ops L = [] → Q .normal a w := fun h0 => by
   obtain ⟨s, R, h1, h2⟩ := RI.fin hsel (all_listed hlow h0 h.size) _ _ _ _ _ _ _ h
   exact hQ s R a w h1 h2
  cases f with
  | zero =>
   have h0 : Region.ready .any ops L = [] := by
    apply List.eq_nil_iff_forall_not_mem.2
    intro i hi
    obtain ⟨h1, h2, _⟩ := mem_ready.1 hi
    have : i ∈ (List.range ops.size).filter fun i => !L.getD i true := List.mem_filter.2 ⟨List.mem_range.2 h1, by simp [h2]⟩
    rw [List.eq_nil_of_length_eq_zero (Nat.le_zero.1 hf)] at this
    simp at this
   exact ⟨h0, hfin h0⟩
  | succ f =>
   refine ⟨hfin, fun i hi => ?_⟩
   obtain ⟨hlt, hun, hr⟩ := mem_ready.1 hi
   have ho : ops[i]? = some ops[i] := by simp [hlt]
   have hleft : left ops.size (L.setIfInBounds i true) ≤ f := by
    have := filt_lt (p := fun i => !L.getD i true) (q := fun j => !(L.setIfInBounds i true).getD j true) (List.range ops.size) (fun j hj hh => by
     by_cases hji : j = i
     ·subst hji; simp [hun]
     ·rwa [set_other hji] at hh) ⟨i, List.mem_range.2 hlt, by simp [hun], by rw [set_self (by rw [h.size]; exact hlt)]; rfl⟩
    unfold left at hf ⊢
    omega
   have next : ∀ a1 w1, AnyRI P ops K w0 R0 M0 (L.setIfInBounds i true) a1 w1 → wpAnyIn (Fo ro) 0 P .any ops Q f (L.setIfInBounds i true) a1 w1 := fun a1 w1 hh => any_ok hlow hsel ro hQ f _ a1 w1 hh hleft
   have hns := hsel _ _ ho
   have value : ∀ v w1, Region.wanted ops[i] (yielded ops a.tmps) = true → (execOp a.eval ops[i]).run P w = .ok (.value v) w1 → AnyRI P ops K w0 R0 M0 (L.setIfInBounds i true) (a.put ops[i].dst v) w1 → wpOpIn (Fo ro) 0 P ops Q i (wpAnyIn (Fo ro) 0 P .any ops Q f (L.setIfInBounds i true)) a w := fun v w1 hw hrun hA => by
    unfold wpOpIn
    rw [ho]
    simp only
    rw [if_pos hw]
    refine ⟨fun _ _ => trivial, ?_⟩
    rw [Oper.semAt_eq _ _ _ (fun c e => by rw [e] at hns; cases hns), hrun]
    exact next _ _ hA
   have skip : Region.wanted ops[i] (yielded ops a.tmps) = false → AnyRI P ops K w0 R0 M0 (L.setIfInBounds i true) (a.put ops[i].dst undef) w → wpOpIn (Fo ro) 0 P ops Q i (wpAnyIn (Fo ro) 0 P .any ops Q f (L.setIfInBounds i true)) a w := fun hw hA => by
    unfold wpOpIn
    rw [ho]
    simp only
    rw [if_neg (by rw [hw]; simp)]
    exact ⟨fun _ _ => trivial, next _ _ hA⟩
   cases hn : isNew ops[i] with
   | true =>
    rcases (h.cover i hlt).1 hun with ⟨e, he, hei⟩ | ⟨⟨x, hx, hxi⟩, _⟩
    ·have := h.qF e he _ (by rw [hei]; exact ho)
     rw [new_quiet hn] at this
     cases this
    ·obtain ⟨F', A', l', m', s', R', a'', h', x', hx', hxi', hE, hNL⟩ := RI.reachN hlow hsel hlt ho hn hun hr _ _ _ _ _ _ _ h ⟨x, hx, hxi⟩
     subst hxi'
     obtain ⟨u, obj, h1, A2, h2⟩ := h'.early hlow hsel hx' ho hn hun hr hE hNL
     exact value u _ (by simp [Region.wanted, new_guard hn]) h1 ⟨_, _, _, _, _, _, _, h2⟩
   | false =>
    obtain ⟨F', A', l', m', s', R', a'', h', hc⟩ := RI.reach hlow hsel hlt ho hn hun hr _ _ _ _ _ _ _ h
    rcases hc with ⟨e, he, hei⟩ | ⟨hq, x, l2, rfl, hxi⟩
    ·subst hei
     obtain ⟨o', ho', hv, F2, h2⟩ := h'.exec hlow hsel he hr
     rw [ho] at ho'
     cases ho'
     rcases hv with ⟨hw, hrun⟩ | ⟨hw, hv⟩
     ·exact value _ _ hw hrun ⟨_, _, _, _, _, _, _, h2⟩
     ·rw [hv] at h2
      exact skip hw ⟨_, _, _, _, _, _, _, h2⟩
    ·subst hxi
     rcases h'.eff hlow hsel ro ho hq hn hr Q with ⟨hw, hwp⟩ | ⟨hw, hA⟩
     ·unfold wpOpIn
      rw [ho]
      simp only
      rw [if_pos hw]
      exact Oper.wpIn_mono next hwp
     ·exact skip hw hA
theorem pairs_spec {cl : List Nat} : ∀ {l : List Ent}, pairsB ops cl l = true → l.Pairwise (fun x y => prB ops cl x y = true)
 | [], _ => List.Pairwise.nil
 | x :: l, h => by
  simp only [pairsB, Bool.and_eq_true] at h
  exact List.pairwise_cons.2 ⟨fun y hy => List.all_eq_true.1 h.1 y hy, pairs_spec h.2⟩
def regionOK (O : List (Nat × RO)) (id : Nat) (ops : Array Oper) (draw : Bool) : Bool := !draw || ordOK ops (ordOf O id ops.size)
theorem region_ok (hm : P.follows .mixedOrders = true) (ro : Option Nat) {O : List (Nat × RO)} {id : Nat} {ops : Array Oper} {draw : Bool} (hr : regionOK O id ops draw = true) {Q : Exit → Act → World → Prop} (h : regionA P O id ops.toList draw s K)
  (hC : Conc w0 R0 M0 s R a w) (hQ : ∀ s' R' a' w', K s' → Conc w0 R0 M0 s' R' a' w' → Q .normal a' w') : (Code.region id ops draw).wpIn (Fo ro) 0 P Q a w := by
 unfold regionA at h
 split at h
 ·exact wpIn_region_L (aops_ok ro hQ _ s R a w h hC)
 ·simp only [regionOK, Bool.not_true, Bool.false_or] at hr
  rw [lenL_eq, Array.length_toList] at h
  generalize ordOf O id ops.size = r at h hr
  obtain ⟨en, ol⟩ := r
  simp only at h
  obtain ⟨he, hec, h⟩ := enVC_elim h
  ·skip
   simp only [ordOK, Bool.and_eq_true] at hr
   obtain ⟨⟨⟨⟨⟨hlow, hsel⟩, hpr⟩, hrng⟩, hcov⟩, hen⟩ := hr
   have hsel' : ∀ (i : Nat) o, ops[i]? = some o → notSel o.op = true := fun i o ho => List.all_eq_true.1 hsel o (List.mem_of_getElem? (i := i) (by simpa using ho))
   refine wpIn_region_any hm ?_
   have hC1 : Conc w0 R0 M0 s R a { w with drawn := w.drawn + 1 } := hC.same ⟨rfl, rfl, rfl, Nat.le_refl _, fun _ _ => rfl⟩
   have hrep : ∀ (i : Nat) b, i < ops.size → (Array.replicate ops.size false).getD i b = false := fun i b hi => by simp [Array.getD_eq_getD_getElem?, hi]
   refine any_ok hlow hsel' ro hQ ops.size _ a _ ⟨[], [], ol, [], s, R, a, by simp, ?_, rfl, trivial, hC1, fun e he => by simp at he, fun p hp => by simp at hp, h, by simpa using pairs_spec hpr, fun i hi => ?_, fun x hx => ?_, fun e he => by simp at he, fun p hp => by simp at hp, List.Pairwise.nil, fun x hx o ho hn => ?_⟩ ?_
   ·intro y o ho hy
    have hlt : y < ops.size := (Array.getElem?_eq_some_iff.1 ho).1
    rw [hrep y false hlt] at hy
    cases hy
   ·rw [hrep i true hi]
    have := List.all_eq_true.1 hcov i (List.mem_range.2 hi)
    obtain ⟨x, hx, hxi⟩ := List.any_eq_true.1 this
    exact ⟨fun _ => .inr ⟨⟨x, hx, by simpa using hxi⟩, fun p hp => by simp at hp⟩, fun _ => rfl⟩
   ·simp at hx
    simpa using List.all_eq_true.1 hrng x hx
   ·have := List.all_eq_true.1 hen x hx
    rw [ho] at this
    simp only [hn, Bool.not_true, Bool.false_or, Bool.or_eq_true, Bool.and_eq_true] at this
    rcases this with ⟨h1, h2⟩ | h1
    ·refine .inl ⟨fun o' ho' wr => ?_, NL.of h2⟩
     obtain ⟨oy, h3, h4, h4c⟩ := en_get he hec x.i (by simpa using h1)
     rw [h3] at ho'
     cases ho'
     exact new_run h4 h4c hC1 wr
    ·exact .inr h1
   ·unfold left
    refine Nat.le_trans (List.length_filter_le _ _) ?_
    simp
end
end Go.Sx


namespace Go.Sx
open Go Go.RowKit
theorem notIn_ne : ∀ {r : List (Option Nat)} {j : Nat}, notIn r j = true → ∀ (i : Nat), r[i]? ≠ some (some j)
 | [], j, _, i, h => by simp at h
 | some x :: r, j, h, i, hi => by
  simp only [notIn, Bool.and_eq_true, Bool.not_eq_true'] at h
  cases i with
  | zero => simp at hi; subst hi; rw [Nat.beq_refl] at h; cases h.1
  | succ i => exact notIn_ne h.2 i (by simpa using hi)
 | none :: r, j, h, i, hi => by
  cases i with
  | zero => simp at hi
  | succ i => exact notIn_ne (r := r) h i (by simpa using hi)
theorem leMem_spec (k : Nat) (mm : List (Option Blk)) (r0 : List (Option Nat)) : ∀ (r : List (Option Nat)) (l : List (Option Blk)) (i : Nat), leMem k mm r0 i r l → r.length = l.length ∧
  (∀ (n : Nat) b', l[n]? = some (some b') → (∃ j b, r[n]? = some (some j) ∧ mm[j]? = some (some b) ∧ leB k mm r0 b b' ∧ (i + n < k → j = i + n)) ∨ (r[n]? = some none ∧ k ≤ i + n ∧ noneOK r0 b') ∨ (∃ j, r[n]? = some (some j) ∧ mm.length ≤ j ∧ k ≤ i + n ∧ famNil b')) ∧
  (∀ (n : Nat), l[n]? = some none → r[n]? = some none) ∧
  (∀ (n n' j : Nat), r[n]? = some (some j) → r[n']? = some (some j) → n = n')
 | [], [], i, h => ⟨rfl, fun n b h => by simp at h, fun n h => by simp at h, fun n n' j h => by simp at h⟩
 | none :: r, none :: l, i, h => by
  obtain ⟨h1, h2, h3, h4⟩ := leMem_spec k mm r0 r l (i + 1) h
  refine ⟨by simp [h1], fun n b hb => ?_, fun n hn => ?_, fun n n' j hn hn' => ?_⟩
  ·cases n with
   | zero => simp at hb
   | succ n => have := h2 n b (by simpa using hb); simpa [Nat.add_assoc, Nat.add_comm 1 n] using this
  ·cases n with
   | zero => rfl
   | succ n => simpa using h3 n (by simpa using hn)
  ·cases n with
   | zero => simp at hn
   | succ n =>
    cases n' with
    | zero => simp at hn'
    | succ n' => exact congrArg (· + 1) (h4 n n' j (by simpa using hn) (by simpa using hn'))
 | some j0 :: r, some b0 :: l, i, h => by
  obtain ⟨hb0, hni, hki, h⟩ := h
  obtain ⟨h1, h2, h3, h4⟩ := leMem_spec k mm r0 r l (i + 1) h
  refine ⟨by simp [h1], fun n b hb => ?_, fun n hn => ?_, fun n n' j hn hn' => ?_⟩
  ·cases n with
   | zero =>
    simp at hb; subst hb
    rw [getL_eq] at hb0
    split at hb0
    ·rename_i b hb
     refine .inl ⟨j0, b, rfl, hb, hb0, fun hlt => ?_⟩
     split at hki
     ·rename_i hle
      have := Nat.le_of_ble_eq_true hle
      omega
     ·simpa using hki
    ·rename_i hb
     refine .inr (.inr ⟨j0, rfl, ?_, by simpa using Nat.le_of_ble_eq_true hb0.2, hb0.1⟩)
     exact List.getElem?_eq_none_iff.1 hb
    ·exact hb0.elim
   | succ n => have := h2 n b (by simpa using hb); simpa [Nat.add_assoc, Nat.add_comm 1 n] using this
  ·cases n with
   | zero => simp at hn
   | succ n => simpa using h3 n (by simpa using hn)
  ·cases n with
   | zero =>
    simp at hn; subst hn
    cases n' with
    | zero => rfl
    | succ n' => exact (notIn_ne hni n' (by simpa using hn')).elim
   | succ n =>
    cases n' with
    | zero => simp at hn'; subst hn'; exact (notIn_ne hni n (by simpa using hn)).elim
    | succ n' => exact congrArg (· + 1) (h4 n n' j (by simpa using hn) (by simpa using hn'))
 | none :: r, some b0 :: l, i, h => by
  obtain ⟨ha, hki, h⟩ := h
  obtain ⟨h1, h2, h3, h4⟩ := leMem_spec k mm r0 r l (i + 1) h
  refine ⟨by simp [h1], fun n b hb => ?_, fun n hn => ?_, fun n n' j hn hn' => ?_⟩
  ·cases n with
   | zero => simp at hb; subst hb; exact .inr (.inl ⟨rfl, by simpa using Nat.le_of_ble_eq_true hki, ha⟩)
   | succ n => have := h2 n b (by simpa using hb); simpa [Nat.add_assoc, Nat.add_comm 1 n] using this
  ·cases n with
   | zero => simp at hn
   | succ n => simpa using h3 n (by simpa using hn)
  ·cases n with
   | zero => simp at hn
   | succ n =>
    cases n' with
    | zero => simp at hn'
    | succ n' => exact congrArg (· + 1) (h4 n n' j (by simpa using hn) (by simpa using hn'))
 | [], _ :: _, i, h => by simp [leMem] at h
 | none :: _, [], i, h => by simp [leMem] at h
 | some _ :: _, [], i, h => by simp [leMem] at h
 | some _ :: _, none :: _, i, h => by simp [leMem] at h
section
variable {w w0 : World} {R R0 : Rp} {M0 : List (Option Blk)} {s s' : St} {a : Act} {r : List (Option Nat)}
def nilSl : Value := .slice none 0 0
def Rw (R : Rp) (k : Nat) (mem mem' : List (Option Blk)) (r : List (Option Nat)) : Rp :=
 ⟨mem'.length, fun i => if i < k then R.ν i else match r[i]? with
  | some (some j) => if j < R.n then R.ν j else .map none
  | _ => nilSl, R.I, fun b => R.J b ∨ ∃ id, live mem id ∧ notIn r id = true ∧ R.own id b, fun i => if i < k then R.F i else match r[i]? with
  | some (some j) => if j < R.n then R.F j else Fam.nil
  | _ => Fam.nil⟩
section
variable (hC : Conc w0 R0 M0 s R a w) {mem' : List (Option Blk)} (hM : leMem s.k s.mem r 0 r mem')
include hC hM
theorem Rw_at {i j : Nat} (h : r[i]? = some (some j)) (hjn : j < R.n) : i < mem'.length ∧ live s.mem j ∧ (Rw R s.k s.mem mem' r).ν i = R.ν j ∧ (Rw R s.k s.mem mem' r).F i = R.F j := by
 obtain ⟨h1, h2, h3, h4⟩ := leMem_spec _ _ _ _ _ _ hM
 have hi : i < mem'.length := by rw [← h1]; exact (List.getElem?_eq_some_iff.1 h).1
 refine ⟨hi, ?_⟩
 have hg : mem'[i]? = some mem'[i] := List.getElem?_eq_getElem hi
 cases hb : mem'[i] with
 | none => rw [hb] at hg; rw [h3 i hg] at h; cases h
 | some b' =>
  rw [hb] at hg
  rcases h2 i b' hg with ⟨j', b, hj, hbm, _, hk⟩ | ⟨hn, _⟩ | ⟨j', hj, hbm, _⟩
  ·rw [hj] at h; cases h
   refine ⟨⟨b, hbm⟩, ?_⟩
   simp only [Nat.zero_add] at hk
   by_cases hik : i < s.k
   ·simp only [Rw]; rw [if_pos hik, if_pos hik, hk hik]; exact ⟨rfl, rfl⟩
   ·simp only [Rw]; rw [if_neg hik, if_neg hik, hj]
    simp only
    rw [if_pos (hC.live_n ⟨b, hbm⟩), if_pos (hC.live_n ⟨b, hbm⟩)]
    exact ⟨rfl, rfl⟩
  ·rw [hn] at h; cases h
  ·rw [hj] at h; cases h
   have := hC.fr.ok.n
   omega
theorem Rw_fam {i j : Nat} (h : r[i]? = some (some j)) (hj : s.mem.length ≤ j) (hk : s.k ≤ i) : i < mem'.length ∧ (Rw R s.k s.mem mem' r).ν i = .map none ∧ (Rw R s.k s.mem mem' r).F i = Fam.nil := by
 obtain ⟨h1, _⟩ := leMem_spec _ _ _ _ _ _ hM
 have hn := hC.fr.ok.n
 refine ⟨by rw [← h1]; exact (List.getElem?_eq_some_iff.1 h).1, ?_⟩
 simp only [Rw]
 rw [if_neg (by omega), if_neg (by omega), h]
 simp only
 rw [if_neg (by omega), if_neg (by omega)]
 exact ⟨rfl, rfl⟩
theorem Rw_own {i j g : Nat} (h : r[i]? = some (some j)) (hjn : j < R.n) : (Rw R s.k s.mem mem' r).own i g ↔ R.own j g := by
 obtain ⟨_, _, h1, h2⟩ := Rw_at hC hM h hjn
 simp only [Rp.own, h1, h2]
omit hC in
theorem Rw_nil {i : Nat} (h : r[i]? = some none) (hk : s.k ≤ i) : i < mem'.length ∧ (Rw R s.k s.mem mem' r).ν i = nilSl := by
 obtain ⟨h1, _⟩ := leMem_spec _ _ _ _ _ _ hM
 refine ⟨by rw [← h1]; exact (List.getElem?_eq_some_iff.1 h).1, ?_⟩
 simp only [Rw]
 rw [if_neg (by omega), h]
theorem leP_rep {id id' off off' : Nat} (h : getL r id' = some (some id)) (ho : off = off') {u : Value} (hr : RepP R id off u) : RepP (Rw R s.k s.mem mem' r) id' off' u := by
 rw [getL_eq] at h
 obtain ⟨h1, h2, h3, _⟩ := Rw_at hC hM h hr.1
 subst ho
 exact ⟨h1, by rw [h3]; exact hr.2⟩
omit hC hM in
theorem Rw_rd {al al' : Bool} (hal : impB al al' = true) {b : Nat} (h : R.rd al b) : (Rw R s.k s.mem mem' r).rd al' b := by
 have h' : (Rw R s.k s.mem mem' r).rd al b := h.imp .inl id
 exact impB_rd hal h'
omit hC hM in
theorem leSB_ok : ∀ (l l' : List SB), leSB r l l' → l.length = l'.length ∧ ∀ (j : Nat) b', l'[j]? = some b' → ∃ b, l[j]? = some b ∧ ((∃ k n, b = .int k n ∧ b' = .int k n) ∨ ∃ i i' o, b = .ptr i o ∧ b' = .ptr i' o ∧ getL r i' = some (some i))
 | [], [], _ => ⟨rfl, fun j b h => by simp at h⟩
 | .int k n :: l, .int k' n' :: l', h => by
  obtain ⟨rfl, rfl, h⟩ := h
  obtain ⟨h3, h4⟩ := leSB_ok l l' h
  refine ⟨by simp [h3], fun j b hb => ?_⟩
  cases j with
  | zero => simp at hb; subst hb; exact ⟨_, rfl, .inl ⟨k, n, rfl, rfl⟩⟩
  | succ j => simpa using h4 j b (by simpa using hb)
 | .ptr i o :: l, .ptr i' o' :: l', h => by
  obtain ⟨h1, rfl, h⟩ := h
  obtain ⟨h3, h4⟩ := leSB_ok l l' h
  refine ⟨by simp [h3], fun j b hb => ?_⟩
  cases j with
  | zero => simp at hb; subst hb; exact ⟨_, rfl, .inr ⟨i, i', o, rfl, rfl, h1⟩⟩
  | succ j => simpa using h4 j b (by simpa using hb)
 | .int _ _ :: _, .ptr _ _ :: _, h => by simp [leSB] at h
 | .ptr _ _ :: _, .int _ _ :: _, h => by simp [leSB] at h
 | [], _ :: _, h => by simp [leSB] at h
 | .int _ _ :: _, [], h => by simp [leSB] at h
 | .ptr _ _ :: _, [], h => by simp [leSB] at h
omit hC hM in
theorem leCaps_ok : ∀ (l l' : List (Nat × Nat)), leCaps r l l' → l.length = l'.length ∧ ∀ (j : Nat) p', l'[j]? = some p' → ∃ p, l[j]? = some p ∧ getL r p'.1 = some (some p.1) ∧ p.2 = p'.2
 | [], [], _ => ⟨rfl, fun j p h => by simp at h⟩
 | (i, o) :: l, (i', o') :: l', h => by
  obtain ⟨h1, h2, h⟩ := h
  obtain ⟨h3, h4⟩ := leCaps_ok l l' h
  refine ⟨by simp [h3], fun j p hp => ?_⟩
  cases j with
  | zero => simp at hp; subst hp; exact ⟨(i, o), rfl, h1, h2⟩
  | succ j => simpa using h4 j p (by simpa using hp)
 | [], _ :: _, h => by simp [leCaps] at h
 | _ :: _, [], h => by simp [leCaps] at h
theorem leS_rep {v v' : SV} (h : leS s.k s.mem r v v') {u : Value} (hr : RepS w R v u) : RepS w (Rw R s.k s.mem mem' r) v' u := by
 unfold leS at h
 split at h
 ·trivial
 ·obtain ⟨h1, h2⟩ := h; subst h1 h2; exact hr
 ·subst h; exact hr
 ·rw [← h]; exact hr
 ·rename_i p d p' d'
  have hu : u = .bool (@decide p d) := hr
  rw [hu]
  show Value.bool _ = Value.bool _
  congr 1
  exact decide_eq_decide.2 h
 ·rename_i p d
  have hu : u = .bool true := hr
  rw [hu]
  show Value.bool _ = Value.bool _
  simp [h]
 ·rename_i p d
  have hu : u = .bool false := hr
  rw [hu]
  show Value.bool _ = Value.bool _
  simp [h]
 ·rw [h] at hr; exact hr
 ·subst h; exact hr
 ·subst h; exact hr
 ·exact hr
 ·exact hr
 ·subst h; exact hr
 ·obtain ⟨h1, h2, h3⟩ := h
  subst h2 h3
  exact RepC.keep (fun _ _ => rfl) (fun b hb => Rw_rd h1 hb) (show RepC w (R.rd _) _ _ u from hr)
 ·subst h
  have hu : u = .slice none 0 0 := hr
  subst hu
  exact .sl _ [] none 0 (fun _ _ => undef) (Nat.le_refl _) (fun r hr => by simp at hr) (fun hne => (hne rfl).elim) (fun i r f c k h1 => by simp at h1)
 ·rename_i id al' ks' a'
  split at h
  ·rename_i e al ks ar hrow
   obtain ⟨h1, h2, h3, h4⟩ := h
   subst h3 h4
   have hm : s.mem[id]? = some (some (.row e al ks ar)) := by
    unfold rowAt at hrow
    rw [getL_eq] at hrow
    split at hrow
    ·rename_i hb; cases hrow; exact hb
    ·cases hrow
   obtain ⟨_, hu⟩ : id < R.n ∧ u = R.ν id := hr
   rw [hu]
   exact (hC.fr.ok.rep id _ hm).toC (fun b hb => Rw_rd h2 hb) (fun g hg => .inl (.inr ⟨id, ⟨_, hm⟩, h1, .inl hg⟩))
  ·cases h
 ·rw [getL_eq] at h
  obtain ⟨h1, h2, h3, _⟩ := Rw_at hC hM h hr.1
  exact ⟨h1, by rw [h3]; exact hr.2⟩
 ·obtain ⟨h, hk⟩ := h
  rw [getL_eq] at h
  obtain ⟨h1, h2⟩ := Rw_nil hM h (Nat.le_of_ble_eq_true hk)
  exact ⟨h1, by rw [h2]; exact hr⟩
 ·obtain ⟨h, hk, h3, h4⟩ := h
  subst h3 h4
  rw [getL_eq] at h
  obtain ⟨h1, h2⟩ := Rw_nil hM h (Nat.le_of_ble_eq_true hk)
  exact ⟨h1, none, 0, 0, h2, Nat.le_refl _, .inl ⟨rfl, rfl, rfl, hr⟩⟩
 ·rename_i id id' _ lo' n' _
  split at h
  ·rename_i e al ks ar hrow
   obtain ⟨h1, h3, h4⟩ := h
   subst h3 h4
   have hm : s.mem[id]? = some (some (.row e al ks ar)) := by
    unfold rowAt at hrow
    rw [getL_eq] at hrow
    split at hrow
    ·rename_i hb; cases hrow; exact hb
    ·cases hrow
   obtain ⟨hidn, hu⟩ : id < R.n ∧ u = R.ν id := hr
   rw [getL_eq] at h1
   obtain ⟨g1, g2, g3, _⟩ := Rw_at hC hM h1 hidn
   obtain ⟨xs, ho, _⟩ := hC.fr.ok.rep id _ hm
   refine ⟨g1, ?_⟩
   rw [g3]
   rcases ho.2 with ⟨hv, hn⟩ | ⟨g, cap, cur, hv, _, _, hnc, _⟩
   ·exact ⟨none, 0, 0, hv, by omega, .inl ⟨rfl, rfl, hn, by rw [hu, hv]⟩⟩
   ·exact ⟨_, _, _, hv, by omega, .inr ⟨g, 0, cap, rfl, by rw [hu, hv], .inl (by simp), hnc, by omega, fun _ => by omega⟩⟩
  ·cases h
 ·obtain ⟨h, h1, h2, h3, h4⟩ := h
  subst h1 h2 h3 h4
  rw [getL_eq] at h
  obtain ⟨h1, h2, h3, _⟩ := Rw_at hC hM h hr.1
  obtain ⟨_, A, m, c, hν, hx⟩ := hr
  exact ⟨h1, A, m, c, by rw [h3]; exact hν, hx⟩
 ·rename_i id sz lo n fl al' ks' a'
  split at h
  ·rename_i e al ks ar hrow
   obtain ⟨h1, h2, h3, h4, h5⟩ := h
   subst h3 h4 h5
   have hm : s.mem[id]? = some (some (.row e al ks ar)) := by
    unfold rowAt at hrow
    rw [getL_eq] at hrow
    split at hrow
    ·rename_i hb; cases hrow; exact hb
    ·cases hrow
   obtain ⟨_, A, m, c, hν, hmm, hA⟩ := hr
   have hC0 := (hC.fr.ok.rep id _ hm).toC (S := (Rw R s.k s.mem mem' r).rd al') (fun b hb => Rw_rd h2 hb) (fun g hg => .inl (.inr ⟨id, ⟨_, hm⟩, h1, .inl hg⟩))
   rw [hν] at hC0
   exact hC0.pre (by omega) hA
  ·cases h
 ·exact leP_rep hC hM h.1 h.2 hr
 ·obtain ⟨h, h1, h2, h3⟩ := h
  subst h1 h2 h3
  rw [getL_eq] at h
  obtain ⟨h1, h2, h3, _⟩ := Rw_at hC hM h hr.1
  obtain ⟨_, g, n, c, hg, hu⟩ := hr
  exact ⟨h1, g, n, c, by rw [h3]; exact hg, hu⟩
 ·obtain ⟨h1, h2, h3, h4, h5⟩ := h
  subst h2 h3 h4 h5
  obtain ⟨ad, cap, hc, hi, hu⟩ := hr
  exact ⟨ad, cap, RepC.keep (fun _ _ => rfl) (fun b hb => Rw_rd h1 hb) hc, hi, hu⟩
 ·exact hr
 ·exact hr
 ·exact hr
 ·exact hr
 ·obtain ⟨h1, h2⟩ := h
  subst h1
  obtain ⟨cvs, hu, hs, hp⟩ := hr
  obtain ⟨h3, h4⟩ := leCaps_ok _ _ h2
  refine ⟨cvs, hu, by rw [hs, h3], fun j p' hp' => ?_⟩
  obtain ⟨p, k1, k2, k3⟩ := h4 j p' hp'
  exact leP_rep hC hM k2 k3 (hp j p k1)
 ·obtain ⟨h1, h2, h3⟩ := h
  subst h1 h2
  obtain ⟨fv, hu, cvs, he, hs, hp⟩ := hr
  obtain ⟨h4, h5⟩ := leSB_ok _ _ h3
  refine ⟨fv, hu, cvs, he, by rw [hs, h4], fun j b' hb' => ?_⟩
  obtain ⟨b, k1, k2⟩ := h5 j b' hb'
  have hb := hp j b k1
  rcases k2 with ⟨k, n, rfl, rfl⟩ | ⟨i, i', o, rfl, rfl, hg⟩
  ·exact hb
  ·exact leP_rep hC hM hg rfl hb
 ·rw [getL_eq] at h
  obtain ⟨h1, h2, h3, _⟩ := Rw_at hC hM h hr.1
  exact ⟨h1, by rw [h3]; exact hr.2⟩
 ·rw [getL_eq] at h
  obtain ⟨h1, h2, h3, _⟩ := Rw_at hC hM h hr.1
  exact ⟨h1, by rw [h3]; exact hr.2⟩
 ·exact hr
 ·cases h; exact hr
 ·obtain ⟨rfl, rfl⟩ := h; exact hr
 ·obtain ⟨h, rfl, rfl⟩ := h
  rw [getL_eq] at h
  obtain ⟨h1, _, _, h4⟩ := Rw_at hC hM h hr.1
  exact ⟨h1, by rw [h4]; exact hr.2⟩
 ·obtain ⟨h, rfl⟩ := h
  rw [getL_eq] at h
  obtain ⟨h1, _, _, h4⟩ := Rw_at hC hM h hr.1
  exact ⟨h1, by rw [h4]; exact hr.2⟩
 ·cases h
theorem leSs_rep : ∀ (l l' : List SV) (cs : Array Value), leSs s.k s.mem r l l' → RepL w R l cs → RepL w (Rw R s.k s.mem mem' r) l' cs := by
 have key : ∀ (l l' : List SV), leSs s.k s.mem r l l' → l.length = l'.length ∧ ∀ (j : Nat) v', l'[j]? = some v' → ∃ v, l[j]? = some v ∧ leS s.k s.mem r v v' := by
  intro l
  induction l with
  | nil => intro l' h; cases l' with
   | nil => exact ⟨rfl, fun j v h => by simp at h⟩
   | cons v l' => simp [leSs] at h
  | cons v l ih =>
   intro l' h
   cases l' with
   | nil => simp [leSs] at h
   | cons v' l' =>
    obtain ⟨h1, h2⟩ := h
    obtain ⟨h3, h4⟩ := ih l' h2
    refine ⟨by simp [h3], fun j x hx => ?_⟩
    cases j with
    | zero => simp at hx; subst hx; exact ⟨v, rfl, h1⟩
    | succ j => simpa using h4 j x (by simpa using hx)
 intro l l' cs h hr
 obtain ⟨h1, h2⟩ := key l l' h
 refine ⟨by rw [hr.1, h1], fun j v' hv' => ?_⟩
 obtain ⟨v, hv, hle⟩ := h2 j v' hv'
 exact leS_rep hC hM hle (hr.2 j v hv)
theorem leX_rep {x x' : XV} (h : leX s.k s.mem r x x') {u : Value} (hr : RepX w R x u) : RepX w (Rw R s.k s.mem mem' r) x' u := by
 unfold leX at h
 split at h
 ·trivial
 ·exact leS_rep hC hM h hr
 ·obtain ⟨cs, hu, hl⟩ := hr; exact ⟨cs, hu, leSs_rep hC hM _ _ _ h hl⟩
 ·cases h
theorem leA_rep {x x' : AV} (h : leA s.k s.mem r x x') {u : Value} (hr : RepA w R x u) : RepA w (Rw R s.k s.mem mem' r) x' u := by
 unfold leA at h
 split at h
 ·trivial
 ·exact leX_rep hC hM h hr
 ·rename_i l l'
  obtain ⟨vs, hu, hs, hx⟩ := hr
  have key : ∀ (l l' : List XV), leXs s.k s.mem r l l' → l.length = l'.length ∧ ∀ (j : Nat) v', l'[j]? = some v' → ∃ v, l[j]? = some v ∧ leX s.k s.mem r v v' := by
   intro l
   induction l with
   | nil => intro l' h; cases l' with
    | nil => exact ⟨rfl, fun j v h => by simp at h⟩
    | cons v l' => simp [leXs] at h
   | cons v l ih =>
    intro l' h
    cases l' with
    | nil => simp [leXs] at h
    | cons v' l' =>
     obtain ⟨h1, h2⟩ := h
     obtain ⟨h3, h4⟩ := ih l' h2
     refine ⟨by simp [h3], fun j x hx => ?_⟩
     cases j with
     | zero => simp at hx; subst hx; exact ⟨v, rfl, h1⟩
     | succ j => simpa using h4 j x (by simpa using hx)
  obtain ⟨h1, h2⟩ := key l l' h
  refine ⟨vs, hu, by rw [hs, h1], fun j v' hv' => ?_⟩
  obtain ⟨v, hv, hle⟩ := h2 j v' hv'
  exact leX_rep hC hM hle (hx j v hv)
 ·cases h
omit hC hM in
theorem leEnv_ok : ∀ (l l' : List AV), leEnv s.k s.mem r l l' → l.length = l'.length ∧ ∀ (j : Nat) v', l'[j]? = some v' → ∃ v, l[j]? = some v ∧ leA s.k s.mem r v v'
 | [], [], _ => ⟨rfl, fun j v h => by simp at h⟩
 | x :: l, y :: l', h => by
  have h' : leA s.k s.mem r x y ∧ leEnv s.k s.mem r l l' := by
   unfold leEnv at h
   split at h
   ·rename_i heq; cases heq
   ·rename_i h1 h2; cases h1; cases h2
    exact ⟨by unfold leA; trivial, h⟩
   ·rename_i h1 h2; cases h1; cases h2; exact h
   ·cases h
  obtain ⟨h1, h2⟩ := h'
  obtain ⟨h3, h4⟩ := leEnv_ok l l' h2
  refine ⟨by simp [h3], fun j v hv => ?_⟩
  cases j with
  | zero => simp at hv; subst hv; exact ⟨x, rfl, h1⟩
  | succ j => simpa using h4 j v (by simpa using hv)
 | [], _ :: _, h => by simp [leEnv] at h
 | _ :: _, [], h => by simp [leEnv] at h
end
theorem Le_ok (h : Le s s') (hC : Conc w0 R0 M0 s R a w) : ∃ R', Conc w0 R0 M0 s' R' a w := by
 obtain ⟨r, hk, hkl, hE, hM⟩ := h
 obtain ⟨m1, m2, m3, m4⟩ := leMem_spec _ _ _ _ _ _ hM
 simp only [Nat.zero_add] at m2
 have hkl' : s.k ≤ s'.mem.length := by rw [← lenL_eq]; exact Nat.le_of_ble_eq_true hkl
 obtain ⟨e1, e2⟩ := leEnv_ok _ _ hE
 have hcl : ∀ i, live s'.mem i → (∃ j, r[i]? = some (some j) ∧ live s.mem j ∧ ∀ g, (Rw R s.k s.mem s'.mem r).own i g → R.own j g) ∨ ∀ g, ¬ (Rw R s.k s.mem s'.mem r).own i g := fun i ⟨b', hb'⟩ => by
  rcases m2 i b' hb' with ⟨j, b, hj, hb, _⟩ | ⟨hn, hk', _⟩ | ⟨j, hj, hjl, hk', _⟩
  ·exact .inl ⟨j, hj, ⟨b, hb⟩, fun g hg => (Rw_own hC hM hj (hC.live_n ⟨b, hb⟩)).1 hg⟩
  ·refine .inr fun g hg => ?_
   unfold Rp.own at hg
   rw [(Rw_nil hM hn hk').2] at hg
   rcases hg with hg | ⟨hg, _⟩ <;> cases hg
  ·refine .inr fun g hg => ?_
   obtain ⟨_, q1, q2⟩ := Rw_fam hC hM hj hjl hk'
   unfold Rp.own at hg
   rw [q1, q2] at hg
   rcases hg with hg | ⟨_, n, hn, _⟩
   ·cases hg
   ·cases hn
 refine ⟨Rw R s.k s.mem s'.mem r, ⟨⟨hC.fr.os, hC.fr.tape, hC.fr.output, hC.fr.size, hC.fr.block, ⟨rfl, fun i b' hb' => ?_, fun i j g hi hj hbi hbj => ?_, fun i g hi hbi => ?_, fun b hb => ?_, fun i hi => ?_⟩, by rw [← hC.hk]; exact hkl', fun i hi => ?_, hC.fr.i, fun b hb => ?_, fun i g hi hbi => ?_, fun i hi => ?_⟩, by rw [← e1]; exact hC.len, fun i v' hv' => ?_, hC.defers.mono (fun _ h => .inl h), by rw [← hk]; exact hC.hk⟩⟩
 ·rcases m2 i b' hb' with ⟨j, b, hj, hb, hle, _⟩ | ⟨hn, hk', hno⟩ | ⟨j, hj, hjl, hk', hfn⟩
  ·obtain ⟨_, _, hν, hFF⟩ := Rw_at hC hM hj (hC.live_n ⟨b, hb⟩)
   have hr := hC.fr.ok.rep j b hb
   cases b with
   | box t cs =>
    cases b' <;> first | cases hle; done | skip
    case box t' cs' =>
     obtain ⟨rfl, hl⟩ := hle
     obtain ⟨g, vals, hv, hh, hrl⟩ := hr
     exact ⟨g, vals, by rw [hν]; exact hv, hh, leSs_rep hC hM _ _ _ hl hrl⟩
   | gbox g ks row =>
    cases b' <;> first | cases hle; done | skip
    case gbox g' ks' row' =>
     obtain ⟨rfl, rfl, rfl⟩ := hle
     obtain ⟨hv, hl⟩ := hr
     exact ⟨by rw [hν]; exact hv, leS_rep hC hM (v := .lel true ks [row] 0 0) (v' := .lel true ks [row] 0 0) ⟨rfl, rfl, rfl, rfl, rfl⟩ hl⟩
   | row e al ks ar =>
    cases b' <;> first | cases hle; done | skip
    case row e' al' ks' ar' =>
     obtain ⟨rfl, hal, rfl, rfl⟩ := hle
     obtain ⟨xs, ho, hl, hc⟩ := hr
     refine ⟨xs, by rw [hν]; exact ho, hl, fun i r f c k g1 g2 g3 => ?_⟩
     obtain ⟨v, hv, hr⟩ := hc i r f c k g1 g2 g3
     exact ⟨v, hv, hr.keep (fun _ _ => rfl) fun b hb => Rw_rd hal hb⟩
   | loop ps as c env p =>
    cases b' <;> first | cases hle; done | skip
    case loop ps' as' c' env' p' =>
     obtain ⟨rfl, rfl, rfl, rfl, he⟩ := hle
     obtain ⟨l, r, hv, hh, h1, h2, h3, h4, h5, h6⟩ := hr
     obtain ⟨k1, k2⟩ := leEnv_ok _ _ he
     refine ⟨l, r, by rw [hν]; exact hv, hh, h1, h2, h3, by rw [h4, k1], fun j x hx => ?_, h6⟩
     obtain ⟨v, hv', hle'⟩ := k2 j x hx
     exact leA_rep hC hM hle' (h5 j v hv')
   | mp ka va kk ks l p =>
    cases b' <;> first | cases hle; done | skip
    case mp ka' va' kk' ks' l' p' =>
     obtain ⟨rfl, rfl, rfl, rfl, rfl, rfl⟩ := hle
     obtain ⟨g, es, clock, hv, hh, hm, _⟩ := hr
     exact ⟨g, es, clock, by rw [hν]; exact hv, hh, hm, trivial⟩
   | prow e G n =>
    cases b' <;> first | cases hle; done | skip
    case prow e' G' n' =>
     obtain ⟨rfl, rfl, hG⟩ := hle
     obtain ⟨h1, h2, xs, ho, hx⟩ := hr
     rw [getL_eq] at hG
     obtain ⟨g1, _, _, g4⟩ := Rw_at hC hM hG h1
     exact ⟨g1, by rw [g4]; exact h2, xs, by rw [hν]; exact ho, by rw [g4]; exact hx⟩
   | fam t ks rows ms =>
    cases b' <;> first | cases hle; done | skip
    case fam t' ks' rows' ms' =>
     obtain ⟨rfl, rfl, rfl, rfl⟩ := hle
     exact ⟨by rw [hν]; exact hr.1, by rw [hFF]; exact hr.2⟩
   | ptrs e z p => cases hle
   | mit G i since seen cur =>
    cases b' <;> first | cases hle; done | skip
    case mit G' i' since' seen' cur' =>
     obtain ⟨rfl, rfl, rfl, rfl, hG⟩ := hle
     obtain ⟨h1, h2, r', c0, hv, hh, h3⟩ := hr
     rw [getL_eq] at hG
     obtain ⟨g1, _, _, g4⟩ := Rw_at hC hM hG h1
     exact ⟨g1, by rw [g4]; exact h2, r', c0, by rw [hν]; exact hv, by rw [g4]; exact hh, h3⟩
  ·cases b' <;> first | exact hno.elim | skip
   case row e al ks ar =>
    have hno : ar = [] := hno
    subst hno
    refine ⟨[], by rw [(Rw_nil hM hn hk').2]; exact World.ownsRow_nil w 0 e ks.length, fun r hr => by simp at hr, fun i r f c k g1 => by simp at g1⟩
   case prow e G n =>
    obtain ⟨h0, hG⟩ := hno
    subst h0
    rw [getL_eq] at hG
    refine ⟨?_, Nat.zero_le _, [], by rw [(Rw_nil hM hn hk').2]; exact World.ownsRow_nil w 0 e 1, fun i hi => absurd hi (Nat.not_lt_zero i)⟩
    split at hG
    ·rename_i jg hjg
     show G < s'.mem.length
     rw [← m1]
     exact (List.getElem?_eq_some_iff.1 hjg).1
    ·exact hG.elim
  ·cases b' <;> first | exact hfn.elim | skip
   case fam t ks rows ms =>
    obtain ⟨rfl, rfl, hsc⟩ := hfn
    obtain ⟨_, q1, q2⟩ := Rw_fam hC hM hj hjl hk'
    exact ⟨q1, by rw [q2]; exact ⟨rfl, rfl, hsc, fun i row h => by simp at h, fun i m h => by simp at h, fun i j hi => absurd hi (Nat.not_lt_zero i), fun i j hi => absurd hi (Nat.not_lt_zero i)⟩⟩
 ·rcases hcl i hi with ⟨i', h1, h2, h3⟩ | h1
  ·rcases hcl j hj with ⟨j', h4, h5, h6⟩ | h4
   ·replace hbi := h3 _ hbi
    replace hbj := h6 _ hbj
    have := hC.fr.ok.sep i' j' g h2 h5 hbi hbj
    subst this
    exact m4 i j i' h1 h4
   ·exact (h4 _ hbj).elim
  ·exact (h1 _ hbi).elim
 ·rcases hcl i hi with ⟨i', h1, h2, h3⟩ | h1
  ·replace hbi := h3 _ hbi
   obtain ⟨h4, h5⟩ := hC.fr.ok.ij i' g h2 hbi
   refine ⟨h4, fun h => h.elim h5 ?_⟩
   rintro ⟨id, hl, hn, hb⟩
   have := hC.fr.ok.sep id i' g hl h2 hb hbi
   subst this
   exact notIn_ne hn i h1
  ·exact (h1 _ hbi).elim
 ·rcases hb with h | h | ⟨id, ⟨x, hx⟩, _, h⟩
  ·exact hC.fr.ok.lt b (.inl h)
  ·exact hC.fr.ok.lt b (.inr h)
  ·exact (hC.fr.ok.rep id x hx).own_lt h
 ·have hn : isCell nilSl := ⟨rfl, rfl⟩
  simp only [Rw]
  split
  ·rename_i hlt; exact hC.fr.ok.cell i (Nat.lt_of_lt_of_le hlt (by rw [hC.hk]; exact hC.fr.kn))
  ·split
   ·split
    ·rename_i hlt; exact hC.fr.ok.cell _ hlt
    ·exact ⟨rfl, rfl⟩
   ·exact hn
 ·have hi' : i < s.k := by rw [hC.hk]; exact hi
  have : (Rw R s.k s.mem s'.mem r).ν i = R.ν i := by simp only [Rw]; rw [if_pos hi']
  rw [this]
  exact hC.fr.ν i hi
 ·rcases hb with h | ⟨id, hl, _, h⟩
  ·exact hC.fr.j b h
  ·exact .inr (hC.fr.own id b hl h)
 ·rcases hcl i hi with ⟨i', h1, h2, h3⟩ | h1
  ·exact hC.fr.own i' g h2 (h3 _ hbi)
  ·exact (h1 _ hbi).elim
 ·have hi' : i < s.k := by rw [hC.hk]; exact hi
  have : (Rw R s.k s.mem s'.mem r).F i = R.F i := by simp only [Rw]; rw [if_pos hi']
  rw [this]
  exact hC.fr.f i hi
 ·obtain ⟨v, hv, hle⟩ := e2 i v' hv'
  exact leA_rep hC hM hle (hC.env i v hv)
end
end Go.Sx


namespace Go.Sx
open Go Go.RowKit
def codeOK' (O : List (Nat × RO)) (rd : Bool) : Code → Bool
 | .region id ops d => regionOK O id ops d
 | .seq a b => codeOK' O rd a && codeOK' O rd b
 | .cond _ a b => codeOK' O rd a && codeOK' O rd b
 | .block _ b => codeOK' O rd b
 | .loop b => codeOK' O rd b
 | .scope b => codeOK' O rd b
 | .rangeFunc _ _ _ _ => !rd
 | _ => true
abbrev codeOK (O : List (Nat × RO)) (c : Code) : Bool := codeOK' O false c
abbrev roundOK (O : List (Nat × RO)) (c : Code) : Bool := codeOK' O true c
theorem stepR_scope {P : Program} {b : Frame} {a : Act} {k : List Item} {cs : List Frame} {w : World} {c : Code} : step P (lone (b.atR a (.code (.scope c) :: k)) cs w) = .next (lone (b.atR a (.code c :: .inScope c :: k)) cs w) :=
 step_lone_go (by simp [stepG, stepG.exec, Frame.atR])
theorem stepR_inScope {P : Program} {b : Frame} {a : Act} {k : List Item} {cs : List Frame} {w : World} {c : Code} : step P (lone (b.atR a (.inScope c :: k)) cs w) = .next (lone (b.atR a k) cs w) :=
 step_lone_go (by simp [stepG, stepG.exec, Frame.atR])
theorem wpIn_scope {P : Program} {F : Fence} {n : Nat} {Q : Exit → Act → World → Prop} {a : Act} {w : World} {c : Code} (h : c.wpIn F n P (fun e a w => match e with
  | .goto _ => False
  | e => Q e a w) a w) : (Code.scope c).wpIn F n P Q a w := by
 intro b k cs hro hb hr
 have h0 : (lone (b.atR a (.code (.scope c) :: k)) cs w).fenced P F := fenced_calm hb hr rfl
 obtain ⟨e, a₁, w₁, hq, harr⟩ := h b (.inScope c :: k) cs hro hb hr
 cases e with
 | normal => exact ⟨.normal, a₁, w₁, hq, .head h0 stepR_scope (StepsIn.trans harr (.one (fenced_calm hb hr rfl) stepR_inScope))⟩
 | exit id' =>
  have hx : exitTo id' (.inScope c :: k) = exitTo id' k := by simp [exitTo]
  exact ⟨.exit id', a₁, w₁, hq, fun k' hk => .head h0 stepR_scope (harr.1 k' (by rw [hx]; exact hk)),
   fun hr' hk => let ⟨k₁, h1, h2⟩ := harr.2 hr' (by rw [hx]; exact hk); ⟨k₁, h1, .head h0 stepR_scope h2⟩⟩
 | goto l => exact hq.elim
 | ret => exact ⟨_, a₁, w₁, hq, .of_steps (.one h0 stepR_scope) harr⟩
 | panic ch => exact ⟨_, a₁, w₁, hq, .of_steps (.one h0 stepR_scope) harr⟩
 | outgrown => exact ⟨_, a₁, w₁, hq, .of_steps (.one h0 stepR_scope) harr⟩
theorem exists_least (p : Nat → Prop) : ∀ n, p n → ∃ m, p m ∧ ∀ k, k < m → ¬ p k := by
 intro n
 induction n using Nat.strongRecOn with
 | _ n ih =>
  intro h
  by_cases hx : ∃ k, k < n ∧ p k
  ·obtain ⟨k, h1, h2⟩ := hx; exact ih k h1 h2
  ·exact ⟨n, h, fun k hk hp => hx ⟨k, hk, hp⟩⟩
section
variable {P : Program}
theorem wp_loop_num {ro : Option Nat} {c : Code} {Q : Exit → Act → World → Prop} {a : Act} {w : World} (I : Nat → Act → World → Prop) {n : Nat} (h₀ : I n a w)
  (round : ∀ n a w, I n a w → c.wpIn (Fo ro) 0 P (Exit.then (fun a' w' => ∃ m, m < n ∧ I m a' w') Q) a w) : (Code.loop c).wpIn (Fo ro) 0 P Q a w := by
 have hl : ∀ a w, (∃ n, I n a w) → ∃ m, I m a w ∧ ∀ k, k < m → ¬ I k a w := fun a w ⟨n, h⟩ => exists_least (fun n => I n a w) n h
 let μ : Act → World → Nat := fun a w => Classical.epsilon fun m => I m a w ∧ ∀ k, k < m → ¬ I k a w
 have hμ : ∀ a w, (∃ n, I n a w) → I (μ a w) a w ∧ ∀ k, k < μ a w → ¬ I k a w := fun a w h => Classical.epsilon_spec (hl a w h)
 refine wpIn_loop (fun a w => ∃ n, I n a w) μ ⟨n, h₀⟩ fun a w h => ?_
 refine wpIn_mono (round (μ a w) a w (hμ a w h).1) fun e a' w' hq => ?_
 cases e with
 | normal =>
  obtain ⟨m, hm, hi⟩ := hq
  refine ⟨⟨m, hi⟩, ?_⟩
  have h2 := hμ a' w' ⟨m, hi⟩
  rcases Nat.lt_or_ge m (μ a' w') with h3 | h3
  ·exact (h2.2 m h3 hi).elim
  ·omega
 | _ => exact hq
section
variable {w w0 w' : World} {R R0 R' : Rp} {M0 : List (Option Blk)} {s : St} {a : Act}
theorem Conc.addJ (hC : Conc w0 R0 M0 s R a w) {D : Nat} (h1 : D < w.heap.size) (h2 : w0.heap.size ≤ D) (h3 : ∀ id, live s.mem id → ¬ R.own id D) (h4 : w.heap[D]? = some (.deferred (some []))) (h5 : ¬ R.J D) :
  Conc w0 R0 M0 s ⟨R.n, R.ν, R.I, fun b => R.J b ∨ b = D, R.F⟩ { a with defers := { target := .collected D, args := #[] } :: a.defers } w := by
 have hext : Ext w R w ⟨R.n, R.ν, R.I, fun b => R.J b ∨ b = D, R.F⟩ := ⟨Nat.le_refl _, fun _ _ => rfl, fun _ h => h, fun _ h => .inl h, fun _ _ => rfl, fun _ _ => Fam.Le.refl _⟩
 have hf := hC.fr
 refine ⟨⟨hf.os, hf.tape, hf.output, hf.size, hf.block, ⟨hf.ok.n, fun id b hb => RepB.ext hext (hC.live_n ⟨b, hb⟩) rfl (fun _ _ => rfl) (hf.ok.rep id b hb), hf.ok.sep, fun id g hl hg => ?_, fun b hb => ?_, hf.ok.cell⟩, hf.kn, hf.ν, hf.i, fun b hb => ?_, hf.own, hf.f⟩, hC.len, hC.ext_env hext, ?_, hC.hk⟩
 ·refine ⟨(hf.ok.ij id g hl hg).1, fun h => h.elim (hf.ok.ij id g hl hg).2 fun e => ?_⟩
  subst e; exact h3 id hl hg
 ·rcases hb with h | h | h
  ·exact hf.ok.lt b (.inl h)
  ·exact hf.ok.lt b (.inr h)
  ·rw [h]; exact h1
 ·rcases hb with h | h
  ·exact hf.j b h
  ·rw [h]; exact .inr (.inl h2)
 ·obtain ⟨Ds, e1, e2, e3⟩ := hC.defers
  refine ⟨D :: Ds, by simp [e1], List.nodup_cons.2 ⟨fun hm => h5 (e3 D hm).1, e2⟩, fun D' hD => ?_⟩
  rcases List.mem_cons.1 hD with rfl | hD
  ·exact ⟨.inr rfl, h2, h4⟩
  ·exact ⟨.inl (e3 D' hD).1, (e3 D' hD).2⟩
theorem Conc.drop (h : Conc w0 R0 M0 s R a w) {id g : Nat} (hl : live s.mem id) (hg : w.grownBy w' (some g)) (hb : R.own id g) :
  Conc w0 R0 M0 ⟨s.k, s.env, s.mem.set id none⟩ R a w' := by
 have hrow : ∀ g', some g = some g' → ∃ id, live s.mem id ∧ R.own id g' := fun g' e => by cases e; exact ⟨id, hl, hb⟩
 have hext := h.grown_ext0 hg hrow
 have hlive : ∀ i, live (s.mem.set id none) i → i ≠ id ∧ live s.mem i := fun i hi => by
  rcases live_set hi with h2 | ⟨_, _, x, hx⟩
  ·exact h2
  ·cases hx
 refine ⟨⟨hg.os.trans h.fr.os, hg.tape.trans h.fr.tape, hg.output.trans h.fr.output, Nat.le_trans h.fr.size hg.size, h.frBlock hg hrow, ⟨by simp [h.fr.ok.n], ?_, ?_, ?_, ?_, h.fr.ok.cell⟩, h.fr.kn, ?_, h.fr.i, h.fr.j, ?_, h.fr.f⟩, h.len, h.ext_env hext, h.defers.ext hext, h.hk⟩
 ·intro i x hx
  have hl' := hlive i ⟨x, hx⟩
  rw [List.getElem?_set] at hx
  split at hx
  ·split at hx <;> cases hx
  ·refine RepB.ext hext (h.live_n ⟨x, hx⟩) rfl (fun g' hgb => hg.block g' ((h.fr.ok.rep i x hx).own_lt hgb) fun er => ?_) (h.fr.ok.rep i x hx)
   cases er
   exact hl'.1 (h.fr.ok.sep i id g ⟨x, hx⟩ hl hgb hb)
 ·intro i j g hi hj; exact h.fr.ok.sep i j g (hlive i hi).2 (hlive j hj).2
 ·intro i g hi; exact h.fr.ok.ij i g (hlive i hi).2
 ·intro b hb; exact Nat.lt_of_lt_of_le (h.fr.ok.lt b hb) hg.size
 ·intro i hi; exact h.fr.ν i hi
 ·intro i g hi; exact h.fr.own i g (hlive i hi).2
theorem capsXV_get : ∀ (l : List (Nat × Nat)) (j : Nat), (capsXV l)[j]? = (l[j]?).map fun p => .one (.ptr p.1 p.2)
 | [], j => by simp [capsXV]
 | (i, o) :: l, 0 => by simp [capsXV]
 | (i, o) :: l, j + 1 => by simp [capsXV, capsXV_get l j]
theorem capsXV_len : ∀ (l : List (Nat × Nat)), (capsXV l).length = l.length
 | [] => rfl
 | (i, o) :: l => by simp [capsXV, capsXV_len l]
theorem putObj_grown (w : World) (g : Nat) (o : Obj) : w.grownBy (w.putObj g o) (some g) :=
 ⟨rfl, rfl, rfl, by simp, fun k _ hne => World.putObj_heap_other (fun e => hne (by rw [e]))⟩
theorem range_ok {g : Operand} {ps : Array Tmp} {as b : Code} {K : Exit → St → Prop} {Q : Exit → Act → World → Prop} (h : rangeA P (opnd s g) ps.toList as b s K) (hC : Conc w0 R0 M0 s R a w)
  (hQ : ∀ e s' R' a' w', K e s' → Conc w0 R0 M0 s' R' a' w' → Q e a' w') : (Code.rangeFunc g ps as b).wpIn (Fo none) 0 P Q a w := by
 unfold rangeA at h
 split at h
 ·rename_i f caps hg
  obtain ⟨k, env, mem⟩ := s
  simp only [fN_eq, snocL_eq, lenL_eq] at h
  obtain ⟨he, hI⟩ := h
  have hr := hC.eval g
  rw [hg] at hr
  obtain ⟨cvs, hv, hs, hp⟩ := hr
  have hn : R.n = mem.length := hC.fr.ok.n
  generalize hyv : Value.func (.yield (w.heap.size + 1)) #[] #[] = yv
  refine wpIn_rangeFunc fun fn _ => ?_
  let o1 : Obj := .deferred (some [])
  let o2 : Obj := .loop { state := .ready, pending := none, fn, tmps := a.tmps, params := ps, assign := as, body := b, defers := w.heap.size }
  have hw : ((w.alloc o1).alloc o2).heap = (w.heap.push o1).push o2 := rfl
  have hsz : ((w.alloc o1).alloc o2).heap.size = w.heap.size + 2 := by rw [hw]; simp
  have hgr : w.grownBy ((w.alloc o1).alloc o2) none := ⟨rfl, rfl, rfl, by omega, fun k hk _ => by
   rw [hw, Array.getElem?_push, if_neg (by simp; omega), Array.getElem?_push, if_neg (by omega)]⟩
  have hD : ((w.alloc o1).alloc o2).heap[w.heap.size]? = some o1 := by rw [hw, Array.getElem?_push, if_neg (by simp), Array.getElem?_push, if_pos rfl]
  have hL : ((w.alloc o1).alloc o2).heap[w.heap.size + 1]? = some o2 := by rw [hw, Array.getElem?_push, if_pos (by simp)]
  have hext := hC.grown_ext hgr (fun g e => by cases e) yv
  have C1 : Conc w0 R0 M0 ⟨k, env, mem ++ [some (.loop ps.toList as b env .ready)]⟩ (R.add yv) a ((w.alloc o1).alloc o2) :=
   hC.grow hgr mem none rfl (fun g e => by cases e) (fun g e => by subst hyv; cases e; exact .inl (Nat.le_succ _))
    ⟨w.heap.size + 1, _, by rw [Rp.add_new, hyv], hL, rfl, rfl, rfl, hC.len.symm, hC.ext_env hext, rfl, rfl⟩
  have hnl : ∀ id, live (mem ++ [some (.loop ps.toList as b env .ready)]) id → ¬ (R.add yv).own id w.heap.size := fun id hl e => by
   rcases live_app hl with hl | hl
   ·replace e := (Rp.add_own (hC.live_n hl)).1 e
    obtain ⟨x, hx⟩ := hl
    have := (hC.fr.ok.rep id x hx).own_lt e
    omega
   ·rw [hl, ← hn] at e
    replace e := Rp.add_ownnew e
    rw [← hyv] at e
    simp [hblk] at e
  have C2 := C1.addJ (D := w.heap.size) (by rw [hsz]; omega) hC.fr.size hnl hD (fun hj => by have := hC.fr.ok.lt _ (.inr hj); omega)
  have hargs : RepXs ((w.alloc o1).alloc o2) ⟨(R.add yv).n, (R.add yv).ν, (R.add yv).I, fun x => (R.add yv).J x ∨ x = w.heap.size, (R.add yv).F⟩ (.one (.yld mem.length) :: capsXV caps) (#[yv] ++ cvs) := by
   refine ⟨by simp [capsXV_len, hs, Nat.add_comm], fun j x hx => ?_⟩
   cases j with
   | zero =>
    simp at hx; subst hx
    refine ⟨?_, ?_⟩
    ·show mem.length < R.n + 1
     omega
    ·rw [← hn]
     show _ = (R.add yv).ν R.n
     rw [Rp.add_new]
     simp [Array.getD_eq_getD_getElem?, Array.getElem?_append]
   | succ j =>
    simp only [List.getElem?_cons_succ, capsXV_get, Option.map_eq_some_iff] at hx
    obtain ⟨p, hp', rfl⟩ := hx
    have h1 := hp j p hp'
    have h2 : (#[yv] ++ cvs).getD (j + 1) undef = cvs.getD j undef := by simp [Array.getD_eq_getD_getElem?, Array.getElem?_append]
    rw [h2]
    have h3 : RepP (R.add yv) p.1 p.2 (cvs.getD j undef) := h1.ext hext
    exact h3
  refine ⟨w.heap.size + 1, [{ target := .collected w.heap.size, args := #[] }], (w.alloc o1).alloc o2, ⟨.fn (.func f) cvs, #[yv]⟩, (w.alloc o1).alloc o2, f, #[yv] ++ cvs, (w.alloc o1).alloc o2, run_enterLoop_outer fn a.tmps ps as b, ?_, fun _ _ => trivial, ?_, fun hh => (by cases hh), ?_⟩
  ·simp [resolve, hv, hyv, Deferred.ofValue]
   rfl
  ·have := he (#[yv] ++ cvs) ((w.alloc o1).alloc o2)
   simpa [invoke] using this
  ·refine callsIn_fo.2 ((hI _ _ _ hargs C2.fr.ok).mono ?_)
   rintro e w' ⟨v, m', R', rfl, hq, hf⟩
   have C3 := C2.after hf
   unfold afterRange at hq
   split at hq
   ·rename_i ps' as' b' env' p hm'
    rw [getL_eq] at hm'
    rw [setL_eq] at hq
    obtain ⟨l, r, hν, hh, _, _, _, _, _, hpd⟩ := C3.fr.ok.rep mem.length _ hm'
    have hν' : R'.ν mem.length = yv := by
     rw [hf.ν mem.length (by simp)]
     show (R.add yv).ν mem.length = yv
     rw [← hn, Rp.add_new]
    have hν2 : R'.ν mem.length = .func (.yield l) #[] #[] := hν
    rw [hν', ← hyv] at hν2
    cases hν2
    have C4 := C3.drop (w' := w'.putObj (w.heap.size + 1) (.loop { r with state := .exhausted })) ⟨_, hm'⟩ (putObj_grown _ _ _) (.inl (by rw [hν]; rfl))
    have hb : r.state ≠ .busy := by
     intro hb
     cases p with
     | ready => rw [hpd.1] at hb; cases hb
     | busy => exact hq
     | done e => cases e <;> first | (rw [hpd.1] at hb; cases hb) | exact hpd
    refine ⟨r.pending, _, run_endLoop hh hb, ?_⟩
    generalize (w'.putObj (w.heap.size + 1) (.loop { r with state := .exhausted })) = w4 at C4
    cases p with
    | ready => rw [hpd.2]; exact hQ _ _ _ _ _ hq C4
    | busy => exact hq.elim
    | done e =>
     cases e with
     | ret => rw [hpd.2]; exact wpIn_ret (hQ _ _ _ _ _ hq C4)
     | exit i => rw [hpd.2]; exact wpIn_exit (hQ _ _ _ _ _ hq C4)
     | _ => exact hpd.elim
   ·exact hq.elim
 ·cases h
end
theorem awp_ok (hm : P.follows .mixedOrders = true) {O : List (Nat × RO)} (ro : Option Nat) {M0 : List (Option Blk)} {w0 : World} {R0 : Rp} : ∀ (c : Code) (s : St) (K : Exit → St → Prop) (Q : Exit → Act → World → Prop) (R : Rp) (a : Act) (w : World), codeOK' O ro.isSome c = true → awp P O c s K → Conc w0 R0 M0 s R a w →
  (∀ e s' R' a' w', K e s' → Conc w0 R0 M0 s' R' a' w' → Q e a' w') → c.wpIn (Fo ro) 0 P Q a w := by
 intro c
 induction c with
 | skip => intro s K Q R a w _ h hC hQ; exact wpIn_skip (hQ _ s R a w h hC)
 | label l => intro s K Q R a w _ h hC hQ; exact wpIn_label (hQ _ s R a w h hC)
 | region id ops draw => intro s K Q R a w hok h hC hQ; exact region_ok hm ro hok h hC fun s' R' a' w' hk hC' => hQ _ s' R' a' w' hk hC'
 | seq x y ihx ihy =>
  intro s K Q R a w hok h hC hQ
  simp only [codeOK', Bool.and_eq_true] at hok
  refine wpIn_seq (ihx s _ _ R a w hok.1 h hC fun e s' R' a' w' hk hC' => ?_)
  cases e with
  | normal => exact ihy s' K Q R' a' w' hok.2 hk hC' hQ
  | _ => exact hQ _ s' R' a' w' hk hC'
 | cond x t e iht ihe =>
  intro s K Q R a w hok h hC hQ
  simp only [codeOK', Bool.and_eq_true] at hok
  have way : ∀ (K : Exit → St → Prop) (Q : Exit → Act → World → Prop), (splitB (opnd s x) (condT x) s fun b s' => match b with
    | true => awp P O t s' K
    | false => awp P O e s' K) → (∀ e s' R' a' w', K e s' → Conc w0 R0 M0 s' R' a' w' → Q e a' w') → (Code.cond x t e).wpIn (Fo ro) 0 P Q a w := by
   intro K Q h hQ
   obtain ⟨b, s', hb, hk, hC', _⟩ := splitB_ok h hC (hC.eval x) (fun d hd => by
    cases x with
    | tmp n => cases hd; rfl
    | _ => cases hd)
   refine wpIn_cond hb ?_
   cases b with
   | true => exact iht s' K Q R a w hok.1 hk hC' hQ
   | false => exact ihe s' K Q R a w hok.2 hk hC' hQ
  unfold awp at h
  split at h
  ·rcases h with h | ⟨Rel, h, k⟩
   ·exact way K Q h hQ
   ·refine way _ Q h fun e s' R' a' w' hk hC' => ?_
    cases e with
    | normal =>
     obtain ⟨s2, h1, h2⟩ := hk
     obtain ⟨R2, hC2⟩ := Le_ok h2 hC'
     exact hQ _ _ _ _ _ (k _ h1) hC2
    | _ => exact hQ _ _ _ _ _ hk hC'
  ·exact way K Q h hQ
 | block id b ih =>
  intro s K Q R a w hok h hC hQ
  refine wpIn_block (ih s _ _ R a w hok h hC fun e s' R' a' w' hk hC' => ?_)
  cases e with
  | exit id' =>
   simp only [Exit.inBlock]
   have hk' : (match Nat.beq id' id with
    | true => K Exit.normal s'
    | false => K (Exit.exit id') s') := hk
   cases hq : Nat.beq id' id with
   | true =>
    rw [hq] at hk'
    rw [if_pos (Nat.eq_of_beq_eq_true hq)]
    exact hQ _ s' R' a' w' hk' hC'
   | false =>
    rw [hq] at hk'
    rw [if_neg (fun e => by subst e; rw [Nat.beq_refl] at hq; cases hq)]
    exact hQ _ s' R' a' w' hk' hC'
  | _ => exact hQ _ s' R' a' w' hk hC'
 | scope b ih =>
  intro s K Q R a w hok h hC hQ
  refine wpIn_scope (ih s _ _ R a w hok h hC fun e s' R' a' w' hk hC' => ?_)
  cases e with
  | goto l => exact hk.elim
  | _ => exact hQ _ s' R' a' w' hk hC'
 | loop b ih =>
  intro s K Q R a w hok h hC hQ
  rcases h with ⟨Inv, n, s', hi, hl, round⟩ | ⟨Inv, n, hi, round⟩ | ⟨n, h⟩ | ⟨Inv, n, s', Rel, hi, hl, round, k⟩
  ·obtain ⟨R', hC'⟩ := Le_ok hl hC
   refine wp_loop_num (ro := ro) (fun n a w => ∃ s R, Inv n s ∧ Conc w0 R0 M0 s R a w) (n := n) ⟨s', R', hi, hC'⟩ ?_
   rintro m a1 w1 ⟨s1, R1, hi1, hC1⟩
   refine ih s1 _ _ R1 a1 w1 hok (round m s1 hi1) hC1 fun e t R2 a2 w2 hk hC2 => ?_
   cases e with
   | normal =>
    obtain ⟨m', s3, hlt, hi3, hl3⟩ := hk
    obtain ⟨R3, hC3⟩ := Le_ok hl3 hC2
    exact ⟨m', hlt, s3, R3, hi3, hC3⟩
   | _ => exact hQ _ t R2 a2 w2 hk hC2
  ·refine wp_loop_num (ro := ro) (fun n a w => ∃ s R, Inv n s ∧ Conc w0 R0 M0 s R a w) (n := n) ⟨s, R, hi, hC⟩ ?_
   rintro m a1 w1 ⟨s1, R1, hi1, hC1⟩
   refine ih s1 _ _ R1 a1 w1 hok (round m s1 hi1) hC1 fun e t R2 a2 w2 hk hC2 => ?_
   cases e with
   | normal =>
    obtain ⟨m', hlt, hi3⟩ := hk
    exact ⟨m', hlt, t, R2, hi3, hC2⟩
   | _ => exact hQ _ t R2 a2 w2 hk hC2
  ·refine wp_loop_num (ro := ro) (fun n a w => ∃ s R, unr (fun s K => awp P O b s K) K n s ∧ Conc w0 R0 M0 s R a w) (n := n) ⟨s, R, h, hC⟩ ?_
   rintro m a1 w1 ⟨s1, R1, hi1, hC1⟩
   cases m with
   | zero => exact hi1.elim
   | succ m =>
    refine ih s1 _ _ R1 a1 w1 hok hi1 hC1 fun e t R2 a2 w2 hk hC2 => ?_
    cases e with
    | normal => exact ⟨m, Nat.lt_succ_self m, t, R2, hk, hC2⟩
    | _ => exact hQ _ t R2 a2 w2 hk hC2
  ·obtain ⟨R', hC'⟩ := Le_ok hl hC
   refine wp_loop_num (ro := ro) (fun n a w => ∃ s R, Inv n s ∧ Conc w0 R0 M0 s R a w) (n := n) ⟨s', R', hi, hC'⟩ ?_
   rintro m a1 w1 ⟨s1, R1, hi1, hC1⟩
   refine ih s1 _ _ R1 a1 w1 hok (round m s1 hi1) hC1 fun e t R2 a2 w2 hk hC2 => ?_
   cases e with
   | normal =>
    obtain ⟨m', s3, hlt, hi3, hl3⟩ := hk
    obtain ⟨R3, hC3⟩ := Le_ok hl3 hC2
    exact ⟨m', hlt, s3, R3, hi3, hC3⟩
   | _ =>
    obtain ⟨s3, hr3, hl3⟩ := hk
    obtain ⟨R3, hC3⟩ := Le_ok hl3 hC2
    exact hQ _ _ _ _ _ (k _ _ hr3) hC3
 | exit id => intro s K Q R a w _ h hC hQ; exact wpIn_exit (hQ _ s R a w h hC)
 | ret => intro s K Q R a w _ h hC hQ; exact wpIn_ret (hQ _ s R a w h hC)
 | goto l => intro s K Q R a w _ h; exact h.elim
 | rangeFunc f ps as b _ _ =>
  intro s K Q R a w hok h hC hQ
  cases ro with
  | some l => simp [codeOK'] at hok
  | none => exact range_ok h hC hQ
 | refuse y => intro s K Q R a w _ h; exact h.elim
section
variable {w w0 : World} {R R0 : Rp} {M0 : List (Option Blk)} {s : St} {a : Act} {D : Nat}
theorem RepC.shut (hD : w.heap[D]? = some (.deferred (some []))) {S : Nat → Prop} {k : CK} {c : Cell} {v : Value} (h : RepC w S k c v) : RepC (w.putObj D (.deferred none)) S k c v := by
 induction h with
 | int k n => exact .int k n
 | bool b => exact .bool b
 | str s => exact .str s
 | fn f => exact .fn f
 | sl ks rows a cap cv hcap hlen ha hc ih =>
  refine .sl ks rows a cap cv hcap hlen (fun hne => ?_) ih
  obtain ⟨ad, e, hs, hcell⟩ := ha hne
  refine ⟨ad, e, hs, fun i r f c k h1 h2 h3 => ?_⟩
  have h4 := hcell i r f c k h1 h2 h3
  refine (World.cell?_of_block (World.putObj_heap_other fun e => ?_)).trans h4
  rw [World.cell?, e, hD] at h4
  cases h4
 | pt ks row ad cap h0 _ ih => exact .pt ks row ad cap h0 ih
theorem RepS.shut (hD : w.heap[D]? = some (.deferred (some []))) {v : SV} {u : Value} (h : RepS w R v u) : RepS (w.putObj D (.deferred none)) R v u := by
 cases v with
 | lst al ks a => exact RepC.shut hD h
 | lel al ks a i f =>
  obtain ⟨ad, cap, hc, hi, hv⟩ := h
  exact ⟨ad, cap, RepC.shut hD hc, hi, hv⟩
 | _ => exact h
theorem RepL.shut (hD : w.heap[D]? = some (.deferred (some []))) {l : List SV} {cs : Array Value} (h : RepL w R l cs) : RepL (w.putObj D (.deferred none)) R l cs := ⟨h.1, fun j v hv => RepS.shut hD (h.2 j v hv)⟩
theorem RepX.shut (hD : w.heap[D]? = some (.deferred (some []))) {v : XV} {u : Value} (h : RepX w R v u) : RepX (w.putObj D (.deferred none)) R v u := by
 cases v with
 | one s => exact RepS.shut hD h
 | agg l => obtain ⟨cs, e, hl⟩ := h; exact ⟨cs, e, RepL.shut hD hl⟩
theorem RepA.shut (hD : w.heap[D]? = some (.deferred (some []))) {v : AV} {u : Value} (h : RepA w R v u) : RepA (w.putObj D (.deferred none)) R v u := by
 cases v with
 | x x => exact RepX.shut hD h
 | tup l => obtain ⟨vs, e, h1, h2⟩ := h; exact ⟨vs, e, h1, fun j x hx => RepX.shut hD (h2 j x hx)⟩
theorem RepB.shut (hD : w.heap[D]? = some (.deferred (some []))) {id : Nat} {b : Blk} (hne : ¬ R.own id D) (h : RepB w R id b) : RepB (w.putObj D (.deferred none)) R id b := by
 have hb : ∀ g, hblk (R.ν id) = some g → (w.putObj D (.deferred none)).heap[g]? = w.heap[g]? := fun g hg => World.putObj_heap_other fun e => hne (by subst e; exact .inl hg)
 cases b with
 | box t cs =>
  obtain ⟨g, vals, hv, hh, hl⟩ := h
  exact ⟨g, vals, hv, (hb g (by rw [hv]; rfl)).trans hh, RepL.shut hD hl⟩
 | gbox g ks row =>
  obtain ⟨hv, hl⟩ := h
  exact ⟨hv, RepS.shut hD hl⟩
 | row e al ks a =>
  obtain ⟨xs, ho, hlen, hc⟩ := h
  refine ⟨xs, ownsRow_of_heap ho hb, hlen, fun i r f c k h1 h2 h3 => ?_⟩
  obtain ⟨v, hx, hv⟩ := hc i r f c k h1 h2 h3
  exact ⟨v, hx, RepC.shut hD hv⟩
 | loop ps as b env p =>
  obtain ⟨l, r, hv, hh, h1, h2, h3, h4, h5, h6⟩ := h
  exact ⟨l, r, hv, (hb l (by rw [hv]; rfl)).trans hh, h1, h2, h3, h4, fun j x hx => RepA.shut hD (h5 j x hx), h6⟩
 | mp ka va kk ks l p =>
  obtain ⟨g, es, clock, hv, hh, hm, hp⟩ := h
  exact ⟨g, es, clock, hv, (hb g (by rw [hv]; rfl)).trans hh, hm, hp⟩
 | prow e G n =>
  obtain ⟨h1, h2, xs, ho, hx⟩ := h
  exact ⟨h1, h2, xs, ownsRow_of_heap ho hb, hx⟩
 | fam t ks rows ms =>
  obtain ⟨hv, hf⟩ := h
  exact ⟨hv, hf.keep fun g hg => World.putObj_heap_other fun e => hne (by subst e; exact .inr ⟨hv, hg⟩)⟩
 | ptrs e z p =>
  obtain ⟨g, v, hv, hh, hp⟩ := h
  exact ⟨g, v, hv, (hb g (by rw [hv]; rfl)).trans hh, hp⟩
 | mit G i since seen cur =>
  obtain ⟨h1, h2, r, c0, hv, hh, h3⟩ := h
  exact ⟨h1, h2, r, c0, hv, (hb r (by rw [hv]; rfl)).trans hh, h3⟩
theorem Conc.shut {ds : List Deferred} (hC : Conc w0 R0 M0 s R a w) (hd : a.defers = { target := .collected D, args := #[] } :: ds) :
  w.heap[D]? = some (.deferred (some [])) ∧ Conc w0 R0 M0 s R { a with defers := ds } (w.putObj D (.deferred none)) := by
 obtain ⟨Ds, e1, e2, e3⟩ := hC.defers
 cases Ds with
 | nil => rw [hd] at e1; cases e1
 | cons D' Ds =>
  rw [hd] at e1
  simp only [List.map_cons, List.cons.injEq, Deferred.mk.injEq, Target.collected.injEq, and_true] at e1
  obtain ⟨e4, e5⟩ := e1
  subst e4
  obtain ⟨h1, h2, h3⟩ := e3 D (List.mem_cons_self ..)
  have hf := hC.fr
  refine ⟨h3, ⟨⟨hf.os, hf.tape, hf.output, by simpa using hf.size, fun b hb hn => (World.putObj_heap_other fun e => ?_).trans (hf.block b hb hn), ⟨hf.ok.n, fun id b hb => RepB.shut h3 (fun e => (hf.ok.ij id D ⟨b, hb⟩ e).2 h1) (hf.ok.rep id b hb), hf.ok.sep, hf.ok.ij, fun b hb => by simpa using hf.ok.lt b hb, hf.ok.cell⟩, hf.kn, hf.ν, hf.i, hf.j, hf.own, hf.f⟩, hC.len, fun i v hv => RepA.shut h3 (hC.env i v hv), ⟨Ds, e5, (List.nodup_cons.1 e2).2, fun D2 hD2 => ?_⟩, hC.hk⟩⟩
  ·omega
  ·obtain ⟨k1, k2, k3⟩ := e3 D2 (List.mem_cons_of_mem _ hD2)
   refine ⟨k1, k2, (World.putObj_heap_other fun e => ?_).trans k3⟩
   subst e
   exact (List.nodup_cons.1 e2).1 hD2
theorem leaves_ok {fn : Func} {Rr : Ending → World → Prop} : ∀ (ds : List Deferred) (a : Act) (w : World), a.defers = ds → Conc w0 R0 M0 s R a w →
  (∀ (a' : Act) (w' : World), a'.tmps = a.tmps → Conc w0 R0 M0 s R a' w' → ∃ v, (results fn a'.tmps).run P w' = .ok v w' ∧ Rr (.returned v) w') → LeavesInM (Fo none) 0 P fn a.tmps Rr ds .returning w
 | [], a, w, _, hC, h => h a w rfl hC
 | d :: ds, a, w, hd, hC, h => by
  obtain ⟨Ds, e1, _, _⟩ := hC.defers
  cases Ds with
  | nil => rw [hd] at e1; cases e1
  | cons D Ds =>
   have hdD : d = { target := .collected D, args := #[] } := by rw [hd] at e1; exact (List.cons.inj e1).1
   subst hdD
   obtain ⟨h1, h2⟩ := hC.shut hd
   refine ⟨fun e => (by cases e), .inl ⟨D, _, rfl, run_takeDeferred h1, ?_⟩⟩
   exact leaves_ok ds { a with defers := ds } _ rfl h2 (fun a' w' ht hC' => h a' w' ht hC')
end
section
variable {w w0 : World} {R R0 : Rp} {M0 : List (Option Blk)} {s : St} {a : Act}
theorem Conc.resV (hC : Conc w0 R0 M0 s R a w) {r : ResultVar} {x : XV} (h : resV P s r = some x) : ∃ v, (match r with
  | .tmp t => (pure (a.tmps.getD t undef) : Sem Value)
  | .cell ad t => do loadVar t (← asAddr (a.tmps.getD ad undef))).run P w = .ok v w ∧ RepX w R x v := by
 unfold Go.Sx.resV at h
 split at h
 ·rename_i t
  split at h
  ·rename_i v hv
   cases h
   have := hC.get t
   rw [hv] at this
   exact ⟨_, rfl, this⟩
  ·cases h
 ·rename_i ad t
  split at h
  ·rename_i id o n hg hn ht
   split at h
   ·rename_i bt cs hb
    split at h
    ·split at h
     ·rename_i sv hv
      cases h
      rw [getL_eq] at hv
      have hx := hC.get ad
      rw [hg] at hx
      obtain ⟨_, g, hgν, hxe⟩ := hx
      obtain ⟨v, hcell, hr⟩ := box_cell (hC.box hb) hgν hv
      refine ⟨v, ?_, hr⟩
      have := run_loadVar_one (P := P) ht _ v hcell w (Same.refl w)
      simp only [Instr.loadAt, Instr.sureAddr, Sem.run_bind, Sem.run_pure, Result.andThen_ok] at this
      simp only [hxe, asAddr, Sem.run_bind, Sem.run_pure, Result.andThen_ok, this]
     ·cases h
    ·cases h
   ·cases h
  ·rename_i id o n0 n hg hn ht
   split at h
   ·rename_i bt cs hb
    split at h
    ·rename_i hq
     cases h
     have hx := hC.get ad
     rw [hg] at hx
     have hl : loadA P s t (.x (.one (.ptr id o))) (fun av => av = .x (.agg (takeL (dropL cs o) n))) := by
      unfold loadA
      rw [ht]
      simp only [hb]
      rw [if_pos hq]
      trivial
     obtain ⟨v, av, hk, hr, hrun⟩ := loadA_ok hl hC hx
     rw [hk] at hr
     obtain ⟨_, g, hgν, hxe⟩ := hx
     refine ⟨v, ?_, hr⟩
     have := hrun w (Same.refl w)
     rw [hxe] at this
     simp only [Instr.loadAt, Instr.sureAddr, Sem.run_bind, Sem.run_pure, Result.andThen_ok] at this
     simp only [hxe, asAddr, Sem.run_bind, Sem.run_pure, Result.andThen_ok, this]
    ·cases h
   ·cases h
  ·cases h
theorem Conc.resVs (hC : Conc w0 R0 M0 s R a w) : ∀ (l : List ResultVar) (xs : List XV), resVs P s l = some xs → ∃ vs : List Value, (l.mapM fun (x : ResultVar) => match x with
  | .tmp t => (pure (a.tmps.getD t undef) : Sem Value)
  | .cell ad t => do loadVar t (← asAddr (a.tmps.getD ad undef))).run P w = .ok vs w ∧ vs.length = xs.length ∧ ∀ (j : Nat) x, xs[j]? = some x → ∃ v, vs[j]? = some v ∧ RepX w R x v
 | [], xs, h => by cases h; exact ⟨[], by simp, rfl, fun j x h => by simp at h⟩
 | r :: l, xs, h => by
  unfold Go.Sx.resVs at h
  split at h
  ·rename_i x xs' hx hxs
   cases h
   obtain ⟨v, h1, h2⟩ := hC.resV hx
   obtain ⟨vs, h3, h4, h5⟩ := hC.resVs l xs' hxs
   refine ⟨v :: vs, ?_, by simp [h4], fun j y hy => ?_⟩
   ·have e1 : ∀ (m : Sem Value) (g : Value → World → Result (List Value)), m.run P w = .ok v w → (m.run P w).andThen g = g v w := fun m g h => by rw [h]; rfl
    rw [List.mapM_cons, Sem.run_bind]
    refine (e1 _ _ h1).trans ?_
    simp only [Sem.run_bind, h3, Result.andThen_ok, Sem.run_pure]
   ·cases j with
    | zero => simp at hy; subst hy; exact ⟨v, rfl, h2⟩
    | succ j => simpa using h5 j y (by simpa using hy)
  ·cases h
theorem xsA_get : ∀ (l : List XV) (j : Nat), (xsA l)[j]? = (l[j]?).map .x
 | [], j => by simp [xsA]
 | v :: l, 0 => by simp [xsA]
 | v :: l, j + 1 => by simp [xsA, xsA_get l j]
theorem xsA_len : ∀ (l : List XV), (xsA l).length = l.length
 | [] => rfl
 | v :: l => by simp [xsA, xsA_len l]
theorem anysA_get : ∀ (n j : Nat) (x : AV), (anysA n)[j]? = some x → x = .any
 | 0, j, x, h => by simp [anysA] at h
 | n + 1, 0, x, h => by simp [anysA] at h; exact h.symm
 | n + 1, j + 1, x, h => anysA_get n j x (by simpa [anysA] using h)
theorem anysA_len : ∀ (n : Nat), (anysA n).length = n
 | 0 => rfl
 | n + 1 => by simp [anysA, anysA_len n]
theorem somes_eq : ∀ (l : List Blk), somes l = l.map some
 | [] => rfl
 | b :: l => by simp [somes, somes_eq l]
def startM (nt : Nat) (args : List XV) (m : List (Option Blk)) : St := ⟨lenL m, xsA args ++ anysA (nt - lenL args), m⟩
theorem conc_start {nt : Nat} {args : List XV} {M : List (Option Blk)} {w : World} {R : Rp} {vs : Array Value} (hargs : RepXs w R args vs) (hmem : MemOK w R M) :
  Conc w R M (startM nt args M) R { tmps := vs ++ Array.replicate (nt - vs.size) undef, defers := [] } w := by
 refine ⟨⟨rfl, rfl, rfl, Nat.le_refl _, fun _ _ _ => rfl, hmem, by rw [hmem.n]; exact Nat.le_refl _, fun _ _ => rfl, fun _ => Iff.rfl, fun _ h => .inl h, fun id g hl hg => .inr ⟨id, hl, hg⟩, fun _ _ => Fam.Le.refl _⟩, ?_, fun i v hv => ?_, Marks.nil .., by simp only [startM, lenL_eq]⟩
 ·simp only [startM, List.length_append, xsA_len, anysA_len, lenL_eq, Array.size_append, Array.size_replicate, hargs.1]
 ·simp only [startM] at hv
  rw [List.getElem?_append, xsA_len] at hv
  split at hv
  ·rename_i hi
   rw [xsA_get] at hv
   simp only [Option.map_eq_some_iff] at hv
   obtain ⟨x, hx, rfl⟩ := hv
   have := hargs.2 i x hx
   rw [Array.getD_eq_getD_getElem?] at this ⊢
   rw [Array.getElem?_append, if_pos (by rw [hargs.1]; exact hi)]
   exact this
  ·rw [anysA_get _ _ _ hv]; exact RepA.any _ _ _
theorem calls_of_awp (hm : P.follows .mixedOrders = true) {O : List (Nat × RO)} {f : FuncId} {fn : Func} {c : Code} (hf : P.funcs[f]? = some fn) (hb : fn.body = some c) (hok : codeOK O c = true)
  {args : List XV} {M : List (Option Blk)} {K : Exit → St → Prop} (h : awp P O c (startM fn.ntmps args M) K) {w : World} {R : Rp} {vs : Array Value} (hargs : RepXs w R args vs) (hmem : MemOK w R M) {Rr : Ending → World → Prop}
  (hfin : ∀ e s' R' a' w', K e s' → Conc w R M s' R' a' w' → (e = .normal ∨ e = .ret) ∧ ∃ v, (results fn a'.tmps).run P w' = .ok v w' ∧ Rr (.returned v) w') : Calls P f vs w Rr := by
 refine callsIn_fo (ro := none) (n := 0).1 (callsIn_of_wp_marks hf hb trivial ?_)
 refine awp_ok hm none c _ _ _ R _ w hok h (conc_start hargs hmem) fun e s' R' a' w' hk hC' => ?_
 have fin := leaves_ok (P := P) (fn := fn) (Rr := Rr) a'.defers a' w' rfl hC' fun a2 w2 _ hC2 => (hfin e s' R' a2 w2 hk hC2).2
 rcases (hfin e s' R' a' w' hk hC').1 with rfl | rfl
 ·exact fin
 ·exact fin
theorem isem_of_awp (hm : P.follows .mixedOrders = true) (O : List (Nat × RO)) {f : FuncId} {fn : Func} {c : Code} (hf : P.funcs[f]? = some fn) (hb : fn.body = some c) (hok : codeOK O c = true) {nt : Nat} (hnt : fn.ntmps = nt) (hres : fn.results.toList = [])
  {args : List XV} {M : List (Option Blk)} {Q : List (Option Blk) → Prop} (h : awp P O c (startM nt args M) fun e s => match e with
   | .normal => Q s.mem
   | .ret => Q s.mem
   | _ => False) : ISem P f args M Q := by
 subst hnt
 intro w R vs hargs hmem
 refine calls_of_awp hm hf hb hok h hargs hmem fun e s' R' a' w' hk hC' => ?_
 have hq : (e = .normal ∨ e = .ret) ∧ Q s'.mem := by
  cases e <;> first | exact ⟨.inl rfl, hk⟩ | exact ⟨.inr rfl, hk⟩ | exact hk.elim
 refine ⟨hq.1, .tuple #[], ?_, _, s'.mem, R', rfl, hq.2, hC'.fr⟩
 have hr : fn.results = #[] := Array.toList_inj.1 (by simpa using hres)
 simp [results, hr]
def roundEnd (id : Nat) (Q : Bool → List (Option Blk) → Prop) (e : Exit) (s : St) : Prop :=
 match getL s.mem id with
 | some (some (.loop ps as b env .busy)) => match e with
  | .normal => setL s.mem id (some (.loop ps as b env .ready)) fun m => Q true m
  | .ret => setL s.mem id (some (.loop ps as b env (.done .ret))) fun m => Q false m
  | .exit i => setL s.mem id (some (.loop ps as b env (.done (.exit i)))) fun m => Q false m
  | _ => False
 | _ => False
def setPs : List AV → List Nat → List XV → (List AV → Prop) → Prop
 | env, p :: ps, x :: xs, K => fA (.x x) fun x => setL env p x fun env => setPs env ps xs K
 | env, [], [], K => K env
 | _, _, _, _ => False
end
end
end Go.Sx


namespace Go.Sx
open Go Go.RowKit
section
variable {P : Program}
section
variable {w w0 : World} {R R0 : Rp} {M0 : List (Option Blk)} {s : St} {a : Act}
theorem setPs_ok : ∀ (ps : List Nat) (xs : List XV) (env : List AV) (K : List AV → Prop) (tmps : Array Value) (vs : List Value), setPs env ps xs K → env.length = tmps.size → (∀ (j : Nat) x, env[j]? = some x → RepA w R x (tmps.getD j undef)) →
  vs.length = xs.length → (∀ (j : Nat) x, xs[j]? = some x → ∃ v, vs[j]? = some v ∧ RepX w R x v) →
  ps.length = xs.length ∧ ∃ env', K env' ∧ env'.length = ((ps.zip vs).foldl (fun tmps (t, a) => tmps.setIfInBounds t a) tmps).size ∧ ∀ (j : Nat) x, env'[j]? = some x → RepA w R x (((ps.zip vs).foldl (fun tmps (t, a) => tmps.setIfInBounds t a) tmps).getD j undef)
 | [], [], env, K, tmps, vs, h, hl, hr, hv, _ => ⟨rfl, env, h, by simpa using hl, by simpa using hr⟩
 | p :: ps, x :: xs, env, K, tmps, [], h, hl, hr, hv, _ => by simp at hv
 | p :: ps, x :: xs, env, K, tmps, v :: vs, h, hl, hr, hv, hx => by
  simp only [setPs, fA_eq, setL_eq] at h
  obtain ⟨v', hv', hr'⟩ := hx 0 x rfl
  simp at hv'; subst hv'
  have := setPs_ok ps xs (env.set p (.x x)) K (tmps.setIfInBounds p v) vs h (by simpa using hl) (fun j y hy => by
   rw [List.getElem?_set] at hy
   rw [Array.getD_eq_getD_getElem?, Array.getElem?_setIfInBounds]
   split at hy
   ·rename_i hp
    subst hp
    split at hy
    ·rename_i hlt
     cases hy
     have hlt' : p < tmps.size := by rw [← hl]; exact hlt
     simp [hlt']
     exact hr'
    ·cases hy
   ·rename_i hp
    rw [if_neg hp]
    have := hr j y hy
    rwa [Array.getD_eq_getD_getElem?] at this) (by simpa using hv) (fun j y hy => by simpa using hx (j + 1) y (by simpa using hy))
  refine ⟨by simp [this.1], ?_⟩
  simpa using this.2
 | [], _ :: _, _, _, _, _, h, _, _, _, _ => h.elim
 | _ :: _, [], _, _, _, _, h, _, _, _, _ => h.elim
theorem Conc.setLoop (hC : Conc w0 R0 M0 s R a w) {id l : Nat} {ps : List Nat} {as b : Code} {env : List AV} {p p' : LP} (hb : s.mem[id]? = some (some (.loop ps as b env p))) (hν : R.ν id = .func (.yield l) #[] #[]) :
  ∃ r, w.heap[l]? = some (.loop r) ∧ pendOK p r ∧ ∀ (st : LoopState) (pd : Option Code), pendOK p' { r with state := st, pending := pd } → Conc w0 R0 M0 ⟨s.k, s.env, s.mem.set id (some (.loop ps as b env p'))⟩ R a (w.putObj l (.loop { r with state := st, pending := pd })) := by
 obtain ⟨l', r, hv, hh, h1, h2, h3, h4, h5, h6⟩ := hC.fr.ok.rep id _ hb
 rw [hν] at hv
 simp only [Value.func.injEq, Fn.yield.injEq, and_true] at hv
 subst hv
 refine ⟨r, hh, h6, fun st pd hp => ?_⟩
 have hl : live s.mem id := ⟨_, hb⟩
 have hrow : ∀ g, some l = some g → R.own id g := fun g e => by cases e; exact .inl (by rw [hν]; rfl)
 have hext := hC.grown_ext0 (putObj_grown w l (.loop { r with state := st, pending := pd })) (fun g e => ⟨id, hl, hrow g e⟩)
 exact hC.write hl (putObj_grown _ _ _) hrow ⟨l, _, hν, World.putObj_heap_same (Array.getElem?_eq_some_iff.1 hh).1, h1, h2, h3, h4, fun j x hx => (h5 j x hx).ext hext, hp⟩
theorem rsem_of_awp (hm : P.follows .mixedOrders = true) (O : List (Nat × RO)) {id : Nat} {args : List XV} {M : List (Option Blk)} {Q : Bool → List (Option Blk) → Prop} {ps : List Nat} {as body : Code} {env : List AV}
  (hb : getL M id = some (some (.loop ps as body env .ready))) (hok : (roundOK O as && roundOK O body) = true)
  (h : setPs env ps args fun env' => awp P O as ⟨lenL M, env', M⟩ fun e s => match e with
   | .normal => match s with
    | ⟨k, env1, mem⟩ => match getL mem id with
     | some (some (.loop ps1 as1 b1 env2 .ready)) => setL mem id (some (.loop ps1 as1 b1 env2 .busy)) fun mem => awp P O body ⟨k, env1, mem⟩ (roundEnd id Q)
     | _ => False
   | _ => False) : RSem P id args M Q := by
 intro w R vs l hargs hmem hid hν
 rw [getL_eq] at hb
 simp only [Bool.and_eq_true] at hok
 obtain ⟨l', r, hv, hh, hps, has, hbd, hts, hrep, hpd⟩ := hmem.rep id _ hb
 rw [hν] at hv
 simp only [Value.func.injEq, Fn.yield.injEq, and_true] at hv
 subst hv
 obtain ⟨hpl, env', hk, hel, her⟩ := setPs_ok (w := w) (R := R) ps args env _ r.tmps vs.toList h hts.symm hrep (by simpa using hargs.1) (fun j x hx => by
  have h1 := hargs.2 j x hx
  have hlt : j < vs.size := by rw [hargs.1]; exact (List.getElem?_eq_some_iff.1 hx).1
  exact ⟨vs[j], by simp [hlt], by simpa [Array.getD_eq_getD_getElem?, hlt] using h1⟩)
 have hzip : (r.params.zip vs).foldl (fun tmps (t, a) => tmps.setIfInBounds t a) r.tmps = (ps.zip vs.toList).foldl (fun tmps (t, a) => tmps.setIfInBounds t a) r.tmps := by
  rw [← Array.foldl_toList, Array.toList_zip, hps]
 refine ⟨r, hh, by rw [hargs.1, ← hpl, ← hps]; simp, ?_⟩
 rw [hzip, has, hbd]
 have hC : Conc w R M ⟨lenL M, env', M⟩ R { tmps := (ps.zip vs.toList).foldl (fun tmps (t, a) => tmps.setIfInBounds t a) r.tmps, defers := [] } w :=
  ⟨⟨rfl, rfl, rfl, Nat.le_refl _, fun _ _ _ => rfl, hmem, by rw [hmem.n]; exact Nat.le_refl _, fun _ _ => rfl, fun _ => Iff.rfl, fun _ h => .inl h, fun i g hl hg => .inr ⟨i, hl, hg⟩, fun _ _ => Fam.Le.refl _⟩, hel, her, Marks.nil .., by simp only [lenL_eq]⟩
 refine roundIn_of_wpIn (F := Fo none) trivial ?_
 refine awp_ok hm (some l) as _ _ _ R _ w hok.1 hk hC fun e s1 R1 a1 w1 hk1 hC1 => ?_
 have hM : id < M.length := (List.getElem?_eq_some_iff.1 hb).1
 have hν1 : ∀ {s1 : St} {R1 : Rp} {a1 : Act} {w1 : World}, Conc w R M s1 R1 a1 w1 → R1.ν id = .func (.yield l) #[] #[] := fun hC1 => (hC1.fr.ν id hM).trans hν
 have hend : ∀ e s2 R2 a2 w2, roundEnd id Q e s2 → Conc w R M s2 R2 a2 w2 → roundPost P l (fun e w' => ∃ b m' R', e = .returned (.bool b) ∧ Q b m' ∧ Fr w R M w' R' m') e a2 w2 := by
  intro e s2 R2 a2 w2 hk2 hC2
  unfold roundEnd at hk2
  split at hk2
  ·rename_i ps2 as2 b2 env2 hm2
   rw [getL_eq] at hm2
   cases e with
   | normal =>
    simp only [setL_eq] at hk2
    obtain ⟨r2, hh2, _, hC3⟩ := hC2.setLoop (p' := .ready) hm2 (hν1 hC2)
    exact ⟨_, _, run_endRound none hh2, true, _, R2, rfl, hk2, (hC3 .ready none ⟨rfl, rfl⟩).fr⟩
   | ret =>
    simp only [setL_eq] at hk2
    obtain ⟨r2, hh2, _, hC3⟩ := hC2.setLoop (p' := .done .ret) hm2 (hν1 hC2)
    exact ⟨_, _, run_endRound (some .ret) hh2, false, _, R2, rfl, hk2, (hC3 .done (some .ret) ⟨rfl, rfl⟩).fr⟩
   | exit i =>
    simp only [setL_eq] at hk2
    obtain ⟨r2, hh2, _, hC3⟩ := hC2.setLoop (p' := .done (.exit i)) hm2 (hν1 hC2)
    exact ⟨_, _, run_endRound (some (.exit i)) hh2, false, _, R2, rfl, hk2, (hC3 .done (some (.exit i)) ⟨rfl, rfl⟩).fr⟩
   | _ => exact hk2.elim
  ·exact hk2.elim
 cases e with
 | normal =>
  obtain ⟨k1, env1, mem1⟩ := s1
  simp only at hk1
  split at hk1
  ·rename_i ps1 as1 b1 env2 hm1
   rw [getL_eq] at hm1
   rw [setL_eq] at hk1
   obtain ⟨r1, hh1, hp1, hC2⟩ := hC1.setLoop (p' := .busy) hm1 (hν1 hC1)
   refine ⟨_, run_beginRound hh1 hp1.1, ?_⟩
   exact awp_ok hm (some l) body _ _ _ R1 _ _ hok.2 hk1 (hC2 .busy r1.pending rfl) hend
  ·exact hk1.elim
 | _ => exact hk1.elim
theorem startSt_eq (nt : Nat) (args : List XV) (m : List Blk) : startSt nt args m = startM nt args (m.map some) := by simp [startSt, startM, somes_eq, lenL_eq]
theorem hspec_of_awp (hm : P.follows .mixedOrders = true) (O : List (Nat × RO)) {f : FuncId} {fn : Func} {c : Code} (hf : P.funcs[f]? = some fn) (hb : fn.body = some c) (he : EntersF P f) (hok : codeOK O c = true) {nt : Nat} (hnt : fn.ntmps = nt) {res : List ResultVar} (hres : fn.results.toList = res)
  {args : List XV} {m : List Blk} {Rs : AV → List (Option Blk) → Prop} (h : awp P O c (startSt nt args m) (atEnd P res Rs)) : HSpec P f args m Rs := by
 subst hnt hres
 intro w R vs hargs hmem
 rw [startSt_eq] at h
 refine .inl ⟨he vs w, calls_of_awp hm hf hb hok h hargs hmem fun e s' R' a' w' hk hC' => ?_⟩
 have fin : EndVC P fn.results.toList Rs s' → ∃ v, (results fn a'.tmps).run P w' = .ok v w' ∧ (∃ v' r m' R', Ending.returned v = .returned v' ∧ Rs r m' ∧ Fr w R (m.map some) w' R' m' ∧ RepA w' R' r v') := by
  intro hE
  have hE' : ∃ xs, resVs P s' fn.results.toList = some xs ∧ (Rs (resA xs) s'.mem ∨ ∃ r m', Rs r m' ∧ Le ⟨s'.k, [resA xs], s'.mem⟩ ⟨s'.k, [r], m'⟩) := by
   rcases hE with ⟨xs, hxs, h⟩ | ⟨xs, hxs, r, m', hrs, hle⟩
   ·exact ⟨xs, hxs, .inl h⟩
   ·exact ⟨xs, hxs, .inr ⟨r, m', hrs, hle⟩⟩
  obtain ⟨xs, hxs, hE'⟩ := hE'
  obtain ⟨us, h1, h2, h3⟩ := hC'.resVs _ _ hxs
  have hrun : (results fn a'.tmps).run P w' = .ok (if h : us.toArray.size = 1 then us.toArray[0] else .tuple us.toArray) w' := by
   have e2 : ∀ (m : Sem (List Value)) (g1 : List Value → World → Result (Array Value)) (g2 : Array Value → World → Result Value), m.run P w' = .ok us w' → ((m.run P w').andThen g1).andThen g2 = (g1 us w').andThen g2 := fun m g1 g2 h => by rw [h]; rfl
   unfold results
   rw [Sem.run_bind, Array.mapM_eq_mapM_toList, Sem.run_map]
   exact e2 _ _ _ h1
  refine ⟨_, hrun, ?_⟩
  have hrep : RepA w' R' (resA xs) (if h : us.toArray.size = 1 then us.toArray[0] else .tuple us.toArray) := by
   have hX : RepXs w' R' xs us.toArray := ⟨by simpa using h2, fun j x hx => by
    obtain ⟨v, hv, hr⟩ := h3 j x hx
    simp only [Array.getD_eq_getD_getElem?, List.getElem?_toArray, hv, Option.getD_some]
    exact hr⟩
   by_cases hl : us.length = 1
   ·rw [dif_pos (by simpa using hl)]
    have hxl : xs.length = 1 := by omega
    match xs, us, hxl, hl, h3 with
    | [x], [u], _, _, h3 =>
     obtain ⟨v, hv, hr⟩ := h3 0 x rfl
     simp at hv; subst hv
     exact hr
   ·rw [dif_neg (by simpa using hl)]
    have hxl : xs.length ≠ 1 := by omega
    match xs, hxl, hX with
    | [], _, hX => exact ⟨_, rfl, hX⟩
    | _ :: _ :: _, _, hX => exact ⟨_, rfl, hX⟩
  have hC1 : Conc w R (m.map some) ⟨s'.k, [resA xs], s'.mem⟩ R' ⟨#[if h : us.toArray.size = 1 then us.toArray[0] else .tuple us.toArray], []⟩ w' := by
   refine ⟨hC'.fr, rfl, fun i v hv => ?_, Marks.nil .., hC'.hk⟩
   cases i with
   | zero => simp at hv; subst hv; exact hrep
   | succ i => simp at hv
  rcases hE' with hrs | ⟨r, m', hrs, hle⟩
  ·exact ⟨_, _, _, R', rfl, hrs, hC'.fr, hrep⟩
  ·obtain ⟨R2, hC2⟩ := Le_ok hle hC1
   exact ⟨_, r, m', R2, rfl, hrs, hC2.fr, hC2.env 0 r rfl⟩
 cases e with
 | normal => exact ⟨.inl rfl, fin hk⟩
 | ret => exact ⟨.inr rfl, fin hk⟩
 | _ => exact hk.elim
end
end
end Go.Sx


namespace Go.Sx
open Go Go.RowKit
theorem Fr.refl {w : World} {R : Rp} {M : List (Option Blk)} (h : MemOK w R M) : Fr w R M w R M :=
 ⟨rfl, rfl, rfl, Nat.le_refl _, fun _ _ _ => rfl, h, by rw [h.n]; exact Nat.le_refl _, fun _ _ => rfl, fun _ => Iff.rfl, fun _ h => .inl h, fun id g hl hg => .inr ⟨id, hl, hg⟩, fun _ _ => Fam.Le.refl _⟩
theorem RepXs.at {w : World} {R : Rp} {l : List XV} {vs : Array Value} (h : RepXs w R l vs) (j : Nat) {x : XV} (hx : l[j]? = some x) : ∃ v, vs[j]? = some v ∧ RepX w R x v := by
 have hl := h.1
 have hj := (List.getElem?_eq_some_iff.1 hx).1
 have := h.2 j x hx
 rw [Array.getD_eq_getD_getElem?, Array.getElem?_eq_getElem (by omega)] at this
 exact ⟨_, Array.getElem?_eq_getElem (by omega), this⟩
end Go.Sx


namespace Go.Sx
open Go Go.RowKit
inductive Wf : CK → Cell → Prop
 | int {k : IntKind} {n : Int} (h : inR k n) : Wf (.int k) (.int n)
 | bool (b : Bool) : Wf .bool (.bool b)
 | str {s : ByteArray} (h : s.size ≤ maxLen) : Wf .str (.str s)
 | sl {ks : List CK} {rows : Arr} (h : rows.length ≤ maxLen) (hr : ∀ r ∈ rows, r.length = ks.length) (hw : ∀ r ∈ rows, ∀ (j : Nat) k c, ks[j]? = some k → r[j]? = some c → Wf k c) : Wf (.sl ks) (.sl rows)
def kindsT (P : Program) : Nat → TypeId → Option (List CK)
 | 0, _ => none
 | n + 1, t => match P.underlying t with
  | some (.int k) => some [.int k]
  | some .bool => some [.bool]
  | some .string => some [.str]
  | some (.slice e) => match kindsT P n e with
   | some ks => if ks.length = P.cellsOf e ∧ 0 < ks.length then some [.sl ks] else none
   | none => none
  | some (.array m e) => match kindsT P n e with
   | some ks => if ks.length = P.cellsOf e ∧ m * ks.length = P.cellsOf t then some (many m ks) else none
   | none => none
  | some (.struct fs) => match flds (fun t => kindsT P n t) 0 fs.toList with
   | some ks => if ks.length = P.cellsOf t then some ks else none
   | none => none
  | _ => none
where
 many : Nat → List CK → List CK
  | 0, _ => []
  | m + 1, ks => ks ++ many m ks
 flds (g : TypeId → Option (List CK)) : Nat → List Field → Option (List CK)
  | _, [] => some []
  | off, f :: l => match g f.type with
   | some ks => if f.offset = off ∧ ks.length = P.cellsOf f.type then match flds g (off + ks.length) l with
     | some ks' => some (ks ++ ks')
     | none => none
    else none
   | none => none
inductive RW (w : World) (S : Nat → Prop) : List CK → List Cell → List Value → Prop
 | nil : RW w S [] [] []
 | cons {k : CK} {c : Cell} {v : Value} {ks : List CK} {cs : List Cell} {vs : List Value} (h : RepC w S k c v) (hw : Wf k c) (t : RW w S ks cs vs) : RW w S (k :: ks) (c :: cs) (v :: vs)
section
variable {P : Program} {w : World} {S : Nat → Prop}
theorem RW.len {ks : List CK} {cs : List Cell} {vs : List Value} (h : RW w S ks cs vs) : cs.length = ks.length ∧ vs.length = ks.length := by
 induction h with
 | nil => exact ⟨rfl, rfl⟩
 | cons _ _ _ ih => exact ⟨by simp [ih.1], by simp [ih.2]⟩
theorem RW.app {ks ks' : List CK} {cs cs' : List Cell} {vs vs' : List Value} (h : RW w S ks cs vs) (h' : RW w S ks' cs' vs') : RW w S (ks ++ ks') (cs ++ cs') (vs ++ vs') := by
 induction h with
 | nil => exact h'
 | cons h1 h2 _ ih => exact .cons h1 h2 ih
theorem RW.get {ks : List CK} {cs : List Cell} {vs : List Value} (h : RW w S ks cs vs) : ∀ (j : Nat) k c, ks[j]? = some k → cs[j]? = some c → ∃ v, vs[j]? = some v ∧ RepC w S k c v ∧ Wf k c := by
 induction h with
 | nil => intro j k c h; simp at h
 | cons h1 h2 _ ih =>
  intro j k c hk hc
  cases j with
  | zero => simp at hk hc; subst hk hc; exact ⟨_, rfl, h1, h2⟩
  | succ j => simpa using ih j k c (by simpa using hk) (by simpa using hc)
theorem wf_inR {k : IntKind} {n : Int} (h : (Lit.int k n).wf = true) : inR k n := by
 simp only [Lit.wf, Bool.and_eq_true, decide_eq_true_eq] at h
 cases k <;> exact h
theorem mapM_range {α : Type} {f : Nat → Option α} : ∀ (n : Nat) (l : List α), (List.range n).mapM f = some l → l.length = n ∧ ∀ i, i < n → f i = l[i]? := by
 intro n
 induction n with
 | zero => intro l h; simp at h; subst h; exact ⟨rfl, fun i hi => absurd hi (Nat.not_lt_zero i)⟩
 | succ n ih =>
  intro l h
  rw [List.range_succ, List.mapM_append] at h
  simp only [List.mapM_cons, List.mapM_nil, Option.pure_def, Option.bind_some, bind] at h
  cases h1 : (List.range n).mapM f with
  | none => simp [h1] at h
  | some l1 =>
   cases h2 : f n with
   | none => simp [h1, h2] at h
   | some x =>
    simp [h1, h2] at h
    subst h
    obtain ⟨g1, g2⟩ := ih l1 h1
    refine ⟨by simp [g1], fun i hi => ?_⟩
    rcases Nat.lt_or_ge i n with h3 | h3
    ·rw [g2 i h3, List.getElem?_append, if_pos (by omega)]
    ·have : i = n := by omega
     subst this
     rw [h2, List.getElem?_append, if_neg (by omega), g1]; simp
theorem cells_get {a : Addr} {n : Nat} {vs : List Value} {base : Nat} (h : w.cells? base a n = some vs) : vs.length = n ∧ ∀ i, i < n → w.cell? (a.add i) = vs[i]? := by
 unfold World.cells? at h
 split at h
 ·exact mapM_range n vs h
 ·cases h
theorem cell_blk {a : Addr} {v : Value} (h : w.cell? a = some v) : a.block < w.heap.size := by
 unfold World.cell? at h
 split at h
 ·rename_i hh; exact (Array.getElem?_eq_some_iff.1 hh).1
 ·cases h
theorem rw_rows {ks : List CK} : ∀ (n : Nat) (f : Nat → List Value), (∀ i, i < n → ∃ cs, RW w S ks cs (f i)) → ∃ rows : Arr, rows.length = n ∧ ∀ (i : Nat) r, rows[i]? = some r → RW w S ks r (f i)
 | 0, _, _ => ⟨[], rfl, fun i r h => by simp at h⟩
 | n + 1, f, h => by
  obtain ⟨rows, h1, h2⟩ := rw_rows n f (fun i hi => h i (by omega))
  obtain ⟨cs, h3⟩ := h n (by omega)
  refine ⟨rows ++ [cs], by simp [h1], fun i r hr => ?_⟩
  rw [List.getElem?_append] at hr
  split at hr
  ·exact h2 i r hr
  ·rename_i hl
   have : i - rows.length = 0 := by
    rcases Nat.eq_zero_or_pos (i - rows.length) with h0 | h0
    ·exact h0
    ·rw [List.getElem?_eq_none (by simp; omega)] at hr; cases hr
   rw [this] at hr
   simp at hr
   subst hr
   have : i = n := by omega
   rw [this]; exact h3
theorem trod_rep {H : Type} {enc : TypeId × Value → H} {sp : Nat → Bool} {held : Bool} : ∀ (fuel n : Nat) (t : TypeId) (ks : List CK) (vs : List Value) (d : DataW H) (ps : List MemPlace), DataW.trod enc P w 0 sp held fuel t vs = some (d, ps) → kindsT P n t = some ks →
  ∃ cs, RW w (fun b => b < w.heap.size) ks cs vs
 | 0, _, _, _, _, _, _, h, _ => by simp [DataW.trod] at h
 | fuel + 1, 0, _, _, _, _, _, _, h => by simp [kindsT] at h
 | fuel + 1, n + 1, t, ks, vs, d, ps, h, hk => by
  unfold kindsT at hk
  unfold DataW.trod at h
  split at hk
  ·rename_i k hu
   cases hk
   rw [hu] at h
   simp only at h
   split at h <;> rename_i hu' <;> first | cases hu' | skip
   all_goals first
    | (cases h; done)
    | skip
   split at h
   ·rename_i hc
    cases h
    obtain ⟨rfl, hw⟩ := hc
    exact ⟨[.int _], .cons (.int _ _) (.int (wf_inR hw)) .nil⟩
   ·cases h
  ·rename_i hu
   cases hk
   rw [hu] at h
   simp only at h
   split at h <;> rename_i hu' <;> first | cases hu' | skip
   all_goals first
    | (cases h; done)
    | skip
   exact ⟨[.bool _], .cons (.bool _) (.bool _) .nil⟩
  ·rename_i hu
   cases hk
   rw [hu] at h
   simp only at h
   split at h <;> rename_i hu' <;> first | cases hu' | skip
   all_goals first
    | (cases h; done)
    | skip
   split at h
   ·rename_i hs
    exact ⟨[.str _], .cons (.str _) (.str hs) .nil⟩
   ·cases h
  ·rename_i e hu
   rw [hu] at h
   simp only at h
   split at hk
   ·rename_i ks' hk'
    split at hk
    ·rename_i hc
     cases hk
     obtain ⟨hc1, hc2⟩ := hc
     split at h <;> rename_i hu' <;> first | cases hu' | skip
     all_goals first
      | (cases h; done)
      | skip
     ·exact ⟨[.sl []], .cons (.sl ks' [] none 0 (fun _ _ => undef) (Nat.le_refl _) (fun r hr => by simp at hr) (fun hne => (hne rfl).elim) (fun i r f c k h1 => by simp at h1)) (.sl (Nat.zero_le _) (fun r hr => by simp at hr) (fun r hr => by simp at hr)) .nil⟩
     ·rename_i a len cap
      split at h
      ·rename_i hb
       obtain ⟨_, hlc, hcm⟩ := hb
       cases hm : (List.range len).mapM fun i => (w.cells? 0 (a.add (i * P.cellsOf e)) (P.cellsOf e)).bind (DataW.trod enc P w 0 sp held fuel e) with
       | none => rw [hm] at h; simp at h
       | some elems =>
        obtain ⟨g1, g2⟩ := mapM_range len elems hm
        have key : ∀ i, i < len → ∃ vs', w.cells? 0 (a.add (i * P.cellsOf e)) (P.cellsOf e) = some vs' ∧ ∃ cs, RW w (fun b => b < w.heap.size) ks' cs vs' := fun i hi => by
         have h3 := g2 i hi
         rw [List.getElem?_eq_getElem (by omega)] at h3
         cases h4 : w.cells? 0 (a.add (i * P.cellsOf e)) (P.cellsOf e) with
         | none => rw [h4] at h3; simp at h3
         | some vs' =>
          rw [h4] at h3
          simp only [Option.bind_some] at h3
          exact ⟨vs', rfl, trod_rep fuel n e ks' vs' _ _ h3 hk'⟩
        obtain ⟨rows, r1, r2⟩ := rw_rows len (fun i => (w.cells? 0 (a.add (i * P.cellsOf e)) (P.cellsOf e)).getD []) (fun i hi => by
         obtain ⟨vs', h3, h4⟩ := key i hi
         rw [h3]; exact h4)
        have hcell : ∀ (i : Nat) r f c k, rows[i]? = some r → r[f]? = some c → ks'[f]? = some k → ∃ v, w.cell? (a.add (i * ks'.length + f)) = some v ∧ RepC w (fun b => b < w.heap.size) k c v ∧ Wf k c := fun i r f c k h1 h2 h3 => by
         have hi : i < len := by rw [← r1]; exact (List.getElem?_eq_some_iff.1 h1).1
         have hf : f < ks'.length := (List.getElem?_eq_some_iff.1 h3).1
         obtain ⟨v, h4, h5, h6⟩ := (r2 i r h1).get f k c h3 h2
         obtain ⟨vs', h7, _⟩ := key i hi
         rw [h7] at h4
         simp only [Option.getD_some] at h4
         obtain ⟨_, h8⟩ := cells_get h7
         refine ⟨v, ?_, h5, h6⟩
         rw [hc1, ← add_add, h8 f (by omega)]
         exact h4
        have hval : (Value.slice (some a) len cap) = .slice (some a) rows.length cap := by rw [r1]
        refine ⟨[.sl rows], .cons ?_ (.sl (by omega) (fun r hr => ?_) (fun r hr j k c h1 h2 => ?_)) .nil⟩
        ·rw [hval]
         refine .sl ks' rows (some a) cap (fun i f => (w.cell? (a.add (i * ks'.length + f))).getD undef) (by omega) (fun r hr => ?_) (fun hne => ⟨a, rfl, ?_, fun i r f c k h1 h2 h3 => ?_⟩) (fun i r f c k h1 h2 h3 => ?_)
         ·obtain ⟨i, hi⟩ := List.getElem?_of_mem hr
          exact (r2 i r hi).len.1
         ·have h0 : 0 < rows.length := by
           cases rows with
           | nil => exact (hne rfl).elim
           | cons => simp
          obtain ⟨v, hv, _⟩ := hcell 0 rows[0] 0 ((rows[0])[0]'(by rw [(r2 0 _ (List.getElem?_eq_getElem h0)).len.1]; exact hc2)) (ks'[0]) (List.getElem?_eq_getElem h0) (List.getElem?_eq_getElem _) (List.getElem?_eq_getElem hc2)
          have := cell_blk hv
          rwa [add_block] at this
         ·obtain ⟨v, hv, _⟩ := hcell i r f c k h1 h2 h3
          rw [hv]; rfl
         ·obtain ⟨v, hv, hr, _⟩ := hcell i r f c k h1 h2 h3
          rw [hv]; exact hr
        ·obtain ⟨i, hi⟩ := List.getElem?_of_mem hr
         exact (r2 i r hi).len.1
        ·obtain ⟨i, hi⟩ := List.getElem?_of_mem hr
         obtain ⟨v, _, _, hw⟩ := hcell i r j c k hi h2 h1
         exact hw
      ·cases h
    ·cases hk
   ·cases hk
  ·rename_i m e hu
   rw [hu] at h
   simp only at h
   split at hk
   ·rename_i ks' hk'
    split at hk
    ·rename_i hc
     cases hk
     obtain ⟨hc1, hc2⟩ := hc
     split at h
     ·rename_i hl
      cases hm : (List.range m).mapM fun i => DataW.trod enc P w 0 sp held fuel e ((vs.drop (i * P.cellsOf e)).take (P.cellsOf e)) with
      | none => rw [hm] at h; simp at h
      | some xs =>
       obtain ⟨g1, g2⟩ := mapM_range m xs hm
       have key : ∀ i, i < m → ∃ cs, RW w (fun b => b < w.heap.size) ks' cs ((vs.drop (i * P.cellsOf e)).take (P.cellsOf e)) := fun i hi => by
        have h3 := g2 i hi
        rw [List.getElem?_eq_getElem (by omega)] at h3
        exact trod_rep fuel n e ks' _ _ _ h3 hk'
       have all : ∀ j, j ≤ m → ∃ cs, RW w (fun b => b < w.heap.size) (kindsT.many j ks') cs (vs.drop ((m - j) * P.cellsOf e)) := by
        intro j
        induction j with
        | zero =>
         intro _
         refine ⟨[], ?_⟩
         rw [List.drop_eq_nil_of_le (by rw [hl, ← hc2, hc1]; simp)]
         exact .nil
        | succ j ih =>
         intro hj
         obtain ⟨cs2, h2⟩ := ih (by omega)
         obtain ⟨cs1, h1⟩ := key (m - (j + 1)) (by omega)
         refine ⟨cs1 ++ cs2, ?_⟩
         have hd : vs.drop ((m - (j + 1)) * P.cellsOf e) = (vs.drop ((m - (j + 1)) * P.cellsOf e)).take (P.cellsOf e) ++ vs.drop ((m - j) * P.cellsOf e) := by
          have e1 : (m - j) * P.cellsOf e = (m - (j + 1)) * P.cellsOf e + P.cellsOf e := by rw [← Nat.succ_mul]; congr 1; omega
          rw [e1, ← List.drop_drop, List.take_append_drop]
         rw [hd]
         exact h1.app h2
       obtain ⟨cs, hcs⟩ := all m (Nat.le_refl _)
       refine ⟨cs, ?_⟩
       simpa using hcs
     ·cases h
    ·cases hk
   ·cases hk
  ·rename_i fs hu
   rw [hu] at h
   simp only at h
   split at hk
   ·rename_i ks' hk'
    split at hk
    ·rename_i hc
     cases hk
     split at h
     ·rename_i hl
      cases hm : (fs.toList.mapM fun f => DataW.trod enc P w 0 sp held fuel f.type ((vs.drop f.offset).take (P.cellsOf f.type))) with
      | none => rw [hm] at h; simp at h
      | some xs =>
       have all : ∀ (l : List Field) (off : Nat) (ks : List CK) (xs : List (DataW H × List MemPlace)), kindsT.flds P (fun t => kindsT P n t) off l = some ks → (l.mapM fun f => DataW.trod enc P w 0 sp held fuel f.type ((vs.drop f.offset).take (P.cellsOf f.type))) = some xs → off + ks.length = vs.length → ∃ cs, RW w (fun b => b < w.heap.size) ks cs (vs.drop off) := by
        intro l
        induction l with
        | nil =>
         intro off ks xs h1 h2 h3
         cases h1
         refine ⟨[], ?_⟩
         rw [List.drop_eq_nil_of_le (by simp at h3; omega)]
         exact .nil
        | cons f l ih =>
         intro off ks xs h1 h2 h3
         unfold kindsT.flds at h1
         split at h1
         ·rename_i k1 hk1
          split at h1
          ·rename_i hcf
           obtain ⟨hf1, hf2⟩ := hcf
           split at h1
           ·rename_i k2 hk2
            cases h1
            rw [List.mapM_cons] at h2
            cases ht : DataW.trod enc P w 0 sp held fuel f.type ((vs.drop f.offset).take (P.cellsOf f.type)) with
            | none => rw [ht] at h2; simp at h2
            | some x =>
             cases ht2 : (l.mapM fun f => DataW.trod enc P w 0 sp held fuel f.type ((vs.drop f.offset).take (P.cellsOf f.type))) with
             | none => rw [ht, ht2] at h2; simp at h2
             | some xs2 =>
              obtain ⟨cs2, g2⟩ := ih (off + k1.length) k2 xs2 hk2 ht2 (by simp at h3; omega)
              obtain ⟨cs1, g1⟩ := trod_rep fuel n f.type k1 _ _ _ ht hk1
              refine ⟨cs1 ++ cs2, ?_⟩
              have hd : vs.drop off = (vs.drop f.offset).take (P.cellsOf f.type) ++ vs.drop (off + k1.length) := by
               rw [hf1, ← List.drop_drop, hf2, List.take_append_drop]
              rw [hd]
              exact g1.app g2
           ·cases h1
          ·cases h1
         ·cases h1
       obtain ⟨cs, hcs⟩ := all _ 0 _ xs hk' hm (by omega)
       exact ⟨cs, by simpa using hcs⟩
     ·cases h
    ·cases hk
   ·cases hk
  ·cases hk
end
inductive WfR : List CK → List Cell → Prop
 | nil : WfR [] []
 | cons {k : CK} {c : Cell} {ks : List CK} {cs : List Cell} (h : Wf k c) (t : WfR ks cs) : WfR (k :: ks) (c :: cs)
def parK (P : Program) (t : TypeId) : Option (Bool × List CK) :=
 match kindsT P 20 t with
 | none => none
 | some ks => match P.underlying t with
  | some (.struct _) | some (.array _ _) => some (true, ks)
  | _ => some (false, ks)
def parKs (P : Program) : List TypeId → Option (List (Bool × List CK))
 | [] => some []
 | t :: l => match parK P t, parKs P l with
  | some q, some qs => some (q :: qs)
  | _, _ => none
inductive WfRows : List (Bool × List CK) → List (List Cell) → Prop
 | nil : WfRows [] []
 | cons {b : Bool} {ks : List CK} {r : List Cell} {qs : List (Bool × List CK)} {rows : List (List Cell)} (h : WfR ks r) (t : WfRows qs rows) : WfRows ((b, ks) :: qs) (r :: rows)
def xvOf : Bool × List CK → List Cell → XV
 | (true, ks), r => .agg (svsAt true [r] 0 ks 0)
 | (false, [k]), r => .one (svAt true [r] 0 0 k)
 | (false, _), _ => .one .any
def xvs : List (Bool × List CK) → List (List Cell) → List XV
 | q :: qs, r :: rows => xvOf q r :: xvs qs rows
 | _, _ => []
section
variable {P : Program} {W W' : World}
def R00 (W : World) : Rp := ⟨0, fun _ => nilSl, fun b => b < W.heap.size, fun _ => False, fun _ => Fam.nil⟩
theorem RW.wf {w : World} {S : Nat → Prop} {ks : List CK} {cs : List Cell} {vs : List Value} (h : RW w S ks cs vs) : WfR ks cs := by
 induction h with
 | nil => exact .nil
 | cons _ h2 _ ih => exact .cons h2 ih
theorem repC_r00 {k : CK} {c : Cell} {v : Value} (h : RepC W (fun b => b < W.heap.size) k c v) : RepC W ((R00 W).rd true) k c v := by
 have : (R00 W).rd true = fun b => b < W.heap.size := by
  funext b
  simp [Rp.rd, R00]
 rw [this]; exact h
theorem rep_at {r : List Cell} {f : Nat} {k : CK} {c : Cell} {v : Value} (hc : r[f]? = some c) (h : RepC W (fun b => b < W.heap.size) k c v) : RepS W (R00 W) (svAt true [r] 0 f k) v := by
 have h0 := repC_r00 h
 have e : cellAt [r] 0 f = c := by simp [cellAt, List.getD_eq_getElem?_getD, hc]
 cases h0 with
 | int k n => simp [svAt, RepS, rI, e, Cell.toInt]
 | bool b => simp [svAt, RepS, rB, e, Cell.toBool]
 | str s => simp [svAt, RepS, rS, e, Cell.toStr]
 | fn f => simp only [svAt, RepS, rF, e, Cell.toFn]; exact ⟨#[], rfl, rfl, fun j p h => by simp at h⟩
 | sl ks rows a cap cv h1 h2 h3 h4 => simp only [svAt, RepS, rA, e, Cell.toArr]; exact .sl ks rows a cap cv h1 h2 h3 h4
 | pt ks row ad cap h0 h1 =>
  simp only [svAt, RepS, rA, e, Cell.toArr]
  exact ⟨ad, cap, h1, Nat.zero_lt_one, by rw [Nat.zero_mul]; exact congrArg (fun x => Value.pointer (some x)) h0.symm⟩
theorem reps_at {r : List Cell} : ∀ {ks : List CK} {cs : List Cell} {vs : List Value} (f : Nat), RW W (fun b => b < W.heap.size) ks cs vs → r.drop f = cs →
  ∀ (j : Nat) s, (svsAt true [r] 0 ks f)[j]? = some s → RepS W (R00 W) s (vs.getD j undef)
 | _, _, _, _, .nil, _ => fun j s h => by simp [svsAt] at h
 | _, _, _, f, .cons (c := c) (cs := cs) h1 _ ht, hd => fun j s hj => by
  have hc : r[f]? = some c := by
   have := congrArg (fun l => l[0]?) hd
   simpa using this
  cases j with
  | zero => simp [svsAt] at hj; subst hj; simpa using rep_at hc h1
  | succ j =>
   have := reps_at (f + 1) ht (by rw [← List.drop_drop, hd]; rfl) j s (by simpa [svsAt] using hj)
   simpa using this
theorem RW.svs_len {ks : List CK} : ∀ {f : Nat} {r : Arr}, (svsAt true r 0 ks f).length = ks.length := by
 induction ks with
 | nil => intros; rfl
 | cons k ks ih => intro f r; simp [svsAt, ih]
theorem kindsT_one {n : Nat} {t : TypeId} {ks : List CK} (h : kindsT P n t = some ks) (h1 : ∀ fs, P.underlying t ≠ some (.struct fs)) (h2 : ∀ m e, P.underlying t ≠ some (.array m e)) : ∃ k, ks = [k] := by
 cases n with
 | zero => simp [kindsT] at h
 | succ n =>
  unfold kindsT at h
  split at h
  ·cases h; exact ⟨_, rfl⟩
  ·cases h; exact ⟨_, rfl⟩
  ·cases h; exact ⟨_, rfl⟩
  ·split at h
   ·split at h
    ·cases h; exact ⟨_, rfl⟩
    ·cases h
   ·cases h
  ·exact (h2 _ _ (by assumption)).elim
  ·exact (h1 _ (by assumption)).elim
  ·cases h
theorem arg_rep {H : Type} {enc : TypeId × Value → H} {base : Nat} {t : TypeId} {v : Value} {d : DataW H} {ps : List MemPlace} {q : Bool × List CK} (h : DataW.Trod enc P W 0 (fun _ => true) true t v d ps)
  (hv : Value.okWide P W .any base t v) (hq : parK P t = some q) : ∃ r, WfR q.2 r ∧ RepX W (R00 W) (xvOf q r) v := by
 obtain ⟨fuel, h⟩ := h
 unfold parK at hq
 split at hq
 ·cases hq
 ·rename_i ks hk
  obtain ⟨cs, hcs⟩ := trod_rep fuel 20 t ks _ _ _ h hk
  have agg : (∃ xs, v = .agg xs) → ∃ r, WfR ks r ∧ RepX W (R00 W) (xvOf (true, ks) r) v := by
   rintro ⟨xs, rfl⟩
   refine ⟨cs, hcs.wf, xs, rfl, ?_, ?_⟩
   ·rw [RW.svs_len]
    have := hcs.len.2
    simpa [Value.cells] using this
   ·intro j s hj
    have := reps_at 0 hcs rfl j s hj
    simp only [Value.cells] at this
    simpa [Array.getD_eq_getD_getElem?, List.getD_eq_getElem?_getD] using this
  unfold Value.okWide at hv
  split at hq
  ·rename_i fs hu
   cases hq
   rw [hu] at hv
   obtain ⟨xs, hx, _⟩ := hv
   exact agg ⟨xs, hx⟩
  ·rename_i m e hu
   cases hq
   rw [hu] at hv
   obtain ⟨xs, hx, _⟩ := hv
   exact agg ⟨xs, hx⟩
  ·rename_i g1 g2
   cases hq
   obtain ⟨k, rfl⟩ := kindsT_one hk (fun fs hu => g1 fs hu) (fun m e hu => g2 m e hu)
   cases hx : v.cells.toList with
   | nil => rw [hx] at hcs; cases hcs
   | cons v' l =>
    rw [hx] at hcs
    cases hcs with
    | cons h1 h2 h3 =>
     cases h3
     refine ⟨_, .cons h2 .nil, ?_⟩
     have hvv : v = v' := by
      cases v <;> simp [Value.cells] at hx <;> first | exact hx | exact hx.1 | skip
      unfold Cell.okWide at hv
      split at hv <;> simp_all [Cell.ok]
     subst hvv
     exact rep_at (f := 0) rfl h1
theorem args_rep {H : Type} {enc : TypeId × Value → H} {base : Nat} : ∀ {ts : List TypeId} {vs : List Value} {ds : List (DataW H)} {ps : List MemPlace} {qs : List (Bool × List CK)}, DataW.TrodAll enc P W 0 (fun _ => true) true ts vs ds ps →
  (∀ (j : Nat) t v, ts[j]? = some t → vs[j]? = some v → Value.okWide P W .any base t v) → parKs P ts = some qs →
  ∃ rows, WfRows qs rows ∧ vs.length = (xvs qs rows).length ∧ ∀ (j : Nat) x, (xvs qs rows)[j]? = some x → RepX W (R00 W) x (vs.getD j undef)
 | [], vs, ds, ps, qs, h, _, hq => by
  cases vs <;> cases ds <;> simp [DataW.TrodAll] at h
  cases hq
  exact ⟨[], .nil, rfl, fun j x hx => by simp [xvs] at hx⟩
 | t :: ts, vs, ds, ps, qs, h, hv, hq => by
  obtain ⟨v, vs', d, ds', p, q, rfl, rfl, rfl, h1, h2⟩ := ChangeShapes.trodAll_cons h
  unfold parKs at hq
  split at hq
  ·rename_i q1 q2 e1 e2
   cases hq
   obtain ⟨r, g1, g2⟩ := arg_rep h1 (hv 0 t v rfl rfl) e1
   obtain ⟨rows, g3, g4, g5⟩ := args_rep h2 (fun j t v h h' => hv (j + 1) t v (by simpa using h) (by simpa using h')) e2
   refine ⟨r :: rows, .cons g1 g3, by simp [xvs, g4], fun j x hx => ?_⟩
   cases j with
   | zero => simp [xvs] at hx; subst hx; simpa using g2
   | succ j => simpa using g5 j x (by simpa [xvs] using hx)
  ·cases hq
end
end Go.Sx


namespace Go.Sx
open Go Go.ChangeShapes Go.WideShapes Go.ChangeAt Go.RowKit
section
variable {P : Program} {W W' : World}
theorem law_calls {f : FuncId} {args : List XV} {vs : Array Value} (h : PSpec P f args (.x (.one (.prp True instDecidableTrue)))) (he : EntersF P f) (hargs : RepXs W (R00 W) args vs) :
  Calls P f vs W fun e W' => e = .returned (.bool true) ∧ Below W.heap.size W W' := by
 have hm : MemOK W (R00 W) (([] : List Blk).map some) := ⟨rfl, fun id b h => by simp at h, fun i j g h => by obtain ⟨b, h⟩ := h; simp at h, fun i g h => by obtain ⟨b, h⟩ := h; simp at h, fun b h => h.elim id False.elim, fun i h => absurd h (Nat.not_lt_zero i)⟩
 rcases h W (R00 W) vs hargs hm with ⟨_, h2⟩ | ⟨v, w', h1, _⟩
 ·refine h2.mono ?_
  rintro e W' ⟨v, r, m', R', rfl, ⟨rfl, _⟩, hf, hr⟩
  have hv : v = .bool (@decide True instDecidableTrue) := hr
  refine ⟨by rw [hv]; rfl, hf.os, hf.tape, hf.output, hf.size, fun k hk => hf.block k hk ?_⟩
  rintro ⟨i, ⟨b, hb⟩, _⟩
  simp at hb
 ·rw [he vs W] at h1; cases h1
theorem trodAll_below {H : Type} {enc : TypeId × Value → H} (hl : laidOutB P = true) (hb : Below W.heap.size W W') : ∀ {ts : List TypeId} {vs : List Value} {ds : List (DataW H)} {ps : List MemPlace}, (∀ t ∈ ts, P.readableRec t = true ∧ t < P.types.size) →
  DataW.TrodAll enc P W 0 (fun _ => true) true ts vs ds ps → (∀ x ∈ ps, x.block < W.heap.size) → DataW.TrodAll enc P W' 0 (fun b => decide (b < W.heap.size)) true ts vs ds ps
 | [], vs, ds, ps, _, h, _ => by
  cases vs <;> cases ds <;> simp [DataW.TrodAll] at h ⊢
  exact h
 | t :: ts, vs, ds, ps, ht, h, hlt => by
  obtain ⟨v, vs', d, ds', p, q, rfl, rfl, rfl, h1, h2⟩ := trodAll_cons h
  refine ⟨p, q, Below.trod hl (ht t (List.mem_cons_self ..)).1 (ht t (List.mem_cons_self ..)).2 h1 hb fun x hx => hlt x (List.mem_append_left _ hx),
   trodAll_below hl hb (fun t' ht' => ht t' (List.mem_cons_of_mem _ ht')) h2 fun x hx => hlt x (List.mem_append_right _ hx), rfl⟩
end
theorem WfRows.inv {b : Bool} {ks : List CK} {qs : List (Bool × List CK)} {rows : List (List Cell)} (h : WfRows ((b, ks) :: qs) rows) : ∃ r rs, rows = r :: rs ∧ WfR ks r ∧ WfRows qs rs := by
 cases h with
 | cons h t => exact ⟨_, _, rfl, h, t⟩
theorem WfRows.nil_inv {rows : List (List Cell)} (h : WfRows [] rows) : rows = [] := by
 cases h; rfl
theorem WfR.inv {k : CK} {ks : List CK} {r : List Cell} (h : WfR (k :: ks) r) : ∃ c cs, r = c :: cs ∧ Wf k c ∧ WfR ks cs := by
 cases h with
 | cons h t => exact ⟨_, _, rfl, h, t⟩
theorem WfR.nil_inv {r : List Cell} (h : WfR [] r) : r = [] := by
 cases h; rfl
theorem Wf.int_inv {k : IntKind} {c : Cell} (h : Wf (.int k) c) : ∃ n, c = .int n ∧ inR k n := by
 cases h with
 | int h => exact ⟨_, rfl, h⟩
theorem Wf.sl_inv {ks : List CK} {c : Cell} (h : Wf (.sl ks) c) : ∃ rows, c = .sl rows ∧ Wf (.sl ks) (.sl rows) := by
 cases h with
 | sl a b d => exact ⟨_, rfl, .sl a b d⟩
theorem WfRows.int {b : Bool} {k : IntKind} {qs : List (Bool × List CK)} {rows : List (List Cell)} (h : WfRows ((b, [.int k]) :: qs) rows) : ∃ n rs, rows = [.int n] :: rs ∧ inR k n ∧ WfRows qs rs := by
 obtain ⟨r, rs, rfl, h1, h2⟩ := h.inv
 obtain ⟨c, cs, rfl, h3, h4⟩ := h1.inv
 cases h4.nil_inv
 obtain ⟨n, rfl, h5⟩ := h3.int_inv
 exact ⟨n, rs, rfl, h5, h2⟩
theorem WfRows.sl {b : Bool} {ks : List CK} {qs : List (Bool × List CK)} {rows : List (List Cell)} (h : WfRows ((b, [.sl ks]) :: qs) rows) : ∃ a rs, rows = [.sl a] :: rs ∧ Wf (.sl ks) (.sl a) ∧ WfRows qs rs := by
 obtain ⟨r, rs, rfl, h1, h2⟩ := h.inv
 obtain ⟨c, cs, rfl, h3, h4⟩ := h1.inv
 cases h4.nil_inv
 obtain ⟨n, rfl, h5⟩ := h3.sl_inv
 exact ⟨n, rs, rfl, h5, h2⟩
end Go.Sx
