import Derived.Test.YthfdbmgjkjeccaaSxA
import Derived.OrdersIn
/- Sx, part L: make and append. -/
namespace Go.Sx
open Go Go.RowKit
section
variable {P : Program} {w w0 : World} {R R0 : Rp} {M0 : List (Option Blk)} {s : St} {a : Act}

theorem zeroFits_ok {S : Nat → Prop} : ∀ (ks : List CK) (vs : List Value), zeroFits ks vs = true → ∀ (f : Nat) k, ks[f]? = some k → ∃ v, vs[f]? = some v ∧ RepC w S k (zeroCell k) v ∧ (zeroRow ks)[f]? = some (zeroCell k)
  | [], _, _, f, k, h => by simp at h
  | k0 :: ks, vs, h, f, k, hk => by
    cases vs with
    | nil => cases k0 <;> simp [zeroFits] at h
    | cons v vs =>
      cases f with
      | zero =>
        simp at hk; subst hk
        refine ⟨v, rfl, ?_, rfl⟩
        unfold zeroFits at h
        split at h
        · rename_i heq; cases heq
        · rename_i k ks' k' n vs' h1 h2
          cases h1; cases h2
          simp only [Bool.and_eq_true, decide_eq_true_eq] at h
          obtain ⟨⟨rfl, rfl⟩, _⟩ := h
          exact .int _ 0
        · rename_i h1 h2; cases h1; cases h2; exact .bool false
        · rename_i h1 h2; cases h1; cases h2
          simp only [Bool.and_eq_true, decide_eq_true_eq] at h
          obtain ⟨rfl, _⟩ := h
          exact .str _
        · rename_i h1 h2; cases h1; cases h2
          exact .sl _ [] none 0 (fun _ _ => undef) (Nat.le_refl _) (fun r hr => by simp at hr) (fun hne => (hne rfl).elim) (fun i r f c k h1 => by simp at h1)
        · cases h
      | succ f =>
        have h' : zeroFits ks vs = true := by
          unfold zeroFits at h
          split at h <;> simp_all
        obtain ⟨u, h1, h2, h3⟩ := zeroFits_ok (S := S) ks vs h' f k (by simpa using hk)
        exact ⟨u, by simpa using h1, h2, by simpa [zeroRow] using h3⟩
theorem zeroRow_len : ∀ (ks : List CK), (zeroRow ks).length = ks.length
  | [] => rfl
  | k :: ks => by simp [zeroRow, zeroRow_len ks]
theorem makeSlice_ok {K : AV → St → Prop} {t e : TypeId} {len cap : Operand} {kl kc : IntKind} {n c : Int} {ks : List CK} {by_ : Nat}
    (he : elemOf P t = some e) (hk : elemK P e = some (ks, by_)) (hn : opnd s len = .x (.one (.int kl n))) (hc : opnd s cap = .x (.one (.int kc c)))
    (h : Ob (0 ≤ n ∧ n ≤ c ∧ c * (by_ : Int) ≤ 140737488355328) (s.addBlk (.row e false ks (List.replicate n.toNat (zeroRow ks))) fun id s' => K (.x (.one (.own id))) s'))
    (hC : Conc w0 R0 M0 s R a w) {ty : TypeId} {d : Option Tmp} {pos : String} {af : Array Edge} {gd : Option (Nat × Bool)} : Ok2 P w0 R0 M0 a w (execOp a.eval ⟨d, .makeSlice t len cap, ty, pos, af, gd⟩) K := by
  obtain ⟨⟨h0, h1, h2⟩, h⟩ := h
  obtain ⟨i, z, hi, hz, hsz, hby, hpos, hzc, hzf, hb0⟩ := elemK_ok hk
  have hlen : a.eval len = .int kl n := by have := hC.eval len; rw [hn] at this; exact this
  have hcap : a.eval cap = .int kc c := by have := hC.eval cap; rw [hc] at this; exact this
  have hu : P.underlying t = some (.slice e) := by
    unfold elemOf at he
    split at he
    · rename_i hu; cases he; exact und_of hu
    · cases he
  have hc1 : c ≤ c * (by_ : Int) := by
    have : c * 1 ≤ c * (by_ : Int) := Int.mul_le_mul_of_nonneg_left (by omega) (by omega)
    omega
  have hr := run_make (P := P) w t e i z hu hi hz kl kc n c h0 h1 (by rw [hby, Int.mul_comm]; omega) (by omega)
  rw [hsz] at hr
  have hget : ∀ k, k < c.toNat * ks.length → (madeCells z.cells (c.toNat * ks.length))[k]? = z.cells[k % ks.length]? := fun k hk => by
    have hm : k % ks.length < z.cells.size := by rw [hzc]; exact Nat.mod_lt _ hpos
    simp only [madeCells, Array.getElem?_map, Array.getElem?_range, hk, hzc]
    simp [hm]
  obtain ⟨s', hK', hC', hs'⟩ := hC.addBlk h (World.grownBy_alloc w (.cells (madeCells z.cells (c.toNat * ks.length)) e) none) (v := .slice (some ⟨w.heap.size, 0, none⟩) n.toNat c.toNat) (fun g e => by cases e; exact Nat.le_refl _) (by
    refine RepB.newRow (R := R) (R' := R.add _) (g := w.heap.size) (cap := c.toNat) (cs := madeCells z.cells (c.toNat * ks.length)) (by rw [Rp.add_new, List.length_replicate]) (heap_alloc_new w _) (by rw [List.length_replicate]; omega) (by unfold maxLen; omega) (size_madeCells _ _) (fun r hr => ?_) (fun i' r f ce k g1 g2 g3 => ?_)
    · rw [List.eq_of_mem_replicate hr, zeroRow_len]
    · rw [List.getElem?_replicate] at g1
      split at g1
      · rename_i hi'
        cases g1
        obtain ⟨v, hv, hrep, hz'⟩ := zeroFits_ok (w := w.alloc (.cells (madeCells z.cells (c.toNat * ks.length)) e)) (S := (R.add (.slice (some ⟨w.heap.size, 0, none⟩) n.toNat c.toNat)).rd false) ks _ hzf f k g3
        rw [hz'] at g2; cases g2
        have hf : f < ks.length := (List.getElem?_eq_some_iff.1 g3).1
        have hle : i' * ks.length + ks.length ≤ c.toNat * ks.length := by rw [← Nat.succ_mul]; exact Nat.mul_le_mul_right _ (by omega)
        refine ⟨v, ?_, hrep⟩
        rw [hget _ (by omega), Nat.mul_add_mod_self_right, Nat.mod_eq_of_lt hf]
        simpa using hv
      · cases g1)
  exact ⟨_, _, _, s', _, .inl (by simp [execOp, hlen, hcap, hr]), hK', ⟨Nat.lt_succ_self _, (Rp.add_new _ _).symm⟩, hC'⟩
theorem RepC.isCell {S : Nat → Prop} {k : CK} {c : Cell} {v : Value} (h : RepC w S k c v) : v.oneCell' = true := by
  cases h <;> rfl
/-- What is appended. -/
structure Src (w : World) (R : Rp) (al : Bool) (ks : List CK) (ar : Arr) (u : Value) (A : Option Addr) (cap : Nat) (news : List Value) : Prop where
  val : u = .slice A ar.length cap
  len : news.length = ar.length * ks.length
  has : ar ≠ [] → ∃ ad, A = some ad
  cell : ∀ ad, A = some ad → ∀ j v, news[j]? = some v → w.cell? (ad.add j) = some v
  one : ∀ v ∈ news, v.oneCell' = true
  rows : ∀ r ∈ ar, r.length = ks.length
  rep : ∀ i r f c k, ar[i]? = some r → r[f]? = some c → ks[f]? = some k → ∃ v, news[i * ks.length + f]? = some v ∧ RepC w (R.rd al) k c v
theorem src_ok {y : AV} {al : Bool} {ks : List CK} {ar : Arr} (h : srcRow s y = some (al, ks, ar)) (hpos : 0 < ks.length) (hC : Conc w0 R0 M0 s R a w) {u : Value} (hy : RepA w R y u) : ∃ A cap news, Src w R al ks ar u A cap news := by
  unfold srcRow at h
  split at h
  · rename_i al' ks' ar'
    cases h
    have hy' : RepC w (R.rd al) (.sl ks) (.sl ar) u := hy
    obtain ⟨A, cap, cv, hu, hcap, hlen, ha, hc⟩ := RepC.sl_inv hy'
    have hidx : ∀ j, j < ar.length * ks.length → j / ks.length < ar.length ∧ j % ks.length < ks.length ∧ j / ks.length * ks.length + j % ks.length = j := fun j hj =>
      ⟨(Nat.div_lt_iff_lt_mul hpos).2 hj, Nat.mod_lt _ hpos, by rw [Nat.mul_comm]; exact Nat.div_add_mod j ks.length⟩
    have hget : ∀ j, j < ar.length * ks.length → ∃ r c k, ar[j / ks.length]? = some r ∧ r[j % ks.length]? = some c ∧ ks[j % ks.length]? = some k := fun j hj => by
      obtain ⟨h1, h2, _⟩ := hidx j hj
      have hl := hlen _ (List.getElem_mem h1)
      exact ⟨_, _, _, List.getElem?_eq_getElem h1, List.getElem?_eq_getElem (by omega), List.getElem?_eq_getElem h2⟩
    have hj : ∀ (j : Nat) v, ((List.range (ar.length * ks.length)).map fun j => cv (j / ks.length) (j % ks.length))[j]? = some v → j < ar.length * ks.length ∧ v = cv (j / ks.length) (j % ks.length) := fun j v hv => by
      simp only [List.getElem?_map, Option.map_eq_some_iff] at hv
      obtain ⟨x, hx, rfl⟩ := hv
      obtain ⟨h1, h2⟩ := List.getElem?_eq_some_iff.1 hx
      simp at h1 h2
      subst h2
      exact ⟨h1, rfl⟩
    refine ⟨A, cap, (List.range (ar.length * ks.length)).map fun j => cv (j / ks.length) (j % ks.length), hu, by simp, fun hne => ?_, fun ad had j v hv => ?_, fun v hv => ?_, hlen, fun i r f c k h1 h2 h3 => ?_⟩
    · obtain ⟨x, hx, _⟩ := ha hne; exact ⟨x, hx⟩
    · obtain ⟨hjl, rfl⟩ := hj j v hv
      have hne : ar ≠ [] := by rintro rfl; simp at hjl
      obtain ⟨x, hx, _, hcell⟩ := ha hne
      rw [had] at hx; cases hx
      obtain ⟨r, c, k, h1, h2, h3⟩ := hget j hjl
      have := hcell _ r _ c k h1 h2 h3
      rw [(hidx j hjl).2.2] at this
      exact this
    · obtain ⟨j, hjv⟩ := List.getElem?_of_mem hv
      obtain ⟨hjl, rfl⟩ := hj j v hjv
      obtain ⟨r, c, k, h1, h2, h3⟩ := hget j hjl
      exact (hc _ r _ c k h1 h2 h3).isCell
    · have hi : i < ar.length := (List.getElem?_eq_some_iff.1 h1).1
      have hf : f < ks.length := (List.getElem?_eq_some_iff.1 h3).1
      have hle : i * ks.length + ks.length ≤ ar.length * ks.length := by rw [← Nat.succ_mul]; exact Nat.mul_le_mul_right _ hi
      have hd : (i * ks.length + f) / ks.length = i := by rw [Nat.mul_comm, Nat.mul_add_div hpos, Nat.div_eq_of_lt hf]; rfl
      have hm : (i * ks.length + f) % ks.length = f := by rw [Nat.mul_add_mod_self_right, Nat.mod_eq_of_lt hf]
      refine ⟨cv i f, ?_, hc i r f c k h1 h2 h3⟩
      rw [List.getElem?_map, List.getElem?_range (by omega)]
      simp [hd, hm]
  · rename_i id
    split at h
    · rename_i e al' ks' ar' hb
      cases h
      obtain ⟨hid, hu⟩ : id < R.n ∧ u = R.ν id := hy
      obtain ⟨xs, ho, hlen, hc⟩ := hC.row hb
      have hone : ∀ v ∈ xs, v.oneCell' = true := fun v hv => by
        obtain ⟨j, hj⟩ := List.getElem?_of_mem hv
        have hjl : j < ar.length * ks.length := by rw [← ho.1]; exact (List.getElem?_eq_some_iff.1 hj).1
        have h1 : j / ks.length < ar.length := (Nat.div_lt_iff_lt_mul hpos).2 hjl
        have h2 := Nat.mod_lt j hpos
        have hl := hlen _ (List.getElem_mem h1)
        obtain ⟨v', hv', hr⟩ := hc _ _ _ _ _ (List.getElem?_eq_getElem h1) (List.getElem?_eq_getElem (by rw [hl]; exact h2)) (List.getElem?_eq_getElem h2)
        rw [show j / ks.length * ks.length + j % ks.length = j by rw [Nat.mul_comm]; exact Nat.div_add_mod j ks.length, hj] at hv'
        cases hv'
        exact hr.isCell
      rcases ho.2 with ⟨hv, hn⟩ | ⟨g, cap, cur, hv, _⟩
      · exact ⟨none, 0, xs, by rw [hu, hv, hn], ho.1, fun hne => (hne (List.eq_nil_of_length_eq_zero hn)).elim, fun ad had => (by cases had), hone, hlen, hc⟩
      · exact ⟨some ⟨g, 0, none⟩, cap, xs, by rw [hu, hv], ho.1, fun _ => ⟨_, rfl⟩, fun ad had => by cases had; exact ho.cells (g := g) (by rw [hv]; rfl), hone, hlen, hc⟩
    · cases h
  · cases h
/-- append onto a row of one's own, whatever the source. -/
theorem run_append_src {t e ty : TypeId} {ks : List CK} {by_ : Nat} (he : elemOf P t = some e) (hk : elemK P e = some (ks, by_)) {v : Value} {n : Nat} {xs : List Value} (hown : w.ownsRow 0 e ks.length v n xs)
    {al : Bool} {ar : Arr} {u : Value} {A : Option Addr} {cap : Nat} {news : List Value} (hs : Src w R al ks ar u A cap news) (hb : (n + ar.length) * by_ ≤ 140737488355328) :
    ∃ v' w', (Builtin.append_ #[t, t] ty #[v, u]).run P w = .ok v' w' ∧ w'.ownsRow 0 e ks.length v' (n + ar.length) (xs ++ news) ∧ w.grownBy w' v.ownBlock ∧ (v'.ownBlock = v.ownBlock ∨ v'.ownBlock = some w.heap.size) := by
  obtain ⟨i, z, hi, hz, hsz, hby, hpos, hzc, hzf, hb0⟩ := elemK_ok hk
  have hu : P.underlying t = some (.slice e) := by
    unfold elemOf at he
    split at he
    · rename_i hu; cases he; exact und_of hu
    · cases he
  have hle : n + ar.length ≤ (n + ar.length) * by_ := Nat.le_mul_of_pos_right _ hb0
  rw [hs.val]
  cases A with
  | none =>
    have har : ar = [] := by
      by_cases h : ar = []
      · exact h
      · obtain ⟨ad, h'⟩ := hs.has h; cases h'
    have hn : news = [] := List.eq_nil_of_length_eq_zero (by rw [hs.len, har]; simp)
    subst har hn
    refine ⟨v, w, ?_, by simpa using hown, ⟨rfl, rfl, rfl, Nat.le_refl _, fun _ _ _ => rfl⟩, .inl rfl⟩
    rcases hown.2 with ⟨rfl, rfl⟩ | ⟨g, cp, cur, rfl, _, _, hnc, _⟩
    · simp [Builtin.append_, run_underlying hu, sizeOf, typeInfo, hi, Builtin.lenOf, Builtin.firstCells]
    · simp [Builtin.append_, run_underlying hu, sizeOf, typeInfo, hi, Builtin.lenOf, Builtin.firstCells, hnc, storeCells]
  | some ad =>
    obtain ⟨v', w', h1, h2, h3, _, h5⟩ := run_append_own_at (P := P) w 0 t ty e i z ks.length by_ hu hi hz hsz hby hzc hpos v n xs hown ad ar.length cap news hs.len (hs.cell ad rfl) hs.one (by unfold maxLen; omega) hb (Nat.zero_le _)
    exact ⟨v', w', h1, h2, h3, h5⟩
theorem ownBlock_hblk {v : Value} (h : (∃ A n c, v = .slice A n c)) : v.ownBlock = hblk v := by
  obtain ⟨A, n, c, rfl⟩ := h
  cases A <;> rfl
theorem ownsRow_slice {base e size : Nat} {v : Value} {n : Nat} {xs : List Value} (h : w.ownsRow base e size v n xs) : ∃ A n c, v = .slice A n c := by
  rcases h.2 with ⟨rfl, _⟩ | ⟨g, cap, cur, rfl, _⟩
  · exact ⟨_, _, _, rfl⟩
  · exact ⟨_, _, _, rfl⟩
/-- The row behind an append. -/
theorem appended {e : TypeId} {al al2 : Bool} {ks : List CK} {ar ar2 : Arr} {u : Value} {A : Option Addr} {cap : Nat} {news xs : List Value} {w' : World} {v' : Value} {R' : Rp} {id : Nat} (hxl : xs.length = ar.length * ks.length)
    (hs : Src w R al2 ks ar2 u A cap news) (ho : w'.ownsRow 0 e ks.length v' (ar.length + ar2.length) (xs ++ news)) (hv : R'.ν id = v') (hx : Ext w R w' R')
    (hlen : ∀ r ∈ ar, r.length = ks.length) (hc : ∀ i r f c k, ar[i]? = some r → r[f]? = some c → ks[f]? = some k → ∃ v, xs[i * ks.length + f]? = some v ∧ RepC w (R.rd al) k c v) : RepB w' R' id (.row e (al || al2) ks (ar ++ ar2)) := by
  refine ⟨xs ++ news, by rw [hv, List.length_append]; exact ho, fun r hr => ?_, fun i r f c k h1 h2 h3 => ?_⟩
  · rw [List.mem_append] at hr
    exact hr.elim (hlen r) (hs.rows r)
  · have hf : f < ks.length := (List.getElem?_eq_some_iff.1 h3).1
    rw [List.getElem?_append] at h1
    split at h1
    · rename_i hi
      obtain ⟨v, hv, hr⟩ := hc i r f c k h1 h2 h3
      refine ⟨v, ?_, hr.keep (fun b hb => hx.rdh hb) (fun b hb => impB_rd (by cases al <;> simp [impB]) (hx.rd hb))⟩
      rw [List.getElem?_append, if_pos (List.getElem?_eq_some_iff.1 hv).1]; exact hv
    · rename_i hi
      obtain ⟨v, hv, hr⟩ := hs.rep _ r f c k h1 h2 h3
      refine ⟨v, ?_, hr.keep (fun b hb => hx.rdh hb) (fun b hb => impB_rd (by cases al <;> cases al2 <;> simp [impB]) (hx.rd hb))⟩
      have : ar.length * ks.length ≤ i * ks.length := Nat.mul_le_mul_right _ (by omega)
      rw [List.getElem?_append, hxl, if_neg (by omega)]
      rw [Nat.sub_mul] at hv
      rw [← hv]
      congr 1
      omega
theorem append_ok {K : AV → St → Prop} {t t' ty : TypeId} {x y : Operand} (h : appendA P s t (opnd s x) (opnd s y) K) (ht : t' = t) (hC : Conc w0 R0 M0 s R a w) {c : Call} (hc : c = ⟨.builtin .append, #[x, y], #[t, t']⟩)
    {d : Option Tmp} {pos : String} {af : Array Edge} {gd : Option (Nat × Bool)} : Ok2 P w0 R0 M0 a w (execOp a.eval ⟨d, .call c, ty, pos, af, gd⟩) K := by
  subst hc ht
  have hx := hC.eval x
  have hy := hC.eval y
  have hex : ∀ v' w', (Builtin.append_ #[t', t'] ty #[a.eval x, a.eval y]).run P w = .ok v' w' → (execOp a.eval ⟨d, .call ⟨.builtin .append, #[x, y], #[t', t']⟩, ty, pos, af, gd⟩).run P w = .ok (.value v') w' := fun v' w' hr => by
    simp [execOp, resolve, invoke, builtin, hr]
  unfold appendA at h
  split at h
  · rename_i e he
    split at h
    · rename_i ks by_ hk
      have hu : P.underlying t' = some (.slice e) := by
        unfold elemOf at he
        split at he
        · rename_i hu; cases he; exact und_of hu
        · cases he
      obtain ⟨i, z, hi, hz, hsz, hby, hpos, hzc, hzf, hb0⟩ := elemK_ok hk
      split at h
      · rename_i id hxi
        rw [hxi] at hx
        obtain ⟨hid, hxe⟩ : id < R.n ∧ a.eval x = R.ν id := hx
        split at h
        · rename_i e' al ks' ar hb
          split at h
          · rename_i hq
            simp only [Bool.and_eq_true] at hq
            have hee : e = e' := Nat.eq_of_beq_eq_true hq.1
            have hkk := cksEq_eq _ _ hq.2
            subst hee hkk
            obtain ⟨xs, ho, hlen, hcc⟩ := hC.row hb
            split at h
            · rename_i hyn
              rw [hyn] at hy
              have hy' : a.eval y = .slice none 0 0 := hy
              obtain ⟨_, h⟩ := h
              refine ⟨R.ν id, w, _, s, R, .inl (hex _ _ ?_), h, (by rw [hxi]; exact ⟨hid, rfl⟩), hC⟩
              rw [hxe, hy']
              rcases ho.2 with ⟨hv, hn⟩ | ⟨g, cp, cur, hv, _, _, hnc, _⟩
              · rw [hv]; simp [Builtin.append_, run_underlying hu, sizeOf, typeInfo, hi, Builtin.lenOf, Builtin.firstCells]
              · rw [hv]; simp [Builtin.append_, run_underlying hu, sizeOf, typeInfo, hi, Builtin.lenOf, Builtin.firstCells, hnc, storeCells]
            · split at h
              · rename_i al2 ks2 a2 hsr
                split at h
                · rename_i hk2
                  have hkk := cksEq_eq _ _ hk2
                  subst hkk
                  obtain ⟨hbb, h⟩ := h
                  obtain ⟨A, cap, news, hs⟩ := src_ok hsr hpos hC hy
                  obtain ⟨v', w', h1, h2, h3, h4⟩ := run_append_src (ty := ty) he hk ho hs hbb
                  rw [ownBlock_hblk (ownsRow_slice ho)] at h3 h4
                  rw [ownBlock_hblk (ownsRow_slice h2)] at h4
                  obtain ⟨k0, env, mem⟩ := s
                  simp only [St.setBlk, St.addBlk, fO_eq, fB_eq, fN_eq, setL_eq, snocL_eq, lenL_eq, List.length_set] at h
                  have hn : R.n = mem.length := hC.fr.ok.n
                  rw [← hn] at h
                  have hext := hC.grown_ext h3 (fun g hg => ⟨id, blk_live hb, hg⟩) v'
                  have hC' := hC.grow h3 (mem.set id none) (some id) rfl (fun g hg => ⟨id, rfl, blk_live hb, hg⟩) (v := v') (b := .row e (al || al2) ks (ar ++ a2)) (fun g hg => by
                    rcases h4 with h4 | h4
                    · rw [h4] at hg; exact .inr hg
                    · rw [h4] at hg; cases hg; exact .inl (Nat.le_refl _)) (appended ho.1 hs h2 (Rp.add_new _ _) hext hlen hcc)
                  exact ⟨v', w', _, _, _, .inl (hex _ _ (by rw [hxe]; exact h1)), h, ⟨Nat.lt_succ_self _, (Rp.add_new _ _).symm⟩, hC'⟩
                · cases h
              · cases h
          · cases h
        · cases h
      · rename_i hxn
        rw [hxn] at hx
        have hx' : a.eval x = .slice none 0 0 := hx
        split at h
        · rename_i hyn
          rw [hyn] at hy
          have hy' : a.eval y = .slice none 0 0 := hy
          refine ⟨.slice none 0 0, w, _, s, R, .inl (hex _ _ ?_), h, rfl, hC⟩
          rw [hx', hy']
          simp [Builtin.append_, run_underlying hu, sizeOf, typeInfo, hi, Builtin.lenOf, Builtin.firstCells]
        · split at h
          · rename_i al2 ks2 a2 hsr
            split at h
            · rename_i hk2
              have hkk := cksEq_eq _ _ hk2
              subst hkk
              obtain ⟨hbb, h⟩ := h
              obtain ⟨A, cap, news, hs⟩ := src_ok hsr hpos hC hy
              have ho := World.ownsRow_nil w 0 e ks.length
              obtain ⟨v', w', h1, h2, h3, h4⟩ := run_append_src (ty := ty) he hk ho hs (by rw [Nat.zero_add]; exact hbb)
              rw [ownBlock_hblk (ownsRow_slice h2)] at h4
              have hg : w.grownBy w' none := h3
              have hext := hC.grown_ext hg (fun g hg => by cases hg) v'
              obtain ⟨s', hK', hC', _⟩ := hC.addBlk h hg (v := v') (fun g hg => by
                rcases h4 with h4 | h4
                · rw [h4] at hg; cases hg
                · rw [h4] at hg; cases hg; exact Nat.le_refl _) (by
                have := appended (e := e) (xs := []) (ar := []) (al := false) (R' := R.add v') (id := R.n) (by simp) hs (by simpa using h2) (Rp.add_new _ _) hext (fun r hr => by simp at hr) (fun i r f c k h1 => by simp at h1)
                simpa using this)
              exact ⟨v', w', _, s', _, .inl (hex _ _ (by rw [hx']; exact h1)), hK', ⟨Nat.lt_succ_self _, (Rp.add_new _ _).symm⟩, hC'⟩
            · cases h
          · cases h
      · cases h
    · cases h
  · cases h
end
end Go.Sx

/- Sx, part M: calls by contract. -/
namespace Go.Sx
open Go Go.RowKit

theorem idx_get : ∀ {sel : List Nat} {id j : Nat}, idx sel id = some j → sel[j]? = some id
  | [], id, j, h => by simp [idx] at h
  | x :: l, id, j, h => by
    unfold idx at h
    split at h
    · rename_i hq; cases h; simp [Nat.eq_of_beq_eq_true hq]
    · split at h
      · rename_i n hn; cases h; simpa using idx_get hn
      · cases h
theorem idx_none : ∀ {sel : List Nat} {id : Nat}, idx sel id = none → id ∉ sel
  | [], id, h => by simp
  | x :: l, id, h => by
    unfold idx at h
    split at h
    · cases h
    · rename_i hq
      split at h
      · cases h
      · rename_i hn
        simp only [List.mem_cons, not_or]
        exact ⟨fun e => hq (by subst e; exact Nat.beq_refl _), idx_none hn⟩
theorem distinct_inj : ∀ {sel : List Nat}, distinctB sel = true → ∀ {i j id : Nat}, sel[i]? = some id → sel[j]? = some id → i = j
  | [], _, i, j, id, h, _ => by simp at h
  | x :: l, hd, i, j, id, h1, h2 => by
    simp only [distinctB, Bool.and_eq_true] at hd
    have hx : x ∉ l := by
      cases hi : idx l x with
      | none => exact idx_none hi
      | some k => rw [hi] at hd; simp at hd
    cases i with
    | zero =>
      cases j with
      | zero => rfl
      | succ j => simp at h1 h2; subst h1; exact (hx (List.mem_of_getElem? h2)).elim
    | succ i =>
      cases j with
      | zero => simp at h1 h2; subst h2; exact (hx (List.mem_of_getElem? h1)).elim
      | succ j => exact congrArg (· + 1) (distinct_inj hd.2 (id := id) (by simpa using h1) (by simpa using h2))
theorem distinct_tail {x : Nat} {l : List Nat} (h : distinctB (x :: l) = true) : x ∉ l ∧ distinctB l = true := by
  simp only [distinctB, Bool.and_eq_true] at h
  refine ⟨?_, h.2⟩
  cases hi : idx l x with
  | none => exact idx_none hi
  | some k => rw [hi] at h; simp at h
/-- The objects behind a call. -/
def memR : List (Option Blk) → List Nat → List (Option Blk) → List (Option Blk)
  | mem, [], bs => mem ++ bs
  | mem, id :: sel, b :: bs => memR (mem.set id b) sel bs
  | mem, _ :: _, [] => mem
theorem memSel_eq : ∀ (sel : List Nat) (bs mem : List (Option Blk)) (K : List (Option Blk) → Prop), memSel mem sel bs K → sel.length ≤ bs.length ∧ K (memR mem sel bs)
  | [], [], mem, K, h => ⟨Nat.le_refl _, by simpa [memR, memSel] using h⟩
  | [], b :: bs, mem, K, h => by
    simp only [memSel, fO_eq, snocL_eq] at h
    have := (memSel_eq [] bs _ K h).2
    refine ⟨Nat.zero_le _, ?_⟩
    simpa [memR] using this
  | id :: sel, b :: bs, mem, K, h => by
    simp only [memSel, fO_eq, setL_eq] at h
    obtain ⟨h1, h2⟩ := memSel_eq sel bs _ K h
    exact ⟨by simpa using h1, by simpa [memR] using h2⟩
  | _ :: _, [], mem, K, h => by simp [memSel] at h
theorem memR_len : ∀ (sel : List Nat) (bs mem : List (Option Blk)), sel.length ≤ bs.length → (memR mem sel bs).length = mem.length + (bs.length - sel.length)
  | [], bs, mem, _ => by simp [memR]
  | id :: sel, b :: bs, mem, h => by
    simp only [memR]
    rw [memR_len sel bs _ (by simpa using h)]
    simp
  | _ :: _, [], mem, h => by simp at h
theorem memR_get : ∀ (sel : List Nat) (bs mem : List (Option Blk)), sel.length ≤ bs.length → distinctB sel = true → (∀ id ∈ sel, id < mem.length) →
    (∀ i, i < mem.length → i ∉ sel → (memR mem sel bs)[i]? = mem[i]?) ∧ (∀ (j id : Nat), sel[j]? = some id → (memR mem sel bs)[id]? = bs[j]?) ∧ (∀ j, sel.length ≤ j → (memR mem sel bs)[mem.length + (j - sel.length)]? = bs[j]?)
  | [], bs, mem, _, _, _ => by
    refine ⟨fun i hi _ => ?_, fun j id h => by simp at h, fun j _ => ?_⟩
    · simp only [memR]; rw [List.getElem?_append, if_pos hi]
    · simp only [memR, List.length_nil, Nat.sub_zero]; rw [List.getElem?_append, if_neg (by omega), Nat.add_sub_cancel_left]
  | id :: sel, b :: bs, mem, h, hd, hlt => by
    obtain ⟨hx, hd'⟩ := distinct_tail hd
    obtain ⟨h1, h2, h3⟩ := memR_get sel bs (mem.set id b) (by simpa using h) hd' (fun i hi => by simpa using hlt i (List.mem_cons_of_mem _ hi))
    have hid : id < mem.length := hlt id (List.mem_cons_self ..)
    refine ⟨fun i hi hn => ?_, fun j i hj => ?_, fun j hj => ?_⟩
    · simp only [List.mem_cons, not_or] at hn
      simp only [memR]
      rw [h1 i (by simpa using hi) hn.2, List.getElem?_set_ne (fun e => hn.1 e.symm)]
    · cases j with
      | zero =>
        simp at hj; subst hj
        simp only [memR]
        rw [h1 id (by simpa using hid) hx]
        simp [hid]
      | succ j =>
        simp at hj
        simp only [memR]
        rw [h2 j i hj]; simp
    · cases j with
      | zero => simp at hj
      | succ j =>
        simp only [List.length_cons, Nat.add_le_add_iff_right] at hj
        have := h3 j hj
        simp only [List.length_set] at this
        simp only [memR, List.length_cons, Nat.add_sub_add_right, List.getElem?_cons_succ]
        exact this
  | _ :: _, [], mem, h, _, _ => by simp at h
theorem backBs_get (lent : Bool) (sel : List Nat) (n : Nat) : ∀ (m : List (Option Blk)) (j : Nat), (backBs lent sel n m)[j]? = (m[j]?).map (backB lent sel n)
  | [], j => by simp [backBs]
  | b :: m, 0 => by simp [backBs]
  | b :: m, j + 1 => by simp [backBs, backBs_get lent sel n m j]
theorem backBs_len (lent : Bool) (sel : List Nat) (n : Nat) : ∀ (m : List (Option Blk)), (backBs lent sel n m).length = m.length
  | [] => rfl
  | b :: m => by simp [backBs, backBs_len lent sel n m]
theorem backSs_get (lent : Bool) (sel : List Nat) (n : Nat) : ∀ (m : List SV) (j : Nat), (backSs lent sel n m)[j]? = (m[j]?).map (backS lent sel n)
  | [], j => by simp [backSs]
  | b :: m, 0 => by simp [backSs]
  | b :: m, j + 1 => by simp [backSs, backSs_get lent sel n m j]
theorem backSs_len (lent : Bool) (sel : List Nat) (n : Nat) : ∀ (m : List SV), (backSs lent sel n m).length = m.length
  | [] => rfl
  | b :: m => by simp [backSs, backSs_len lent sel n m]
theorem backXs_get (lent : Bool) (sel : List Nat) (n : Nat) : ∀ (m : List XV) (j : Nat), (backXs lent sel n m)[j]? = (m[j]?).map (backX lent sel n)
  | [], j => by simp [backXs]
  | b :: m, 0 => by simp [backXs]
  | b :: m, j + 1 => by simp [backXs, backXs_get lent sel n m j]
theorem backXs_len (lent : Bool) (sel : List Nat) (n : Nat) : ∀ (m : List XV), (backXs lent sel n m).length = m.length
  | [] => rfl
  | b :: m => by simp [backXs, backXs_len lent sel n m]
theorem backCaps_get (sel : List Nat) (n : Nat) : ∀ (m : List (Nat × Nat)) (j : Nat), (backCaps sel n m)[j]? = (m[j]?).map fun p => (backId sel n p.1, p.2)
  | [], j => by simp [backCaps]
  | (i, o) :: m, 0 => by simp [backCaps]
  | (i, o) :: m, j + 1 => by simp [backCaps, backCaps_get sel n m j]
theorem backCaps_len (sel : List Nat) (n : Nat) : ∀ (m : List (Nat × Nat)), (backCaps sel n m).length = m.length
  | [] => rfl
  | (i, o) :: m => by simp [backCaps, backCaps_len sel n m]

section
variable {P : Program} {w w0 w' : World} {R R0 R' : Rp} {M0 : List (Option Blk)} {s : St} {a : Act} {sel : List Nat} {lent : Bool}
/-- How ids stand for blocks, as the callee sees it. -/
def Rc (w : World) (R : Rp) (sel : List Nat) (lent : Bool) : Rp :=
  ⟨sel.length, fun j => R.ν (sel.getD j 0), fun b => R.I b ∨ R.J b ∨ (lent = true ∧ b < w.heap.size ∧ ¬ ∃ id, id ∈ sel ∧ hblk (R.ν id) = some b), fun _ => False⟩
theorem Rc_ν {j id : Nat} (h : sel[j]? = some id) : (Rc w R sel lent).ν j = R.ν id := by simp [Rc, List.getD_eq_getElem?_getD, h]
theorem selB_ok : ∀ (l : List Nat) (m : List Blk), selB s sel l = some m → m.length = l.length ∧ ∀ (j id : Nat), l[j]? = some id → ∃ b, s.blk id = some b ∧ m[j]? = some (argB s sel b) ∧ isLoop b = false
  | [], m, h => by cases h; exact ⟨rfl, fun j id h => by simp at h⟩
  | id :: l, m, h => by
    unfold selB at h
    split at h
    · rename_i b bs hb hbs
      split at h
      · cases h
      rename_i hlp
      cases h
      obtain ⟨h1, h2⟩ := selB_ok l bs hbs
      refine ⟨by simp [h1], fun j i hi => ?_⟩
      cases j with
      | zero => simp at hi; subst hi; exact ⟨b, hb, rfl, by simpa using hlp⟩
      | succ j => simpa using h2 j i (by simpa using hi)
    · cases h
theorem argCaps_ok : ∀ (l l' : List (Nat × Nat)), argCaps sel l = some l' → l'.length = l.length ∧ ∀ (j : Nat) p', l'[j]? = some p' → ∃ p, l[j]? = some p ∧ sel[p'.1]? = some p.1 ∧ p'.2 = p.2
  | [], l', h => by cases h; exact ⟨rfl, fun j p h => by simp at h⟩
  | (i, o) :: l, l', h => by
    unfold argCaps at h
    split at h
    · rename_i j l2 hj hl
      cases h
      obtain ⟨h1, h2⟩ := argCaps_ok l l2 hl
      refine ⟨by simp [h1], fun k p' hp => ?_⟩
      cases k with
      | zero => simp at hp; subst hp; exact ⟨(i, o), rfl, idx_get hj, rfl⟩
      | succ k => simpa using h2 k p' (by simpa using hp)
    · cases h
theorem sel_lt {j id : Nat} (h : sel[j]? = some id) : j < sel.length := (List.getElem?_eq_some_iff.1 h).1
theorem lendCell_ok (hC : Conc w0 R0 M0 s R a w) (hlive : ∀ id, id ∈ sel → live s.mem id) (hlt : lent = true) {v : SV} {k : CK} {c : Cell} (h : lendCell s sel v = some (k, c)) {u : Value} (hr : RepS w R v u) : RepC w ((Rc w R sel lent).rd true) k c u := by
  have hrd : ∀ {al : Bool} {b : Nat}, R.rd al b → (Rc w R sel lent).rd true b := fun {al b} hb => .inr ⟨rfl, hb.elim (fun hj => .inr (.inl hj)) fun ⟨_, hi⟩ => .inl hi⟩
  unfold lendCell at h
  split at h
  · cases h; have h' : u = _ := hr; subst h'; exact .int _ _
  · cases h; have h' : u = _ := hr; subst h'; exact .bool _
  · cases h; have h' : u = _ := hr; subst h'; exact .bool _
  · cases h; have h' : u = _ := hr; subst h'; exact .bool _
  · cases h; have h' : u = _ := hr; subst h'; exact .bool _
  · cases h; have h' : u = _ := hr; subst h'; exact .str _
  · cases h; exact RepC.keep (fun _ _ => rfl) (fun b hb => hrd hb) (show RepC w (R.rd _) _ _ u from hr)
  · rename_i id
    split at h
    · cases h
    · rename_i hj
      split at h
      · rename_i e al ks ar hb
        cases h
        have hn := idx_none hj
        obtain ⟨hid, hu⟩ : id < R.n ∧ u = R.ν id := hr
        rw [hu]
        refine (hC.row hb).toC (fun b hb => hrd hb) (fun g hg => .inr ⟨rfl, .inr (.inr ⟨hlt, (hC.row hb).blk_lt hg, ?_⟩)⟩)
        rintro ⟨id', hid', hg'⟩
        have := hC.fr.ok.sep id id' g (blk_live hb) (hlive id' hid') hg hg'
        subst this
        exact hn hid'
      · cases h
  · cases h
    obtain ⟨cvs, hu, hs, _⟩ := hr
    have : cvs = #[] := Array.eq_empty_of_size_eq_zero (by simpa using hs)
    subst this
    rw [hu]; exact .fn _
  · cases h
theorem lendCells_ok : ∀ (l : List SV) (ks : List CK) (cs : List Cell), lendCells s sel l = some (ks, cs) → ks.length = l.length ∧ cs.length = l.length ∧ ∀ (j : Nat) k c, ks[j]? = some k → cs[j]? = some c → ∃ v, l[j]? = some v ∧ lendCell s sel v = some (k, c)
  | [], ks, cs, h => by cases h; exact ⟨rfl, rfl, fun j k c h => by simp at h⟩
  | v :: l, ks, cs, h => by
    unfold lendCells at h
    split at h
    · rename_i k0 c0 ks0 cs0 h1 h2
      cases h
      obtain ⟨h3, h4, h5⟩ := lendCells_ok l ks0 cs0 h2
      refine ⟨by simp [h3], by simp [h4], fun j k c hk hc => ?_⟩
      cases j with
      | zero => simp at hk hc; subst hk hc; exact ⟨v, rfl, h1⟩
      | succ j => simpa using h5 j k c (by simpa using hk) (by simpa using hc)
    · cases h
theorem flatK_rep {S S' : Nat → Prop} : ∀ {ks : List CK}, flatK ks = true → ∀ {f : Nat} {k : CK} {c : Cell} {v : Value}, ks[f]? = some k → RepC w S k c v → RepC w S' k c v
  | [], _, f, k, c, v, h, _ => by simp at h
  | k0 :: ks, hf, f, k, c, v, h, hr => by
    have h0 : flatK ks = true ∧ ∀ l, k0 ≠ .sl l := by cases k0 <;> simp [flatK] at hf ⊢ <;> exact hf
    cases f with
    | zero =>
      simp at h; subst h
      cases hr with
      | int k n => exact .int k n
      | bool b => exact .bool b
      | str s => exact .str s
      | fn f => exact .fn f
      | sl ks rows a cap cv h1 h2 h3 h4 => exact (h0.2 _ rfl).elim
    | succ f => exact flatK_rep h0.1 (by simpa using h) hr
theorem argS_rep (hC : Conc w0 R0 M0 s R a w) (hlive : ∀ id, id ∈ sel → live s.mem id) {v : SV} (hl : lends sel v = true → lent = true) {u : Value} (h : RepS w R v u) : RepS w (Rc w R sel lent) (argS s sel v) u := by
  have hrd : ∀ {al : Bool} {b : Nat}, R.rd al b → (Rc w R sel lent).rd true b := fun {al b} hb => .inr ⟨rfl, hb.elim (fun hj => .inr (.inl hj)) fun ⟨_, hi⟩ => .inl hi⟩
  cases v with
  | lst al ks ar => exact RepC.keep (fun _ _ => rfl) (fun b hb => hrd hb) (show RepC w (R.rd al) _ _ u from h)
  | own id =>
    obtain ⟨hid, hu⟩ : id < R.n ∧ u = R.ν id := h
    simp only [argS]
    split
    · rename_i j hj
      have := idx_get hj
      exact ⟨sel_lt this, by rw [Rc_ν this]; exact hu⟩
    · rename_i hj
      split
      · rename_i e al ks ar hb
        have hn := idx_none hj
        have hlt : lent = true := hl (by simp [lends, hj])
        rw [hu]
        refine (hC.row hb).toC (fun b hb => hrd hb) (fun g hg => .inr ⟨rfl, .inr (.inr ⟨hlt, (hC.row hb).blk_lt hg, ?_⟩)⟩)
        rintro ⟨id', hid', hg'⟩
        have := hC.fr.ok.sep id id' g (blk_live hb) (hlive id' hid') hg hg'
        subst this
        exact hn hid'
      · trivial
  | ptr id off =>
    simp only [argS]
    split
    · rename_i j hj
      have := idx_get hj
      obtain ⟨_, g, hg, hu⟩ := h
      exact ⟨sel_lt this, g, by rw [Rc_ν this]; exact hg, hu⟩
    · rename_i hj
      split
      · rename_i bt cs hb
        split
        · rename_i ks row hlc
          have hlt : lent = true := hl (by simp [lends, hj])
          obtain ⟨_, g, hg, hu⟩ := h
          obtain ⟨h1, h2, h3⟩ := lendCells_ok _ _ _ hlc
          have hbox := hC.box hb
          have hS : (Rc w R sel lent).rd true g := by
            refine .inr ⟨rfl, .inr (.inr ⟨hlt, hbox.blk_lt (by rw [hg]; rfl), ?_⟩)⟩
            rintro ⟨id', hid', hg'⟩
            have := hC.fr.ok.sep id id' g (blk_live hb) (hlive id' hid') (by rw [hg]; rfl) hg'
            subst this
            exact idx_none hj hid'
          obtain ⟨g', vals, hg', hh, hrl⟩ := hbox
          rw [hg] at hg'
          cases hg'
          have hcell : ∀ f k c, row[f]? = some c → ks[f]? = some k → w.cell? ⟨g, f, none⟩ = some (vals.getD f undef) ∧ RepC w ((Rc w R sel lent).rd true) k c (vals.getD f undef) := fun f k c hc hk => by
            obtain ⟨v, hv, hlv⟩ := h3 f k c hk hc
            obtain ⟨k1, k2⟩ := getD_of_rep hrl hv
            exact ⟨by simp only [World.cell?, hh]; simpa using k1, lendCell_ok hC hlive hlt hlv k2⟩
          have hone : ∀ (i : Nat) r, [row][i]? = some r → i = 0 ∧ r = row := fun i r hr => by
            cases i with
            | zero => simp at hr; exact ⟨rfl, hr.symm⟩
            | succ i => simp at hr
          refine ⟨⟨g, 0, none⟩, 1, .sl ks [row] _ 1 (fun _ f => vals.getD f undef) (Nat.le_refl _) (fun r hr => by simp at hr; rw [hr, h1, h2]) (fun _ => ⟨_, rfl, hS, fun i r f c k e1 e2 e3 => ?_⟩) (fun i r f c k e1 e2 e3 => ?_), by simp, ?_⟩
          · obtain ⟨rfl, rfl⟩ := hone i r e1
            rw [addr_add]
            simpa using (hcell f k c e2 e3).1
          · obtain ⟨rfl, rfl⟩ := hone i r e1
            exact (hcell f k c e2 e3).2
          · rw [addr_add, hu]; simp
        · trivial
      · trivial
  | elt id sz i f =>
    simp only [argS]
    split
    · rename_i j hj
      have := idx_get hj
      obtain ⟨_, g, n, c, hg, hu⟩ := h
      exact ⟨sel_lt this, g, n, c, by rw [Rc_ν this]; exact hg, hu⟩
    · trivial
  | lel al ks ar i f =>
    obtain ⟨ad, cap, hc, hi, hu⟩ := h
    exact ⟨ad, cap, RepC.keep (fun _ _ => rfl) (fun b hb => hrd hb) hc, hi, hu⟩
  | fn f caps =>
    simp only [argS]
    split
    · rename_i l hl'
      obtain ⟨cvs, hu, hs, hp⟩ := h
      obtain ⟨h1, h2⟩ := argCaps_ok _ _ hl'
      refine ⟨cvs, hu, by rw [hs, h1], fun j p' hp' => ?_⟩
      obtain ⟨p, hpj, hsel, ho⟩ := h2 j p' hp'
      obtain ⟨_, g, hg, hv⟩ := hp j p hpj
      exact ⟨sel_lt hsel, g, by rw [Rc_ν hsel]; exact hg, by rw [ho]; exact hv⟩
    · trivial
  | map id =>
    simp only [argS]
    split
    · rename_i j hj
      have := idx_get hj
      exact ⟨sel_lt this, by rw [Rc_ν this]; exact h.2⟩
    · trivial
  | yld id => trivial
  | _ => exact h
theorem argSs_get : ∀ (l : List SV) (j : Nat), (argSs s sel l)[j]? = (l[j]?).map (argS s sel)
  | [], j => by simp [argSs]
  | v :: l, 0 => by simp [argSs]
  | v :: l, j + 1 => by simp [argSs, argSs_get l j]
theorem argSs_len : ∀ (l : List SV), (argSs s sel l).length = l.length
  | [] => rfl
  | v :: l => by simp [argSs, argSs_len l]
theorem lendsL_mem : ∀ {l : List SV} {j : Nat} {v : SV}, l[j]? = some v → lends sel v = true → lendsL sel l = true
  | [], j, v, h, _ => by simp at h
  | x :: l, 0, v, h, hl => by simp at h; subst h; simp [lendsL, hl]
  | x :: l, j + 1, v, h, hl => by simp [lendsL, lendsL_mem (l := l) (j := j) (by simpa using h) hl]
theorem argL_rep (hC : Conc w0 R0 M0 s R a w) (hlive : ∀ id, id ∈ sel → live s.mem id) {l : List SV} (hl : lendsL sel l = true → lent = true) {cs : Array Value} (h : RepL w R l cs) : RepL w (Rc w R sel lent) (argSs s sel l) cs := by
  refine ⟨by rw [argSs_len]; exact h.1, fun j v hv => ?_⟩
  rw [argSs_get] at hv
  simp only [Option.map_eq_some_iff] at hv
  obtain ⟨x, hx, rfl⟩ := hv
  exact argS_rep hC hlive (fun h' => hl (lendsL_mem hx h')) (h.2 j x hx)
theorem argX_rep (hC : Conc w0 R0 M0 s R a w) (hlive : ∀ id, id ∈ sel → live s.mem id) {x : XV} (hl : lendsX sel x = true → lent = true) {u : Value} (h : RepX w R x u) : RepX w (Rc w R sel lent) (argX s sel x) u := by
  cases x with
  | one v => exact argS_rep hC hlive hl h
  | agg l => obtain ⟨cs, hu, hr⟩ := h; exact ⟨cs, hu, argL_rep hC hlive hl hr⟩
theorem argsX_ok : ∀ (l : List AV) (l' : List XV), argsX s sel l = some l' → l'.length = l.length ∧ ∀ (j : Nat) x', l'[j]? = some x' → ∃ x, l[j]? = some (.x x) ∧ x' = argX s sel x
  | [], l', h => by cases h; exact ⟨rfl, fun j x h => by simp at h⟩
  | .x v :: l, l', h => by
    unfold argsX at h
    split at h
    · rename_i vs hvs
      cases h
      obtain ⟨h1, h2⟩ := argsX_ok l vs hvs
      refine ⟨by simp [h1], fun j x' hx => ?_⟩
      cases j with
      | zero => simp at hx; subst hx; exact ⟨v, rfl, rfl⟩
      | succ j => simpa using h2 j x' (by simpa using hx)
    · cases h
  | .tup _ :: _, l', h => by simp [argsX] at h
theorem lendsA_mem : ∀ {l : List AV} {j : Nat} {x : XV}, l[j]? = some (.x x) → lendsX sel x = true → lendsA sel l = true
  | [], j, x, h, _ => by simp at h
  | .x y :: l, 0, x, h, hl => by simp at h; subst h; simp [lendsA, hl]
  | .tup _ :: l, 0, x, h, hl => by simp at h
  | .x y :: l, j + 1, x, h, hl => by simp [lendsA, lendsA_mem (l := l) (j := j) (by simpa using h) hl]
  | .tup _ :: l, j + 1, x, h, hl => by simp [lendsA, lendsA_mem (l := l) (j := j) (by simpa using h) hl]
theorem lendsB_mem : ∀ {l : List Nat} {id : Nat} {t : TypeId} {cs : List SV}, id ∈ l → s.blk id = some (.box t cs) → lendsL sel cs = true → lendsB s sel l = true
  | [], id, t, cs, h, _, _ => by simp at h
  | x :: l, id, t, cs, h, hb, hl => by
    simp only [List.mem_cons] at h
    rcases h with rfl | h
    · simp [lendsB, hb, hl]
    · simp [lendsB, lendsB_mem h hb hl]
/-- What the callee is given. -/
theorem callee_ok (hC : Conc w0 R0 M0 s R a w) {m : List Blk} (hm : selB s sel sel = some m) (hd : distinctB sel = true) (hlb : lendsB s sel sel = true → lent = true) : MemOK w (Rc w R sel lent) (m.map some) := by
  obtain ⟨hlen, hb⟩ := selB_ok _ _ hm
  have hlive : ∀ id, id ∈ sel → live s.mem id := fun id hid => by
    obtain ⟨j, hj⟩ := List.getElem?_of_mem hid
    obtain ⟨b, h1, _⟩ := hb j id hj
    exact blk_live h1
  have hget : ∀ j, live (m.map some) j → ∃ id, sel[j]? = some id := fun j ⟨b, h⟩ => by
    have : j < m.length := by simpa using (List.getElem?_eq_some_iff.1 h).1
    exact ⟨_, List.getElem?_eq_getElem (by omega)⟩
  refine ⟨by simp [Rc, hlen], fun j b hjb => ?_, fun i j g hi hj hbi hbj => ?_, fun j g hj hbj => ⟨?_, fun h => h⟩, fun b hb => ?_, fun j hj => ?_⟩
  · obtain ⟨id, hid⟩ := hget j ⟨b, hjb⟩
    obtain ⟨b0, h1, h2, hnl⟩ := hb j id hid
    have hbe : b = argB s sel b0 := by
      simp only [List.getElem?_map, Option.map_eq_some_iff] at hjb
      obtain ⟨x, hx, hxe⟩ := hjb
      rw [h2] at hx; cases hx; cases hxe; rfl
    subst hbe
    have hr := hC.fr.ok.rep id b0 (blk_eq h1)
    cases b0 with
    | box t cs =>
      obtain ⟨g, vals, hv, hh, hl⟩ := hr
      exact ⟨g, vals, by rw [Rc_ν hid]; exact hv, hh, argL_rep hC hlive (fun h => hlb (lendsB_mem (List.mem_of_getElem? hid) h1 h)) hl⟩
    | row e al ks ar =>
      obtain ⟨xs, ho, hl, hc⟩ := hr
      refine ⟨xs, by rw [Rc_ν hid]; exact ho, hl, fun i r f c k g1 g2 g3 => ?_⟩
      obtain ⟨v, hv, hr⟩ := hc i r f c k g1 g2 g3
      cases hfl : flatK ks with
      | true => exact ⟨v, hv, flatK_rep hfl g3 hr⟩
      | false => exact ⟨v, hv, hr.keep (fun _ _ => rfl) fun b hb => .inr ⟨rfl, hb.elim (fun hj => .inr (.inl hj)) fun ⟨_, hi⟩ => .inl hi⟩⟩
    | loop ps as b env p => simp [isLoop] at hnl
  · obtain ⟨id, hid⟩ := hget i hi
    obtain ⟨id', hid'⟩ := hget j hj
    rw [Rc_ν hid] at hbi
    rw [Rc_ν hid'] at hbj
    have := hC.fr.ok.sep id id' g (hlive id (List.mem_of_getElem? hid)) (hlive id' (List.mem_of_getElem? hid')) hbi hbj
    subst this
    exact distinct_inj hd hid hid'
  · obtain ⟨id, hid⟩ := hget j hj
    rw [Rc_ν hid] at hbj
    have hij := hC.fr.ok.ij id g (hlive id (List.mem_of_getElem? hid)) hbj
    rintro (h | h | ⟨_, _, h⟩)
    · exact hij.1 h
    · exact hij.2 h
    · exact h ⟨id, List.mem_of_getElem? hid, hbj⟩
  · rcases hb with (h | h | ⟨_, h, _⟩) | h
    · exact hC.fr.ok.lt b (.inl h)
    · exact hC.fr.ok.lt b (.inr h)
    · exact h
    · exact h.elim
  · have hj' : j < sel.length := hj
    have hid : sel[j]? = some sel[j] := List.getElem?_eq_getElem hj'
    rw [Rc_ν hid]
    exact hC.fr.ok.cell _ (hC.live_n (hlive _ (List.mem_of_getElem? hid)))
end
end Go.Sx

/- Sx, part N: behind a call. -/
namespace Go.Sx
open Go Go.RowKit
section
variable {P : Program} {w w0 w' : World} {R R0 R' : Rp} {M0 : List (Option Blk)} {s : St} {a : Act} {sel : List Nat} {lent : Bool}

/-- How ids stand for blocks behind a call. -/
def Rb (R R' : Rp) (sel : List Nat) : Rp :=
  ⟨R.n + (R'.n - sel.length), fun i => if i < R.n then R.ν i else R'.ν (i - R.n + sel.length), R.I, fun b => R.J b ∨ R'.J b⟩
theorem backId_sel {n j id : Nat} (h : sel[j]? = some id) : backId sel n j = id := by simp [backId, getL_eq, h]
theorem backId_new {n j : Nat} (h : sel.length ≤ j) : backId sel n j = n + (j - sel.length) := by simp [backId, getL_eq, lenL_eq, List.getElem?_eq_none h]
theorem Rb_old {i : Nat} (h : i < R.n) : (Rb R R' sel).ν i = R.ν i := by simp [Rb, h]
/-- A callee's id in the caller: what it stands for. -/
theorem Rb_back (hC : Conc w0 R0 M0 s R a w) (hlive : ∀ id, id ∈ sel → live s.mem id) {m : List Blk} (hml : m.length = sel.length) {mem' : List (Option Blk)} (hf : Fr w (Rc w R sel lent) (m.map some) w' R' mem') {j : Nat} (hj : j < R'.n) :
    backId sel R.n j < (Rb R R' sel).n ∧ (Rb R R' sel).ν (backId sel R.n j) = R'.ν j := by
  rcases Nat.lt_or_ge j sel.length with h | h
  · have hs : sel[j]? = some sel[j] := List.getElem?_eq_getElem h
    have hlt := hC.live_n (hlive _ (List.mem_of_getElem? hs))
    rw [backId_sel hs]
    exact ⟨Nat.lt_of_lt_of_le hlt (Nat.le_add_right _ _), by rw [Rb_old hlt, hf.ν j (by simpa [hml] using h), Rc_ν hs]⟩
  · rw [backId_new h]
    have hk := hf.kn
    simp only [List.length_map, hml] at hk
    refine ⟨by simp only [Rb]; omega, ?_⟩
    simp only [Rb]
    rw [if_neg (by omega), show R.n + (j - sel.length) - R.n + sel.length = j by omega]
theorem Rb_rd (hf : ∀ b, R'.I b ↔ (Rc w R sel lent).I b) {al : Bool} (hal : (lent && al) = false) {b : Nat} (hb : R'.rd al b) : (Rb R R' sel).rd al b := by
  rcases hb with hb | ⟨e, hb⟩
  · exact .inl (.inr hb)
  · subst e
    have hl : lent = false := by cases lent <;> simp_all
    rcases (hf b).1 hb with h | h | ⟨h, _⟩
    · exact .inr ⟨rfl, h⟩
    · exact .inl (.inl h)
    · rw [hl] at h; cases h
section
variable (hC : Conc w0 R0 M0 s R a w) (hlive : ∀ id, id ∈ sel → live s.mem id) {m : List Blk} (hml : m.length = sel.length) {mem' : List (Option Blk)} (hf : Fr w (Rc w R sel lent) (m.map some) w' R' mem')
include hC hlive hml hf
theorem backP_rep {id off : Nat} {u : Value} (h : RepP R' id off u) : RepP (Rb R R' sel) (backId sel R.n id) off u := by
  obtain ⟨h1, h2⟩ := Rb_back hC hlive hml hf h.1
  exact ⟨h1, by rw [h2]; exact h.2⟩
theorem backS_rep {v : SV} {u : Value} (h : RepS w' R' v u) : RepS w' (Rb R R' sel) (backS lent sel R.n v) u := by
  cases v with
  | lst al ks ar =>
    simp only [backS]
    split
    · trivial
    · rename_i hal
      exact RepC.keep (fun _ _ => rfl) (fun b hb => Rb_rd hf.i (by simpa using hal) hb) (show RepC w' (R'.rd al) _ _ u from h)
  | own id =>
    obtain ⟨h1, h2⟩ := Rb_back hC hlive hml hf h.1
    exact ⟨h1, by rw [h2]; exact h.2⟩
  | ptr id off => exact backP_rep hC hlive hml hf h
  | elt id sz i f =>
    obtain ⟨h1, h2⟩ := Rb_back hC hlive hml hf h.1
    exact ⟨h1, by rw [h2]; exact h.2⟩
  | lel al ks ar i f =>
    simp only [backS]
    split
    · trivial
    · rename_i hal
      obtain ⟨ad, cap, hc, hi, hu⟩ := h
      exact ⟨ad, cap, RepC.keep (fun _ _ => rfl) (fun b hb => Rb_rd hf.i (by simpa using hal) hb) hc, hi, hu⟩
  | fn f caps =>
    obtain ⟨cvs, hu, hs, hp⟩ := h
    refine ⟨cvs, hu, by rw [backCaps_len]; exact hs, fun j p hp' => ?_⟩
    rw [backCaps_get] at hp'
    simp only [Option.map_eq_some_iff] at hp'
    obtain ⟨q, hq, rfl⟩ := hp'
    exact backP_rep hC hlive hml hf (hp j q hq)
  | map id =>
    obtain ⟨h1, h2⟩ := Rb_back hC hlive hml hf h.1
    exact ⟨h1, by rw [h2]; exact h.2⟩
  | yld id => trivial
  | _ => exact h
theorem backL_rep {l : List SV} {cs : Array Value} (h : RepL w' R' l cs) : RepL w' (Rb R R' sel) (backSs lent sel R.n l) cs := by
  refine ⟨by rw [backSs_len]; exact h.1, fun j v hv => ?_⟩
  rw [backSs_get] at hv
  simp only [Option.map_eq_some_iff] at hv
  obtain ⟨x, hx, rfl⟩ := hv
  exact backS_rep hC hlive hml hf (h.2 j x hx)
theorem backX_rep {x : XV} {u : Value} (h : RepX w' R' x u) : RepX w' (Rb R R' sel) (backX lent sel R.n x) u := by
  cases x with
  | one v => exact backS_rep hC hlive hml hf h
  | agg l => obtain ⟨cs, hu, hr⟩ := h; exact ⟨cs, hu, backL_rep hC hlive hml hf hr⟩
theorem backA_rep {x : AV} {u : Value} (h : RepA w' R' x u) : RepA w' (Rb R R' sel) (backA lent sel R.n x) u := by
  cases x with
  | x x => exact backX_rep hC hlive hml hf h
  | tup l =>
    obtain ⟨vs, hu, hs, hr⟩ := h
    refine ⟨vs, hu, by rw [backXs_len]; exact hs, fun j v hv => ?_⟩
    rw [backXs_get] at hv
    simp only [Option.map_eq_some_iff] at hv
    obtain ⟨x, hx, rfl⟩ := hv
    exact backX_rep hC hlive hml hf (hr j x hx)
theorem backB_rep {j : Nat} (hj : j < R'.n) {b b' : Blk} (hb : backB lent sel R.n (some b) = some b') (h : RepB w' R' j b) : RepB w' (Rb R R' sel) (backId sel R.n j) b' := by
  obtain ⟨h1, h2⟩ := Rb_back hC hlive hml hf hj
  cases b with
  | box t cs =>
    simp only [backB, Option.some.injEq] at hb
    subst hb
    obtain ⟨g, vals, hv, hh, hl⟩ := h
    exact ⟨g, vals, by rw [h2]; exact hv, hh, backL_rep hC hlive hml hf hl⟩
  | row e al ks ar =>
    simp only [backB] at hb
    split at hb
    · cases hb
    · rename_i hal
      cases hb
      obtain ⟨xs, ho, hl, hc⟩ := h
      refine ⟨xs, by rw [h2]; exact ho, hl, fun i r f c k g1 g2 g3 => ?_⟩
      obtain ⟨v, hv, hr⟩ := hc i r f c k g1 g2 g3
      exact ⟨v, hv, hr.keep (fun _ _ => rfl) fun b hb => Rb_rd hf.i (by simpa using hal) hb⟩
  | loop ps as b0 env p => simp [backB] at hb
end
/-- The state behind a call. -/
theorem behind_ok (hC : Conc w0 R0 M0 s R a w) (hlive : ∀ id, id ∈ sel → live s.mem id) (hd : distinctB sel = true) {m : List Blk} (hml : m.length = sel.length) {m' : List (Option Blk)} (hf : Fr w (Rc w R sel lent) (m.map some) w' R' m') :
    Conc w0 R0 M0 ⟨s.k, s.env, memR s.mem sel (backBs lent sel R.n m')⟩ (Rb R R' sel) a w' := by
  have hn : R.n = s.mem.length := hC.fr.ok.n
  have hn' : R'.n = m'.length := hf.ok.n
  have hk : sel.length ≤ R'.n := by have := hf.kn; simpa [hml] using this
  have hblo : ∀ b, blkOf (Rc w R sel lent) (m.map some) b → ∃ id, id ∈ sel ∧ Go.Sx.hblk (R.ν id) = some b := fun b => by
    rintro ⟨j, hj, hbj⟩
    have hj := live_lt hj
    simp only [List.length_map, hml] at hj
    have hs : sel[j]? = some sel[j] := List.getElem?_eq_getElem hj
    rw [Rc_ν hs] at hbj
    exact ⟨_, List.mem_of_getElem? hs, hbj⟩
  have hbl : sel.length ≤ (backBs lent sel R.n m').length := by rw [backBs_len, ← hn']; exact hk
  have hslt : ∀ id ∈ sel, id < s.mem.length := fun id hid => live_lt (hlive id hid)
  obtain ⟨g1, g2, g3⟩ := memR_get sel (backBs lent sel R.n m') s.mem hbl hd hslt
  have hlen := memR_len sel (backBs lent sel R.n m') s.mem hbl
  rw [backBs_len, ← hn', ← hn] at hlen
  -- blocks that were not handed on are as they were
  have hbk : ∀ b, b < w.heap.size → (∀ id, id ∈ sel → hblk (R.ν id) ≠ some b) → w'.heap[b]? = w.heap[b]? := fun b hb hns => hf.block b hb (fun hbo => by
    obtain ⟨id, h1, h2⟩ := hblo b hbo
    exact hns id h1 h2)
  have hij : ∀ b, R.I b ∨ R.J b → ∀ id, id ∈ sel → hblk (R.ν id) ≠ some b := fun b hb id hid e => by
    have := hC.fr.ok.ij id b (hlive id hid) e
    exact hb.elim this.1 this.2
  have hext : Ext w R w' (Rb R R' sel) := ⟨Nat.le_add_right _ _, fun id hid => Rb_old hid, fun _ h => h, fun _ h => .inl h, fun b hb => hbk b (hC.fr.ok.lt b hb) (hij b hb)⟩
  -- an id of the new state: an old one that was not handed on, or one of the callee's
  have hcase : ∀ (i : Nat) (b : Blk), (memR s.mem sel (backBs lent sel R.n m'))[i]? = some (some b) → (i ∉ sel ∧ i < R.n ∧ s.mem[i]? = some (some b)) ∨ ∃ j b0, j < R'.n ∧ i = backId sel R.n j ∧ m'[j]? = some (some b0) ∧ backB lent sel R.n (some b0) = some b := fun i b hb => by
    have key : ∀ j, j < R'.n → (backBs lent sel R.n m')[j]? = some (some b) → ∃ b0, m'[j]? = some (some b0) ∧ backB lent sel R.n (some b0) = some b := fun j hj h => by
      rw [backBs_get] at h
      simp only [Option.map_eq_some_iff] at h
      obtain ⟨x, hx, hxb⟩ := h
      cases x with
      | none => cases hxb
      | some b0 => exact ⟨b0, hx, hxb⟩
    by_cases his : i ∈ sel
    · obtain ⟨j, hj⟩ := List.getElem?_of_mem his
      rw [g2 j i hj] at hb
      obtain ⟨b0, h1, h2⟩ := key j (by have := sel_lt hj; omega) hb
      exact .inr ⟨j, b0, by have := sel_lt hj; omega, (backId_sel hj).symm, h1, h2⟩
    · rcases Nat.lt_or_ge i R.n with h | h
      · rw [g1 i (by omega) his] at hb
        exact .inl ⟨his, h, hb⟩
      · have hil : i < R.n + (R'.n - sel.length) := by rw [← hlen]; exact (List.getElem?_eq_some_iff.1 hb).1
        have hj : sel.length ≤ i - R.n + sel.length := by omega
        have := g3 (i - R.n + sel.length) hj
        rw [show s.mem.length + (i - R.n + sel.length - sel.length) = i by omega, hb] at this
        obtain ⟨b0, h1, h2⟩ := key _ (by omega) this.symm
        exact .inr ⟨_, b0, by omega, by rw [backId_new hj]; omega, h1, h2⟩
  have hcl : ∀ i, live (memR s.mem sel (backBs lent sel R.n m')) i → (i ∉ sel ∧ live s.mem i ∧ (Rb R R' sel).ν i = R.ν i) ∨ ∃ j, live m' j ∧ i = backId sel R.n j ∧ (Rb R R' sel).ν i = R'.ν j := fun i ⟨b, hb⟩ => by
    rcases hcase i b hb with ⟨h1, h2, h3⟩ | ⟨j, b0, h1, h2, h3, _⟩
    · exact .inl ⟨h1, ⟨b, h3⟩, Rb_old h2⟩
    · exact .inr ⟨j, ⟨b0, h3⟩, h2, by rw [h2]; exact (Rb_back hC hlive hml hf h1).2⟩
  -- where the callee's blocks lie
  have hcown : ∀ j g, live m' j → hblk (R'.ν j) = some g → w.heap.size ≤ g ∨ ∃ id, id ∈ sel ∧ hblk (R.ν id) = some g := fun j g hj hg => by
    exact (hf.own j g hj hg).imp id (hblo g)
  have hoblk : ∀ i g, i ∉ sel → live s.mem i → hblk (R.ν i) = some g → g < w.heap.size ∧ ∀ id, id ∈ sel → hblk (R.ν id) ≠ some g := fun i g hi hl hg => by
    obtain ⟨b, hb⟩ := hl
    refine ⟨(hC.fr.ok.rep i b hb).blk_lt hg, fun id hid e => ?_⟩
    have := hC.fr.ok.sep i id g ⟨b, hb⟩ (hlive id hid) hg e
    subst this; exact hi hid
  have hmix : ∀ i g, i ∉ sel → live s.mem i → hblk (R.ν i) = some g → ∀ j, live m' j → hblk (R'.ν j) ≠ some g := fun i g hi hl hg j hj e => by
    obtain ⟨h1, h2⟩ := hoblk i g hi hl hg
    rcases hcown j g hj e with h | ⟨id, hid, hb⟩
    · omega
    · exact h2 id hid hb
  have hJ' : ∀ b, R'.J b → w.heap.size ≤ b ∨ ∃ id, id ∈ sel ∧ hblk (R.ν id) = some b := fun b hb => by
    rcases hf.j b hb with h | h | h
    · exact h.elim
    · exact .inl h
    · exact .inr (hblo b h)
  refine ⟨⟨hf.os.trans hC.fr.os, hf.tape.trans hC.fr.tape, hf.output.trans hC.fr.output, Nat.le_trans hC.fr.size hf.size, fun b hb hnb => ?_, ⟨hlen.symm, fun i b hb => ?_, fun i j g hi hj hbi hbj => ?_, fun i g hi hbi => ?_, fun b hb => ?_, fun i hi => ?_⟩, Nat.le_trans hC.fr.kn (Nat.le_add_right _ _), fun id hid => ?_, hC.fr.i, fun b hb => ?_, fun i g hi hbi => ?_⟩, hC.len, hC.ext_env hext, hC.defers.ext hext, hC.hk⟩
  · refine (hbk b (Nat.lt_of_lt_of_le hb hC.fr.size) fun id hid e => ?_).trans (hC.fr.block b hb hnb)
    rcases hC.fr.own id b (hlive id hid) e with h | h
    · omega
    · exact hnb h
  · rcases hcase i b hb with ⟨h1, h2, h3⟩ | ⟨j, b0, h1, h2, h3, h4⟩
    · refine RepB.ext hext h2 (fun g hg => ?_) (hC.fr.ok.rep i b h3)
      obtain ⟨h5, h6⟩ := hoblk i g h1 ⟨b, h3⟩ hg
      exact hbk g h5 h6
    · rw [h2]
      exact backB_rep hC hlive hml hf h1 h4 (hf.ok.rep j b0 h3)
  · rcases hcl i hi with ⟨h1, h2, h3⟩ | ⟨k, h1, h2, h3⟩ <;> rcases hcl j hj with ⟨h4, h5, h6⟩ | ⟨l, h4, h5, h6⟩
    · rw [h3] at hbi; rw [h6] at hbj
      exact hC.fr.ok.sep i j g h2 h5 hbi hbj
    · rw [h3] at hbi; rw [h6] at hbj
      exact (hmix i g h1 h2 hbi l h4 hbj).elim
    · rw [h3] at hbi; rw [h6] at hbj
      exact (hmix j g h4 h5 hbj k h1 hbi).elim
    · rw [h3] at hbi; rw [h6] at hbj
      rw [h2, h5, hf.ok.sep k l g h1 h4 hbi hbj]
  · rcases hcl i hi with ⟨h1, h2, h3⟩ | ⟨k, h1, h2, h3⟩
    · rw [h3] at hbi
      have h4 := hC.fr.ok.ij i g h2 hbi
      refine ⟨h4.1, fun h => h.elim h4.2 fun h => ?_⟩
      obtain ⟨h5, h6⟩ := hoblk i g h1 h2 hbi
      rcases hJ' g h with h | ⟨id, hid, hb⟩
      · omega
      · exact h6 id hid hb
    · rw [h3] at hbi
      have h4 := hf.ok.ij k g h1 hbi
      exact ⟨fun h => h4.1 ((hf.i g).2 (.inl h)), fun h => h.elim (fun h => h4.1 ((hf.i g).2 (.inr (.inl h)))) h4.2⟩
  · rcases hb with h | h | h
    · exact Nat.lt_of_lt_of_le (hC.fr.ok.lt b (.inl h)) hf.size
    · exact Nat.lt_of_lt_of_le (hC.fr.ok.lt b (.inr h)) hf.size
    · exact hf.ok.lt b (.inr h)
  · rcases Nat.lt_or_ge i R.n with h | h
    · rw [Rb_old h]; exact hC.fr.ok.cell i h
    · have hi' : i < R.n + (R'.n - sel.length) := hi
      simp only [Rb]
      rw [if_neg (by omega)]
      exact hf.ok.cell _ (by omega)
  · have hid' : id < M0.length := hid
    rw [Rb_old (Nat.lt_of_lt_of_le hid' hC.fr.kn)]
    exact hC.fr.ν id hid
  · rcases hb with h | h
    · exact hC.fr.j b h
    · rcases hJ' b h with h | ⟨id, hid, hb⟩
      · exact .inr (.inl (Nat.le_trans hC.fr.size h))
      · exact .inr (hC.fr.own id b (hlive id hid) hb)
  · rcases hcl i hi with ⟨h1, h2, h3⟩ | ⟨k, h1, h2, h3⟩
    · rw [h3] at hbi; exact hC.fr.own i g h2 hbi
    · rw [h3] at hbi
      rcases hcown k g h1 hbi with h | ⟨id, hid, hb⟩
      · exact .inl (Nat.le_trans hC.fr.size h)
      · exact hC.fr.own id g (hlive id hid) hb
theorem call_ok {f : FuncId} {args : List AV} {K : AV → St → Prop} (h : CallVC P f args s K) (hC : Conc w0 R0 M0 s R a w) {vs : Array Value} (hs : vs.size = args.length) (hvs : ∀ (j : Nat) (x : AV), args[j]? = some x → RepA w R x (vs.getD j undef)) :
    Invokes P f vs w fun e w' => ∃ v av s' R', e = .returned v ∧ K av s' ∧ RepA w' R' av v ∧ Conc w0 R0 M0 s' R' a w' := by
  obtain ⟨sel, Rs, args', m, ha, hm, hd, hspec, k⟩ := h
  obtain ⟨hml, hmb⟩ := selB_ok _ _ hm
  have hlive : ∀ id, id ∈ sel → live s.mem id := fun id hid => by
    obtain ⟨j, hj⟩ := List.getElem?_of_mem hid
    obtain ⟨b, h1, _⟩ := hmb j id hj
    exact blk_live h1
  obtain ⟨hal, hag⟩ := argsX_ok _ _ ha
  generalize hlent : (lendsA sel args || lendsB s sel sel) = lent at k
  have hl1 : lendsA sel args = true → lent = true := fun h => by rw [← hlent, h]; rfl
  have hl2 : lendsB s sel sel = true → lent = true := fun h => by rw [← hlent, h]; simp
  have hI := hspec w (Rc w R sel lent) vs ⟨by rw [hs, hal], fun j x' hx' => by
    obtain ⟨x, hx, rfl⟩ := hag j x' hx'
    exact argX_rep hC hlive (fun h => hl1 (lendsA_mem hx h)) (hvs j _ hx)⟩ (callee_ok hC hm hd hl2)
  have fin : ∀ (e : Ending) (w' : World), (∃ v r m' R', e = .returned v ∧ Rs r m' ∧ Fr w (Rc w R sel lent) (m.map some) w' R' m' ∧ RepA w' R' r v) → ∃ v av s' R', e = .returned v ∧ K av s' ∧ RepA w' R' av v ∧ Conc w0 R0 M0 s' R' a w' := by
    rintro e w' ⟨v, r, m', R', he, hr, hf, hrep⟩
    have hk := k r m' hr
    obtain ⟨k0, env, mem⟩ := s
    simp only [afterCall, fA_eq, lenL_eq] at hk
    have hk2 := (memSel_eq _ _ _ _ hk).2
    have hn : R.n = mem.length := hC.fr.ok.n
    rw [← hn] at hk2
    exact ⟨v, _, _, _, he, hk2, backA_rep hC hlive hml hf hrep, behind_ok hC hlive hd hml hf⟩
  rcases hI with ⟨h1, h2⟩ | ⟨v, w', h1, h2⟩
  · exact .inl ⟨h1, h2.mono fin⟩
  · exact .inr ⟨v, w', h1, fin _ _ h2⟩
end
end Go.Sx

/- Sx, part R: operations and regions under the fence of no bounds, in a function's frame or in a round's. -/
namespace Go.Sx
open Go Go.RowKit
section
variable {P : Program} {ops : Array Oper} {Q : Exit → Act → World → Prop} {ro : Option Nat}

theorem callsIn_fo {n : Nat} {f : FuncId} {args : Array Value} {w : World} {K : Ending → World → Prop} : CallsIn (Fo ro) n P f args w K ↔ Calls P f args w K :=
  (callsIn_wide (n := n) (P := P) (f := f) (args := args) (w := w) (R := K))
theorem rowsIn_fo {n : Nat} {row : String} {args : Array Value} {w : World} {K : Value → World → Prop} (h : Rows P row args w K) : RowsIn (Fo ro) n P row args w K :=
  fun c cs _ => let ⟨v, w', r, s⟩ := h c cs; ⟨v, w', r, stepsIn_wide.2 s⟩
theorem wpIn_of_wp {o : Oper} {a : Act} {w : World} {next : Act → World → Prop} (hd : ∀ c, o.op ≠ .defer c) (h : o.wp P a w next Q) : o.wpIn (Fo ro) 0 P a w next Q := by
  refine ⟨fun _ _ => trivial, ?_⟩
  rw [Oper.semAt_eq _ _ _ hd]
  unfold Oper.wp at h
  generalize (execOp a.eval o).run P w = r at *
  cases r with
  | ok x w' =>
    cases x <;> simp only [Oper.upon, Oper.uponIn] at h ⊢ <;> first
      | exact h
      | exact ⟨fun hh => (by cases hh), callsIn_fo.2 h⟩
      | exact ⟨fun hh => (by cases hh), rowsIn_fo h⟩
  | halt x w' => cases x <;> simp only [Oper.upon, Oper.uponIn] at h ⊢ <;> exact h
/-- Operations, one after another. -/
def wpL (ro : Option Nat) (P : Program) (ops : Array Oper) (Q : Exit → Act → World → Prop) : List Oper → Act → World → Prop
  | [], a, w => Q .normal a w
  | o :: l, a, w => if Region.wanted o (yielded ops a.tmps) = true then o.wpIn (Fo ro) 0 P a w (wpL ro P ops Q l) Q else wpL ro P ops Q l (a.put o.dst undef) w
theorem wpOpsIn_of_wpL : ∀ (l : List Oper) (k : Nat) (a : Act) (w : World), (∀ j, j < l.length → ops[k + j]? = l[j]?) → wpL ro P ops Q l a w → wpOpsIn (Fo ro) 0 P ops Q (List.range' k l.length) a w
  | [], _, _, _, _, h => h
  | o :: l, k, a, w, hl, h => by
    have h0 : ops[k]? = some o := by simpa using hl 0 (by simp)
    have hl' : ∀ j, j < l.length → ops[k + 1 + j]? = l[j]? := fun j hj => by have := hl (j + 1) (by simp; omega); simpa [Nat.add_assoc, Nat.add_comm 1 j] using this
    simp only [List.length_cons, List.range'_succ, wpOpsIn, h0]
    unfold wpL at h
    split
    · rename_i hw; rw [if_pos hw] at h
      exact Oper.wpIn_mono (fun a' w' h' => wpOpsIn_of_wpL l (k + 1) a' w' hl' h') h
    · rename_i hw; rw [if_neg hw] at h
      exact ⟨fun _ _ => trivial, wpOpsIn_of_wpL l (k + 1) _ w hl' h⟩
theorem wpIn_region_L {id : Nat} {a : Act} {w : World} (h : wpL ro P ops Q ops.toList a w) : (Code.region id ops false).wpIn (Fo ro) 0 P Q a w := by
  refine wpIn_region ?_
  rw [List.range_eq_range']
  have := wpOpsIn_of_wpL ops.toList 0 a w (fun j _ => by simp) h
  simpa using this
theorem wpOpIn_of_wpOp {i : Nat} {K : Act → World → Prop} {a : Act} {w : World} (hn : ¬ LetsOut Q) (hd : ∀ o, ops[i]? = some o → ∀ c, o.op ≠ .defer c) (h : wpOp P ops Q i K a w) : wpOpIn (Fo ro) 0 P ops Q i K a w := by
  unfold wpOp at h
  unfold wpOpIn
  cases ho : ops[i]? with
  | none => rw [ho] at h; exact h
  | some o =>
    rw [ho] at h
    simp only at h ⊢
    split
    · rename_i hw; rw [if_pos hw] at h; exact wpIn_of_wp (hd o ho) (h.resolve_right fun h => hn h.2)
    · rename_i hw; rw [if_neg hw] at h; exact ⟨fun _ _ => trivial, h⟩
theorem wpAnyIn_of_wpAny {md : Region.Mode} (hn : ¬ LetsOut Q) (hd : ∀ (i : Nat) (o : Oper), ops[i]? = some o → ∀ c, o.op ≠ .defer c) : ∀ (f : Nat) (listed : Array Bool) (a : Act) (w : World), wpAny P md ops Q f listed a w → wpAnyIn (Fo ro) 0 P md ops Q f listed a w
  | 0, _, _, _, h => h
  | f + 1, _, _, _, h => ⟨h.1, fun i hi => wpOpIn_mono (fun a' w' h' => wpAnyIn_of_wpAny hn hd f _ a' w' h') (wpOpIn_of_wpOp hn (hd i) (h.2 i hi))⟩
theorem wpAnyIn_of_head {md : Region.Mode} {w : World} {n g : Nat} {L : Array Bool → Act → Prop} (hno : ¬ LetsOut Q) (hd : ∀ (i : Nat) (o : Oper), i < n → ops[i]? = some o → ∀ c, o.op ≠ .defer c) (hL : ∀ listed a, L listed a → wpAnyIn (Fo ro) 0 P md ops Q g listed a w) :
    ∀ (f : Nat) (listed : Array Bool) (a : Act), wpAnyL P md ops w n L f listed a → wpAnyIn (Fo ro) 0 P md ops Q (f + g) listed a w
  | 0, listed, a, h => by rw [Nat.zero_add]; exact hL _ _ h
  | f + 1, listed, a, h => by
    rw [show f + 1 + g = (f + g) + 1 by omega]
    exact ⟨fun h0 => absurd h0 h.1, fun i hi => wpOpIn_of_wpOp hno (fun o => hd i o (h.2 i hi).1) (wpOp_of_stOp (fun a' h' => wpAnyIn_of_head hno hd hL f _ a' h') (h.2 i hi).2)⟩
theorem wpAnyIn_of_seq {md : Region.Mode} : ∀ (l : List Oper) (k : Nat) (listed : Array Bool) (a : Act) (w : World), (∀ j, l[j]? = ops[k + j]?) →
    Region.seqB md ops l.length k listed = true → wpL ro P ops Q l a w → wpAnyIn (Fo ro) 0 P md ops Q l.length listed a w
  | [], _, _, _, _, _, hB, h => ⟨by simpa [Region.seqB] using hB, h⟩
  | o :: l, k, listed, a, w, hl, hB, h => by
    have h0 : ops[k]? = some o := by simpa using (hl 0).symm
    simp only [List.length_cons, Region.seqB, Bool.and_eq_true, decide_eq_true_eq] at hB
    refine ⟨fun h1 => (by rw [hB.1] at h1; cases h1), fun i hi => ?_⟩
    rw [hB.1] at hi
    have hik : i = k := by simpa using hi
    subst hik
    have hw : wpOpIn (Fo ro) 0 P ops Q i (wpL ro P ops Q l) a w := by
      unfold wpOpIn
      simp only [h0]
      unfold wpL at h
      split
      · rename_i hw; rw [if_pos hw] at h; exact h
      · rename_i hw; rw [if_neg hw] at h; exact ⟨fun _ _ => trivial, h⟩
    exact wpOpIn_mono (fun a' w' h' => wpAnyIn_of_seq l (i + 1) _ a' w' (fun j => by have := hl (j + 1); simpa [Nat.add_assoc, Nat.add_comm 1 j] using this) hB.2 h') hw
/-- A region that draws, all of it only reading. -/
theorem no_out : ¬ LetsOut (fun (e : Exit) (a : Act) (w : World) => e = .normal ∧ Q .normal a w) := fun ⟨_, _, h, _⟩ => by cases h
theorem wpIn_region_Q {id : Nat} {a : Act} {w : World} {C : World → Prop} (hm : P.follows .mixedOrders = true) (hB : Region.lexB .any ops = true) (hd : ∀ o ∈ ops.toList, ∀ c, o.op ≠ .defer c) (hC : C { w with drawn := w.drawn + 1 })
    (h : wpQuiet P ops C (fun a' => ∀ w', C w' → Q .normal a' w') ops.toList a) : (Code.region id ops true).wpIn (Fo ro) 0 P Q a w := by
  simp only [Region.lexB, Bool.and_eq_true] at hB
  have h1 := wpAnyQ_lex (C := C) (md := .any) hB.1 ops.toList 0 (Array.replicate ops.size false) a (by simp) (by simpa using hB.2) h
  have h2 := wpAny_of_quiet (Q := fun a' => ∀ w', C w' → Q .normal a' w') (Q' := fun e a w => e = .normal ∧ Q .normal a w) (fun _ w' hw' h => ⟨rfl, h w' hw'⟩) _ _ _ _ hC h1
  refine wpIn_mono (Q := fun e a w => e = .normal ∧ Q .normal a w) (wpIn_region_any hm ?_) (fun e a w h => by obtain ⟨rfl, h⟩ := h; exact h)
  have h3 := wpAnyIn_of_wpAny (ro := ro) no_out (fun i o hi => hd o (by simpa using Array.mem_of_getElem? hi)) _ _ _ _ h2
  simpa using h3
/-- A region that draws, whose first operations only read and whose others follow one another. -/
theorem wpIn_region_T {id : Nat} {a : Act} {w : World} {l : List Oper} (n : Nat) (hm : P.follows .mixedOrders = true) (hB : Region.lexTailB .any l.toArray n = true) (hd : ∀ o ∈ l.take n, ∀ c, o.op ≠ .defer c)
    (h : wpStill P l.toArray { w with drawn := w.drawn + 1 } (fun a' => wpL ro P l.toArray (fun e a w => e = .normal ∧ Q .normal a w) (l.drop n) a' { w with drawn := w.drawn + 1 }) (l.take n) a) : (Code.region id l.toArray true).wpIn (Fo ro) 0 P Q a w := by
  simp only [Region.lexTailB, Bool.and_eq_true, decide_eq_true_eq] at hB
  obtain ⟨⟨⟨⟨hsel, hn⟩, hs⟩, hc⟩, hlex⟩ := hB
  have hn' : n < l.length := by simpa using hn
  have htl : (l.take n).length = n := by simp; omega
  have hdl : (l.drop n).length = l.toArray.size - n := by simp
  have inv0 : HeadInv .any l.toArray n (Array.replicate l.toArray.size false) :=
    ⟨by simp, fun j oj _ hl => (by rw [getD_replicate_false] at hl; cases hl), fun t _ ht => getD_in (by simpa using ht) (getD_replicate_false _ _)⟩
  have H := wpAnyL_lex (md := .any) (g := l.toArray.size - n) hsel hs hc hn (l.take n) 0 _ a (fun j hj => by
    have hj' : j < n := by rw [htl] at hj; exact hj
    simp [hj']) (by simpa using htl) inv0 (by rw [htl]; exact hlex) h
  refine wpIn_mono (Q := fun e a w => e = .normal ∧ Q .normal a w) (wpIn_region_any hm ?_) (fun e a w h => by obtain ⟨rfl, h⟩ := h; exact h)
  have := wpAnyIn_of_head (ro := ro) (Q := fun e a w => e = .normal ∧ Q .normal a w) no_out (g := l.toArray.size - n) (fun i o hi ho => hd o (by
    have ho' : l[i]? = some o := by simpa using ho
    exact List.mem_iff_getElem?.2 ⟨i, by rw [List.getElem?_take, if_pos hi]; exact ho'⟩)) (fun listed a' hL => by
    have := wpAnyIn_of_seq (ro := ro) (md := .any) (Q := fun e a w => e = .normal ∧ Q .normal a w) (l.drop n) n listed a' { w with drawn := w.drawn + 1 } (fun j => by simp [List.getElem?_drop]) (by rw [hdl]; exact hL.1) hL.2
    rwa [hdl] at this) _ _ _ H
  rw [htl, show n + (l.toArray.size - n) = l.toArray.size by omega] at this
  exact this
end
end Go.Sx

/- Sx, part O: operations, regions. -/
namespace Go.Sx
open Go Go.RowKit
section
variable {P : Program} {w w0 w' : World} {R R0 R' : Rp} {M0 : List (Option Blk)} {s : St} {a : Act}

theorem Conc.same (h : Conc w0 R0 M0 s R a w) (hb : Below w.heap.size w w') : Conc w0 R0 M0 s R a w' := by
  have hg : w.grownBy w' none := ⟨hb.os, hb.tape, hb.output, hb.size, fun k hk _ => hb.block k hk⟩
  have hext := h.grown_ext0 hg (fun g e => by cases e)
  have hf := h.fr
  refine ⟨⟨hg.os.trans hf.os, hg.tape.trans hf.tape, hg.output.trans hf.output, Nat.le_trans hf.size hg.size, h.frBlock hg (fun g e => by cases e), ⟨hf.ok.n, fun id b hid => ?_, hf.ok.sep, hf.ok.ij, fun b hb' => Nat.lt_of_lt_of_le (hf.ok.lt b hb') hg.size, hf.ok.cell⟩, hf.kn, hf.ν, hf.i, hf.j, hf.own⟩, h.len, h.ext_env hext, h.defers.ext hext, h.hk⟩
  exact RepB.ext hext (h.live_n ⟨b, hid⟩) (fun g hgb => hb.block g ((hf.ok.rep id b hid).blk_lt hgb)) (hf.ok.rep id b hid)
/-- What is known of a slot is told more exactly. -/
theorem Conc.refine {K : St → Prop} (h : Conc w0 R0 M0 s R a w) {t : Option Nat} {v : AV} (hv : ∀ d, t = some d → RepA w R v (a.tmps.getD d undef)) (hk : s.put t v K) : ∃ s', K s' ∧ Conc w0 R0 M0 s' R a w := by
  obtain ⟨k, env, mem⟩ := s
  cases t with
  | none => exact ⟨_, hk, h⟩
  | some d =>
    simp only [St.put, fA_eq, setL_eq] at hk
    refine ⟨_, hk, h.fr, by simpa using h.len, fun i x hx => ?_, h.defers, h.hk⟩
    simp only [List.getElem?_set] at hx
    split at hx
    · rename_i hd
      subst hd
      split at hx
      · cases hx; exact hv d rfl
      · cases hx
    · exact h.env i x hx
theorem splitB_ok {v : AV} {t : Option Nat} {K : Bool → St → Prop} (h : splitB v t s K) (hC : Conc w0 R0 M0 s R a w) {u : Value} (hv : RepA w R v u) (ht : ∀ d, t = some d → a.tmps.getD d undef = u) : ∃ b s', u = .bool b ∧ K b s' ∧ Conc w0 R0 M0 s' R a w := by
  unfold splitB at h
  split at h
  · exact ⟨true, s, hv, h, hC⟩
  · exact ⟨false, s, hv, h, hC⟩
  · rename_i b
    have hu : u = .bool b := hv
    subst hu
    cases hb : b with
    | true =>
      obtain ⟨s', h1, h2⟩ := hC.refine (fun d hd => by rw [ht d hd, hb]; rfl) (h.yes hb)
      exact ⟨true, s', rfl, h1, h2⟩
    | false =>
      obtain ⟨s', h1, h2⟩ := hC.refine (fun d hd => by rw [ht d hd, hb]; rfl) (h.no (by rw [hb]; simp))
      exact ⟨false, s', rfl, h1, h2⟩
  · rename_i p d
    have hu : u = .bool (@decide p d) := hv
    by_cases hp : p
    · have hd : @decide p d = true := by simp [hp]
      obtain ⟨s', h1, h2⟩ := hC.refine (fun d' hd' => by rw [ht d' hd', hu, hd]; rfl) (h.yes hp)
      exact ⟨true, s', by rw [hu, hd], h1, h2⟩
    · have hd : @decide p d = false := by simp [hp]
      obtain ⟨s', h1, h2⟩ := hC.refine (fun d' hd' => by rw [ht d' hd', hu, hd]; rfl) (h.no hp)
      exact ⟨false, s', by rw [hu, hd], h1, h2⟩
  · cases h
theorem wantedA_ok {ops : Array Oper} {o : Oper} {run skip : St → Prop} (h : wantedA ops.toList o s run skip) (hC : Conc w0 R0 M0 s R a w) :
    ∃ s', Conc w0 R0 M0 s' R a w ∧ ((Region.wanted o (yielded ops a.tmps) = true ∧ run s') ∨ (Region.wanted o (yielded ops a.tmps) = false ∧ skip s')) := by
  unfold wantedA at h
  split at h
  · rename_i hg
    exact ⟨s, hC, .inl ⟨by simp [Region.wanted, hg], h⟩⟩
  · rename_i j want hg
    split at h
    · rename_i oj hj
      split at h
      · rename_i t ht
        obtain ⟨b, s', hb, hk, hC'⟩ := splitB_ok h hC (hC.get t) (fun d hd => by cases hd; rfl)
        have hy : yielded ops a.tmps j = some b := by
          rw [getL_eq] at hj
          have hj' : ops[j]? = some oj := by simpa using hj
          have hget : a.tmps[t]? = some (.bool b) := by
            rw [Array.getD_eq_getD_getElem?] at hb
            cases hx : a.tmps[t]? with
            | none => rw [hx] at hb; simp [undef] at hb
            | some x => rw [hx] at hb; simp at hb; rw [hb]
          simp [yielded, hj', ht, hget]
        refine ⟨s', hC', ?_⟩
        cases b <;> cases want <;> first | exact .inl ⟨by simp [Region.wanted, hg, hy], hk⟩ | exact .inr ⟨by simp [Region.wanted, hg, hy], hk⟩
      · cases h
    · cases h
theorem capsX_get : ∀ (l : List (Nat × Nat)) (j : Nat), (capsX l)[j]? = (l[j]?).map fun p => .x (.one (.ptr p.1 p.2))
  | [], j => by simp [capsX]
  | (i, o) :: l, 0 => by simp [capsX]
  | (i, o) :: l, j + 1 => by simp [capsX, capsX_get l j]
theorem capsX_len : ∀ (l : List (Nat × Nat)), (capsX l).length = l.length
  | [] => rfl
  | (i, o) :: l => by simp [capsX, capsX_len l]
/-- What a call of a function value comes to. -/
theorem run_callee (hC : Conc w0 R0 M0 s R a w) {f : FuncId} {caps : List AV} {x : Operand} (hx : calleeOf (opnd s x) = some (f, caps)) {args : Array Operand} {ats : Array TypeId} {ty : TypeId} {d : Option Tmp} {pos : String} {af : Array Edge} {gd : Option (Nat × Bool)} :
    ∃ vs : Array Value, vs.size = (mapOp s args.toList ++ caps).length ∧ (∀ (j : Nat) (y : AV), (mapOp s args.toList ++ caps)[j]? = some y → RepA w R y (vs.getD j undef)) ∧
      ∀ w', (execOp a.eval ⟨d, .call ⟨.value x, args, ats⟩, ty, pos, af, gd⟩).run P w' = (callFunc f vs).run P w' := by
  unfold calleeOf at hx
  split at hx
  · rename_i f' cl hxo
    cases hx
    have hr := hC.eval x
    rw [hxo] at hr
    obtain ⟨cvs, hv, hs, hp⟩ := hr
    refine ⟨args.map a.eval ++ cvs, by simp [mapOp_len, capsX_len, hs], fun j y hy => ?_, fun w' => ?_⟩
    · rw [List.getElem?_append, mapOp_len] at hy
      split at hy
      · rename_i hj
        obtain ⟨v, hv', hr'⟩ := mapOp_rep hC _ _ _ hy
        simp only [List.getElem?_map, Array.getElem?_toList] at hv'
        rw [Array.getD_eq_getD_getElem?, Array.getElem?_append, if_pos (by simpa using hj)]
        simp only [Array.getElem?_map, hv', Option.getD_some]
        exact hr'
      · rename_i hj
        rw [capsX_get] at hy
        simp only [Option.map_eq_some_iff] at hy
        obtain ⟨p, hp', rfl⟩ := hy
        have := hp _ p hp'
        rw [Array.getD_eq_getD_getElem?, Array.getElem?_append, if_neg (by simpa using hj)]
        rw [Array.getD_eq_getD_getElem?] at this
        have this' : RepP R p.1 p.2 (cvs[j - args.size]?.getD undef) := this
        show RepP R p.1 p.2 _
        simpa using this'
    · simp [execOp, resolve, hv, Deferred.ofValue, invoke]
  · cases hx
/-- Behind what was done with all objects at hand. -/
theorem Conc.after (hC : Conc w0 R0 M0 s R a w) {m' : List (Option Blk)} (hf : Fr w R s.mem w' R' m') : Conc w0 R0 M0 ⟨s.k, s.env, m'⟩ ⟨R'.n, R'.ν, R'.I, fun b => R'.J b ∨ R.J b⟩ a w' := by
  have hn : R.n = s.mem.length := hC.fr.ok.n
  have hkn := hf.kn
  have hIJ : ∀ b, R.I b ∨ R.J b → ¬ blkOf R s.mem b := fun b hb ⟨id, hl, he⟩ => hb.elim (hC.fr.ok.ij id b hl he).1 (hC.fr.ok.ij id b hl he).2
  have hext : Ext w R w' ⟨R'.n, R'.ν, R'.I, fun b => R'.J b ∨ R.J b⟩ := ⟨by rw [hn]; exact hkn, fun id hid => hf.ν id (by rw [← hn]; exact hid), fun b hb => (hf.i b).2 hb, fun b hb => .inr hb, fun b hb => hf.block b (hC.fr.ok.lt b hb) (hIJ b hb)⟩
  have hext2 : Ext w' R' w' ⟨R'.n, R'.ν, R'.I, fun b => R'.J b ∨ R.J b⟩ := ⟨Nat.le_refl _, fun _ _ => rfl, fun _ h => h, fun _ h => .inl h, fun _ _ => rfl⟩
  have hown : ∀ g, blkOf R s.mem g → w0.heap.size ≤ g ∨ blkOf R0 M0 g := fun g ⟨id, hl, he⟩ => hC.fr.own id g hl he
  refine ⟨⟨hf.os.trans hC.fr.os, hf.tape.trans hC.fr.tape, hf.output.trans hC.fr.output, Nat.le_trans hC.fr.size hf.size, fun b hb hnb => ?_, ⟨hf.ok.n, fun id b hb => ?_, hf.ok.sep, fun id g hl hg => ?_, fun b hb => ?_, hf.ok.cell⟩, Nat.le_trans hC.fr.kn (by rw [hn]; exact hkn), fun id hid => ?_, fun b => (hf.i b).trans (hC.fr.i b), fun b hb => ?_, fun id g hl hg => ?_⟩, hC.len, hC.ext_env hext, hC.defers.ext hext, hC.hk⟩
  · refine (hf.block b (Nat.lt_of_lt_of_le hb hC.fr.size) fun hbo => ?_).trans (hC.fr.block b hb hnb)
    rcases hown b hbo with h | h
    · omega
    · exact hnb h
  · refine RepB.ext hext2 ?_ (fun _ _ => rfl) (hf.ok.rep id b hb)
    rw [hf.ok.n]; exact live_lt ⟨b, hb⟩
  · obtain ⟨h1, h2⟩ := hf.ok.ij id g hl hg
    refine ⟨h1, fun h => h.elim h2 fun hj => ?_⟩
    rcases hf.own id g hl hg with h3 | h3
    · have := hC.fr.ok.lt g (.inr hj); omega
    · exact hIJ g (.inr hj) h3
  · rcases hb with h | h | h
    · exact hf.ok.lt b (.inl h)
    · exact hf.ok.lt b (.inr h)
    · exact Nat.lt_of_lt_of_le (hC.fr.ok.lt b (.inr h)) hf.size
  · exact (hf.ν id (Nat.lt_of_lt_of_le hid (by rw [← hn]; exact hC.fr.kn))).trans (hC.fr.ν id hid)
  · rcases hb with h | h
    · rcases hf.j b h with h | h | h
      · exact hC.fr.j b h
      · exact .inr (.inl (Nat.le_trans hC.fr.size h))
      · exact .inr (hown b h)
    · exact hC.fr.j b h
  · rcases hf.own id g hl hg with h | h
    · exact .inl (Nat.le_trans hC.fr.size h)
    · exact hown g h
theorem xvsOf_ok : ∀ (l : List AV) (r : List XV), xvsOf l = some r → r.length = l.length ∧ ∀ (j : Nat) x, r[j]? = some x → l[j]? = some (.x x)
  | [], r, h => by cases h; exact ⟨rfl, fun j x h => by simp at h⟩
  | .x v :: l, r, h => by
    unfold xvsOf at h
    split at h
    · rename_i r' hr
      cases h
      obtain ⟨h1, h2⟩ := xvsOf_ok l r' hr
      refine ⟨by simp [h1], fun j x hx => ?_⟩
      cases j with
      | zero => simp at hx; subst hx; rfl
      | succ j => simpa using h2 j x (by simpa using hx)
    · cases h
  | .tup _ :: _, r, h => by simp [xvsOf] at h
/-- A call of a yield function. -/
theorem yield_ok {x : Operand} {id : Nat} (hx : opnd s x = .x (.one (.yld id))) {args : Array Operand} {xs : List XV} (hxs : xvsOf (mapOp s args.toList) = some xs) {bk : Blk} (hb : s.blk id = some bk) (hlp : isLoop bk = true)
    {K : AV → St → Prop} (h : YieldVC P id xs s K) (hC : Conc w0 R0 M0 s R a w) {ats : Array TypeId} {ty : TypeId} {d : Option Tmp} {pos : String} {af : Array Edge} {gd : Option (Nat × Bool)} (ro : Option Nat) (Q : Exit → Act → World → Prop) :
    Oper.wpIn (Fo ro) 0 P ⟨d, .call ⟨.value x, args, ats⟩, ty, pos, af, gd⟩ a w (fun a' w' => ∃ v av s' R', a' = a.put d v ∧ K av s' ∧ RepA w' R' av v ∧ Conc w0 R0 M0 s' R' a w') Q := by
  obtain ⟨h⟩ := h
  have hr := hC.eval x
  rw [hx] at hr
  obtain ⟨hid, hv⟩ : id < R.n ∧ a.eval x = R.ν id := hr
  have hrep := hC.fr.ok.rep id bk (blk_eq hb)
  obtain ⟨l, hl⟩ : ∃ l, R.ν id = .func (.yield l) #[] #[] := by
    cases bk with
    | loop ps as b env p => obtain ⟨l, r, hv, _⟩ := hrep; exact ⟨l, hv⟩
    | _ => simp [isLoop] at hlp
  obtain ⟨x1, x2⟩ := xvsOf_ok _ _ hxs
  obtain ⟨r, h1, h2, h3⟩ := h w R (args.map a.eval) l ⟨by simp [x1, mapOp_len], fun j y hy => by
    obtain ⟨v, hv', hr'⟩ := mapOp_rep hC _ _ _ (x2 j y hy)
    simp only [List.getElem?_map, Array.getElem?_toList] at hv'
    rw [Array.getD_eq_getD_getElem?]
    simp only [Array.getElem?_map, hv', Option.getD_some]
    exact hr'⟩ hC.fr.ok hid hl
  have hrun : (execOp a.eval ⟨d, .call ⟨.value x, args, ats⟩, ty, pos, af, gd⟩).run P w = .ok (.round l r.fn ((r.params.zip (args.map a.eval)).foldl (fun tmps (t, a) => tmps.setIfInBounds t a) r.tmps) r.assign r.body) w := by
    have hy := run_yield (P := P) h1 h2
    simp only [execOp, resolve, hv, hl, Deferred.ofValue, invoke, Sem.run_bind, Sem.run_pure, Result.andThen_ok, Array.empty_append, hy]
  refine ⟨fun _ _ => trivial, ?_⟩
  rw [Oper.semAt_eq _ _ _ (by intro c hc; cases hc), hrun, Oper.uponIn_round]
  refine ⟨fun hh => (by cases hh), RoundIn.mono (F := Fo none) h3 ?_⟩
  rintro e w' ⟨b, m', R', rfl, hq, hf⟩
  have hC' := hC.after hf
  cases b with
  | true => exact ⟨.bool true, _, _, _, rfl, hq, rfl, hC'⟩
  | false => exact ⟨.bool false, _, _, _, rfl, hq, rfl, hC'⟩
/-- One operation. -/
theorem aop_ok0 {o : Oper} (hy : ∀ c x id, o.op = .call c → c.callee = .value x → opnd s x ≠ .x (.one (.yld id))) {K : St → Prop} (h : aop P o s K) (hC : Conc w0 R0 M0 s R a w) (Q : Exit → Act → World → Prop) : o.wp P a w (fun a' w' => ∃ s' R', K s' ∧ Conc w0 R0 M0 s' R' a' w') Q := by
  unfold aop at h
  split at h
  · obtain ⟨v, av, hk, hr, hrun⟩ := popOp_ok h hC
    unfold Oper.wp
    rw [hrun w (Same.refl w), Oper.upon_value]
    obtain ⟨s', h1, h2⟩ := hC.put hr hk
    exact ⟨s', R, h1, h2⟩
  · have fin : Ok2 P w0 R0 M0 a w (execOp a.eval o) (fun v s' => s'.put o.dst v K) → o.wp P a w (fun a' w' => ∃ s' R', K s' ∧ Conc w0 R0 M0 s' R' a' w') Q := by
      rintro ⟨v, w', av, s', R', hrun, hk, hr, hC'⟩
      unfold Oper.wp
      obtain ⟨s'', h1, h2⟩ := hC'.put hr hk
      rcases hrun with hrun | ⟨hrun, rfl⟩
      · rw [hrun, Oper.upon_value]; exact ⟨s'', R', h1, h2⟩
      · rw [hrun, Oper.upon_skip]; exact ⟨s'', R', h1, h2⟩
    obtain ⟨dst, op, ty, pos, after, guard⟩ := o
    simp only at h fin hy
    unfold effOp at h
    split at h
    · rename_i t
      split at h
      · rename_i z hz; exact fin (alloc_ok hz h hC)
      · cases h
    · rename_i t x
      split at h
      · rename_i v hv; exact fin (box_ok hv h hC)
      · cases h
    · rename_i t x v; exact fin (store_ok h hC)
    · rename_i t parts; exact fin (build_ok h hC)
    · rename_i t len parts
      split at h
      · rename_i e he
        split at h
        · rename_i ks by_ ps hk hp
          split at h
          · rename_i hq
            split at h
            · rename_i ar hr
              exact fin (buildSlice_ok he hk hp hq hr h hC)
            · cases h
          · cases h
        · cases h
      · cases h
    · rename_i t len cap
      split at h
      · rename_i e kl n kc c he hn hc
        split at h
        · rename_i ks by_ hk; exact fin (makeSlice_ok he hk hn hc h hC)
        · cases h
      · cases h
    · rename_i f first captured
      split at h
      · rename_i hf
        split at h
        · rename_i l hl; exact fin (makeFunc_ok hf hl h hC)
        · cases h
      · cases h
    · rename_i c _
      obtain ⟨callee, args, ats⟩ := c
      simp only at h
      split at h
      · split at h
        · rename_i x y t t' hx ht
          split at h
          · rename_i hq
            have hx' : args = #[x, y] := by apply Array.toList_inj.1; simpa using hx
            have ht' : ats = #[t, t'] := by apply Array.toList_inj.1; simpa using ht
            subst hx' ht'
            exact fin (append_ok h (Nat.eq_of_beq_eq_true hq) hC rfl)
          · cases h
        · cases h
      · rename_i f
        split at h
        · rename_i id hf
          exact (hy _ _ id rfl rfl hf).elim
        split at h
        · rename_i fid caps hf
          obtain ⟨vs, h1, h2, h3⟩ := run_callee (P := P) hC hf (args := args) (ats := ats) (ty := ty) (d := dst) (pos := pos) (af := after) (gd := guard)
          unfold Oper.wp
          rw [h3 w]
          rcases call_ok h hC h1 h2 with ⟨hr, hc⟩ | ⟨v, w', hr, v', av, s', R', he, hk, hrep, hC'⟩
          · rw [hr, Oper.upon_enter]
            refine hc.mono ?_
            rintro e w'' ⟨v, av, s', R', rfl, hk, hrep, hC'⟩
            obtain ⟨s'', k1, k2⟩ := hC'.put hrep hk
            exact ⟨s'', R', k1, k2⟩
          · rw [hr, Oper.upon_value]
            cases he
            obtain ⟨s'', k1, k2⟩ := hC'.put hrep hk
            exact ⟨s'', R', k1, k2⟩
        · cases h
      · cases h
    · cases h
theorem aop_ok (ro : Option Nat) {o : Oper} {K : St → Prop} (h : aop P o s K) (hC : Conc w0 R0 M0 s R a w) (Q : Exit → Act → World → Prop) : o.wpIn (Fo ro) 0 P a w (fun a' w' => ∃ s' R', K s' ∧ Conc w0 R0 M0 s' R' a' w') Q := by
  by_cases hy : ∃ c x id, o.op = .call c ∧ c.callee = .value x ∧ opnd s x = .x (.one (.yld id))
  · obtain ⟨c, x, id, hop, hc, hx⟩ := hy
    obtain ⟨dst, op, ty, pos, after, guard⟩ := o
    obtain ⟨callee, args, ats⟩ := c
    simp only at hop hc
    subst hop hc
    unfold aop at h
    simp only [quiet, effOp, hx] at h
    split at h
    · rename_i xs ps as b env p hxs hb
      refine Oper.wpIn_mono ?_ (yield_ok hx hxs hb rfl h hC ro Q)
      rintro a' w' ⟨v, av, s', R', rfl, hk, hr, hC'⟩
      obtain ⟨s'', k1, k2⟩ := hC'.put hr hk
      exact ⟨s'', R', k1, k2⟩
    · cases h
  · refine wpIn_of_wp (fun c hc => ?_) (aop_ok0 (fun c x id h1 h2 h3 => hy ⟨c, x, id, h1, h2, h3⟩) h hC Q)
    unfold aop at h
    rw [hc] at h
    exact h
/-- The operations of a region, in their order. -/
theorem aops_ok (ro : Option Nat) {ops : Array Oper} {K : St → Prop} {Q : Exit → Act → World → Prop} (hQ : ∀ s' R' a' w', K s' → Conc w0 R0 M0 s' R' a' w' → Q .normal a' w') :
    ∀ (l : List Oper) (s : St) (R : Rp) (a : Act) (w : World), aops P ops.toList l s K → Conc w0 R0 M0 s R a w → wpL ro P ops Q l a w
  | [], s, R, a, w, h, hC => hQ s R a w h hC
  | o :: l, s, R, a, w, h, hC => by
    obtain ⟨s', hC', hw⟩ := wantedA_ok h hC
    unfold wpL
    rcases hw with ⟨hw, hr⟩ | ⟨hw, hr⟩
    · rw [if_pos hw]
      refine Oper.wpIn_mono ?_ (aop_ok ro hr hC' Q)
      rintro a' w' ⟨s'', R', hk, hC''⟩
      exact aops_ok ro hQ l s'' R' a' w' hk hC''
    · rw [if_neg (by rw [hw]; simp)]
      obtain ⟨s'', hk, hC''⟩ := hC'.put (RepA.any w R undef) hr
      exact aops_ok ro hQ l s'' R _ w hk hC''
theorem scalar_val {v : SV} (h : scalar v = true) : ∃ u, ∀ (w : World) (R : Rp) (x : Value), RepS w R v x ↔ x = u := by
  cases v with
  | int k n => exact ⟨.int k n, fun _ _ _ => Iff.rfl⟩
  | bool b => exact ⟨.bool b, fun _ _ _ => Iff.rfl⟩
  | tt => exact ⟨.bool true, fun _ _ _ => Iff.rfl⟩
  | ff => exact ⟨.bool false, fun _ _ _ => Iff.rfl⟩
  | str s => exact ⟨.string s, fun _ _ _ => Iff.rfl⟩
  | prp p d => exact ⟨.bool (@decide p d), fun _ _ _ => Iff.rfl⟩
  | _ => simp [scalar] at h
/-- A call inside a region that draws. -/
theorem qcall_ok {f : FuncId} {args : List AV} {K : AV → Prop} (h : QCallVC P f args s K) (hC : Conc w0 R0 M0 s R a w) {vs : Array Value} (hs : vs.size = args.length) (hvs : ∀ (j : Nat) (x : AV), args[j]? = some x → RepA w R x (vs.getD j undef)) :
    ∃ u v, K (.x (.one v)) ∧ (∀ (w' : World) (R' : Rp), RepS w' R' v u) ∧ ∀ w', Below w.heap.size w w' → (callFunc f vs).run P w' = .ok (.enter f vs) w' ∧ Calls P f vs w' fun e w'' => e = .returned u ∧ Below w.heap.size w w'' := by
  obtain ⟨he, v, args', ha, hspec, hsc, k⟩ := h
  obtain ⟨u, hu⟩ := scalar_val hsc
  refine ⟨u, v, k, fun w' R' => (hu w' R' u).2 rfl, fun w' hb => ⟨he vs w', ?_⟩⟩
  have hC' := hC.same hb
  have hg : w.grownBy w' none := ⟨hb.os, hb.tape, hb.output, hb.size, fun k hk _ => hb.block k hk⟩
  have hext := hC.grown_ext0 hg (fun g e => by cases e)
  obtain ⟨hal, hag⟩ := argsX_ok _ _ ha
  have hI := hspec w' (Rc w' R [] true) vs ⟨by rw [hs, hal], fun j x' hx' => by
    obtain ⟨x, hx, rfl⟩ := hag j x' hx'
    exact argX_rep hC' (fun id hid => by simp at hid) (fun _ => rfl) ((hvs j _ hx).ext hext)⟩ (callee_ok hC' (sel := []) (m := []) rfl rfl (fun _ => rfl))
  rcases hI with ⟨h1, h2⟩ | ⟨v', w'', h1, _⟩
  · refine h2.mono ?_
    rintro e w'' ⟨v', r, m', R', rfl, ⟨rfl, rfl⟩, hf, hrep⟩
    have hv' : v' = u := (hu w'' R' v').1 hrep
    subst hv'
    refine ⟨rfl, hb.trans ⟨hf.os, hf.tape, hf.output, hf.size, fun k hk => hf.block k (Nat.lt_of_lt_of_le hk hb.size) ?_⟩⟩
    rintro ⟨i, ⟨b, hi⟩, _⟩
    simp at hi
  · rw [he vs w'] at h1; cases h1
theorem aopQ_ok {o : Oper} {K : St → Prop} (h : aopQ P o s K) (hC : Conc w0 R0 M0 s R a w) : ∃ v, (∀ w', Below w.heap.size w w' → o.quietAt P a (fun w'' => Below w.heap.size w w'') w' v) ∧ ∃ s', K s' ∧ Conc w0 R0 M0 s' R (a.put o.dst v) w := by
  have fin : popOp P s o.op (fun v => s.put o.dst v K) → ∃ v, (∀ w', Below w.heap.size w w' → o.quietAt P a (fun w'' => Below w.heap.size w w'') w' v) ∧ ∃ s', K s' ∧ Conc w0 R0 M0 s' R (a.put o.dst v) w := fun h => by
    obtain ⟨v, av, hk, hr, hrun⟩ := popOp_ok h hC
    refine ⟨v, fun w' hb => ?_, hC.put hr hk⟩
    unfold Oper.quietAt
    rw [hrun w' hb.block]
    exact ⟨rfl, rfl⟩
  unfold aopQ at h
  split at h
  · rename_i c hop
    split at h
    · rename_i x hc
      split at h
      · rename_i f caps hf
        obtain ⟨dst, op, ty, pos, after, guard⟩ := o
        obtain ⟨callee, args, ats⟩ := c
        simp only at hop hc
        subst hop hc
        obtain ⟨vs, h1, h2, h3⟩ := run_callee (P := P) hC hf (args := args) (ats := ats) (ty := ty) (d := dst) (pos := pos) (af := after) (gd := guard)
        obtain ⟨u, v, hk, hrep, hcall⟩ := qcall_ok h hC h1 h2
        refine ⟨u, fun w' hb => ?_, hC.put (v := .x (.one v)) (hrep w R) hk⟩
        unfold Oper.quietAt
        obtain ⟨k1, k2⟩ := hcall w' hb
        rw [h3 w', k1]
        exact ⟨rfl, k2⟩
      · cases h
    · exact fin h
  · exact fin h
theorem aopsQ_ok {ops : Array Oper} {K : St → Prop} (hC0 : w0 = w0) :
    ∀ (l : List Oper) (s : St) (a : Act), aopsQ P ops.toList l s K → Conc w0 R0 M0 s R a w → wpQuiet P ops (fun w' => Below w.heap.size w w') (fun a' => ∃ s', K s' ∧ Conc w0 R0 M0 s' R a' w) l a
  | [], s, a, h, hC => ⟨s, h, hC⟩
  | o :: l, s, a, h, hC => by
    obtain ⟨s', hC', hw⟩ := wantedA_ok h hC
    unfold wpQuiet
    rcases hw with ⟨hw, hr⟩ | ⟨hw, hr⟩
    · rw [if_pos hw]
      obtain ⟨v, h1, s'', hk, hC''⟩ := aopQ_ok hr hC'
      exact ⟨v, h1, aopsQ_ok hC0 l s'' _ hk hC''⟩
    · rw [if_neg (by rw [hw]; simp)]
      obtain ⟨s'', hk, hC''⟩ := hC'.put (RepA.any w R undef) hr
      exact aopsQ_ok hC0 l s'' _ hk hC''
theorem aopsS_ok {ops : Array Oper} {K : St → Prop} :
    ∀ (l : List Oper) (s : St) (a : Act), (∀ o ∈ l, isCall o.op = false) → aopsQ P ops.toList l s K → Conc w0 R0 M0 s R a w → wpStill P ops w (fun a' => ∃ s', K s' ∧ Conc w0 R0 M0 s' R a' w) l a
  | [], s, a, _, h, hC => ⟨s, h, hC⟩
  | o :: l, s, a, hn, h, hC => by
    obtain ⟨s', hC', hw⟩ := wantedA_ok h hC
    unfold wpStill
    rcases hw with ⟨hw, hr⟩ | ⟨hw, hr⟩
    · rw [if_pos hw]
      have hr' : popOp P s' o.op (fun v => s'.put o.dst v fun s'' => aopsQ P ops.toList l s'' K) := by
        unfold aopQ at hr
        split at hr
        · rename_i c hop
          split at hr
          · rename_i x hc
            have := hn o (List.mem_cons_self ..)
            rw [hop] at this
            simp [isCall, hc] at this
          · exact hr
        · exact hr
      obtain ⟨v, av, hk, hrep, hrun⟩ := popOp_ok hr' hC'
      obtain ⟨s'', k1, k2⟩ := hC'.put hrep hk
      unfold Oper.still
      rw [hrun w (Same.refl w), Oper.stillUpon_value]
      exact aopsS_ok l s'' _ (fun o ho => hn o (List.mem_cons_of_mem _ ho)) k1 k2
    · rw [if_neg (by rw [hw]; simp)]
      obtain ⟨s'', hk, hC''⟩ := hC'.put (RepA.any w R undef) hr
      exact aopsS_ok l s'' _ (fun o ho => hn o (List.mem_cons_of_mem _ ho)) hk hC''
/-- What is asked of a region that draws its order: closed facts. -/
def regionOK (ops : Array Oper) (draw : Bool) : Bool :=
  !draw || (hasDyn ops.toList || if allQuiet ops.toList then Region.lexB .any ops else Region.lexTailB .any ops (headN ops.toList))
theorem allQuiet_spec : ∀ {l : List Oper}, allQuiet l = true → ∀ o ∈ l, ∀ c, o.op ≠ .defer c
  | [], _, o, ho, _, _ => by simp at ho
  | x :: l, h, o, ho, c, hc => by
    simp only [allQuiet, Bool.and_eq_true, Bool.or_eq_true] at h
    rcases List.mem_cons.1 ho with rfl | ho
    · rw [hc] at h; simp [quiet, isCall] at h
    · exact allQuiet_spec h.2 o ho c hc
theorem headQ_spec : ∀ {l : List Oper} {n : Nat}, headQ l n = true → ∀ o ∈ l.take n, quiet o.op = true
  | [], _, _, o, ho => by simp at ho
  | x :: l, 0, _, o, ho => by simp at ho
  | x :: l, n + 1, h, o, ho => by
    simp only [headQ, Bool.and_eq_true] at h
    simp only [List.take_succ_cons, List.mem_cons] at ho
    rcases ho with rfl | ho
    · exact h.1
    · exact headQ_spec h.2 o ho
theorem quiet_call {o : Oper} (h : quiet o.op = true) : isCall o.op = false ∧ ∀ c, o.op ≠ .defer c := by
  refine ⟨?_, fun c hc => by rw [hc] at h; simp [quiet] at h⟩
  cases ho : o.op <;> simp [isCall]
  rename_i c
  rw [ho] at h
  cases hc : c.callee <;> simp [quiet, hc] at h ⊢
theorem headN_headQ : ∀ (l : List Oper), headQ l (headN l) = true
  | [] => rfl
  | x :: l => by
    simp only [headN]
    split
    · rename_i h; simp [headQ, h, headN_headQ l]
    · cases l <;> rfl
theorem regionQ_ok (hm : P.follows .mixedOrders = true) (ro : Option Nat) {id : Nat} {ops : Array Oper} (hq : allQuiet ops.toList = true) (hr : Region.lexB .any ops = true) {K : St → Prop} {Q : Exit → Act → World → Prop} (h : aopsQ P ops.toList ops.toList s K)
    (hC : Conc w0 R0 M0 s R a w) (hQ : ∀ s' R' a' w', K s' → Conc w0 R0 M0 s' R' a' w' → Q .normal a' w') : (Code.region id ops true).wpIn (Fo ro) 0 P Q a w := by
  refine wpIn_region_Q (C := fun w' => Below w.heap.size w w') hm hr (allQuiet_spec hq) ⟨rfl, rfl, rfl, Nat.le_refl _, fun _ _ => rfl⟩ ?_
  have := aopsQ_ok rfl _ s a h hC
  have mono : ∀ (l : List Oper) (a : Act), wpQuiet P ops (fun w' => Below w.heap.size w w') (fun a' => ∃ s', K s' ∧ Conc w0 R0 M0 s' R a' w) l a → wpQuiet P ops (fun w' => Below w.heap.size w w') (fun a' => ∀ w', Below w.heap.size w w' → Q .normal a' w') l a := by
    intro l
    induction l with
    | nil => rintro a ⟨s', hk, hC'⟩ w' hb; exact hQ s' R a w' hk (hC'.same hb)
    | cons o l ih =>
      intro a h
      unfold wpQuiet at h ⊢
      split
      · rename_i hw; rw [if_pos hw] at h; exact Oper.quiet_mono ih h
      · rename_i hw; rw [if_neg hw] at h; exact ih _ h
  exact mono _ _ this
theorem regionT_ok (hm : P.follows .mixedOrders = true) (ro : Option Nat) {id : Nat} {l : List Oper} (n : Nat) (hh : headQ l n = true) (hr : Region.lexTailB .any l.toArray n = true) {K : St → Prop} {Q : Exit → Act → World → Prop}
    (h : aopsQ P l (l.take n) s fun s' => aops P l (l.drop n) s' K) (hC : Conc w0 R0 M0 s R a w) (hQ : ∀ s' R' a' w', K s' → Conc w0 R0 M0 s' R' a' w' → Q .normal a' w') : (Code.region id l.toArray true).wpIn (Fo ro) 0 P Q a w := by
  refine wpIn_region_T n hm hr (fun o ho => (quiet_call (headQ_spec hh o ho)).2) ?_
  have hC1 : Conc w0 R0 M0 s R a { w with drawn := w.drawn + 1 } := hC.same ⟨rfl, rfl, rfl, Nat.le_refl _, fun _ _ => rfl⟩
  have := aopsS_ok (ops := ⟨l⟩) _ s a (fun o ho => (quiet_call (headQ_spec hh o ho)).1) h hC1
  have mono : ∀ (l' : List Oper) (a : Act), wpStill P ⟨l⟩ { w with drawn := w.drawn + 1 } (fun a' => ∃ s', aops P l (l.drop n) s' K ∧ Conc w0 R0 M0 s' R a' { w with drawn := w.drawn + 1 }) l' a →
      wpStill P ⟨l⟩ { w with drawn := w.drawn + 1 } (fun a' => wpL ro P ⟨l⟩ (fun e a w => e = .normal ∧ Q .normal a w) (l.drop n) a' { w with drawn := w.drawn + 1 }) l' a := by
    intro l'
    induction l' with
    | nil => rintro a ⟨s', hk, hC'⟩; exact aops_ok ro (ops := ⟨l⟩) (fun s' R' a' w' h1 h2 => ⟨rfl, hQ s' R' a' w' h1 h2⟩) _ s' R a _ hk hC'
    | cons o l' ih =>
      intro a h
      unfold wpStill at h ⊢
      split
      · rename_i hw; rw [if_pos hw] at h; exact Oper.still_mono ih h
      · rename_i hw; rw [if_neg hw] at h; exact ih _ h
  exact mono _ _ this
theorem region_ok (hm : P.follows .mixedOrders = true) (ro : Option Nat) {id : Nat} {ops : Array Oper} {draw : Bool} (hr : regionOK ops draw = true) {K : St → Prop} {Q : Exit → Act → World → Prop} (h : regionA P ops.toList draw s K)
    (hC : Conc w0 R0 M0 s R a w) (hQ : ∀ s' R' a' w', K s' → Conc w0 R0 M0 s' R' a' w' → Q .normal a' w') : (Code.region id ops draw).wpIn (Fo ro) 0 P Q a w := by
  unfold regionA at h
  split at h
  · exact wpIn_region_L (aops_ok ro hQ _ s R a w h hC)
  · obtain ⟨l⟩ := ops
    simp only [regionOK, Bool.not_true, Bool.false_or] at hr
    simp only at h hr
    split at h
    · rcases h with ⟨h1, h⟩ | ⟨n, h1, h⟩
      · simp only [Bool.and_eq_true] at h1
        exact regionQ_ok (ops := ⟨l⟩) hm ro h1.1 h1.2 h hC hQ
      · simp only [Bool.and_eq_true] at h1
        rw [takeL_eq, dropL_eq] at h
        exact regionT_ok hm ro n h1.1 h1.2 h hC hQ
    · rename_i hd
      rw [hd, Bool.false_or] at hr
      split at h
      · rename_i hq
        rw [if_pos hq] at hr
        exact regionQ_ok (ops := ⟨l⟩) hm ro hq hr h hC hQ
      · rename_i hq
        rw [if_neg (by rw [hq]; simp)] at hr
        rw [takeL_eq, dropL_eq] at h
        exact regionT_ok hm ro (headN l) (headN_headQ l) hr h hC hQ
end
end Go.Sx

/- Sx, part P: weakening of states. -/
namespace Go.Sx
open Go Go.RowKit

theorem notIn_ne : ∀ {r : List (Option Nat)} {j : Nat}, notIn r j = true → ∀ (i : Nat), r[i]? ≠ some (some j)
  | [], j, _, i, h => by simp at h
  | some x :: r, j, h, i, hi => by
    simp only [notIn, Bool.and_eq_true, Bool.not_eq_true'] at h
    cases i with
    | zero => simp at hi; subst hi; rw [Nat.beq_refl] at h; cases h.1
    | succ i => exact notIn_ne h.2 i (by simpa using hi)
  | none :: r, j, h, i, hi => by
    cases i with
    | zero => simp at hi
    | succ i => exact notIn_ne (r := r) h i (by simpa using hi)
theorem leMem_spec (k : Nat) (mm : List (Option Blk)) (r0 : List (Option Nat)) : ∀ (r : List (Option Nat)) (l : List (Option Blk)) (i : Nat), leMem k mm r0 i r l → r.length = l.length ∧
    (∀ (n : Nat) b', l[n]? = some (some b') → (∃ j b, r[n]? = some (some j) ∧ mm[j]? = some (some b) ∧ leB k mm r0 b b' ∧ (i + n < k → j = i + n)) ∨ (r[n]? = some none ∧ k ≤ i + n ∧ ∃ e al ks, b' = .row e al ks [])) ∧
    (∀ (n : Nat), l[n]? = some none → r[n]? = some none) ∧
    (∀ (n n' j : Nat), r[n]? = some (some j) → r[n']? = some (some j) → n = n')
  | [], [], i, h => ⟨rfl, fun n b h => by simp at h, fun n h => by simp at h, fun n n' j h => by simp at h⟩
  | none :: r, none :: l, i, h => by
    obtain ⟨h1, h2, h3, h4⟩ := leMem_spec k mm r0 r l (i + 1) h
    refine ⟨by simp [h1], fun n b hb => ?_, fun n hn => ?_, fun n n' j hn hn' => ?_⟩
    · cases n with
      | zero => simp at hb
      | succ n => have := h2 n b (by simpa using hb); simpa [Nat.add_assoc, Nat.add_comm 1 n] using this
    · cases n with
      | zero => rfl
      | succ n => simpa using h3 n (by simpa using hn)
    · cases n with
      | zero => simp at hn
      | succ n =>
        cases n' with
        | zero => simp at hn'
        | succ n' => exact congrArg (· + 1) (h4 n n' j (by simpa using hn) (by simpa using hn'))
  | some j0 :: r, some b0 :: l, i, h => by
    obtain ⟨hb0, hni, hki, h⟩ := h
    obtain ⟨h1, h2, h3, h4⟩ := leMem_spec k mm r0 r l (i + 1) h
    refine ⟨by simp [h1], fun n b hb => ?_, fun n hn => ?_, fun n n' j hn hn' => ?_⟩
    · cases n with
      | zero =>
        simp at hb; subst hb
        rw [getL_eq] at hb0
        split at hb0
        · rename_i b hb
          refine .inl ⟨j0, b, rfl, hb, hb0, fun hlt => ?_⟩
          split at hki
          · rename_i hle
            have := Nat.le_of_ble_eq_true hle
            omega
          · simpa using hki
        · exact hb0.elim
      | succ n => have := h2 n b (by simpa using hb); simpa [Nat.add_assoc, Nat.add_comm 1 n] using this
    · cases n with
      | zero => simp at hn
      | succ n => simpa using h3 n (by simpa using hn)
    · cases n with
      | zero =>
        simp at hn; subst hn
        cases n' with
        | zero => rfl
        | succ n' => exact (notIn_ne hni n' (by simpa using hn')).elim
      | succ n =>
        cases n' with
        | zero => simp at hn'; subst hn'; exact (notIn_ne hni n (by simpa using hn)).elim
        | succ n' => exact congrArg (· + 1) (h4 n n' j (by simpa using hn) (by simpa using hn'))
  | none :: r, some (.row e al ks a) :: l, i, h => by
    obtain ⟨ha, hki, h⟩ := h
    obtain ⟨h1, h2, h3, h4⟩ := leMem_spec k mm r0 r l (i + 1) h
    refine ⟨by simp [h1], fun n b hb => ?_, fun n hn => ?_, fun n n' j hn hn' => ?_⟩
    · cases n with
      | zero => simp at hb; subst hb; exact .inr ⟨rfl, by simpa using Nat.le_of_ble_eq_true hki, e, al, ks, by rw [ha]⟩
      | succ n => have := h2 n b (by simpa using hb); simpa [Nat.add_assoc, Nat.add_comm 1 n] using this
    · cases n with
      | zero => simp at hn
      | succ n => simpa using h3 n (by simpa using hn)
    · cases n with
      | zero => simp at hn
      | succ n =>
        cases n' with
        | zero => simp at hn'
        | succ n' => exact congrArg (· + 1) (h4 n n' j (by simpa using hn) (by simpa using hn'))
  | [], _ :: _, i, h => by simp [leMem] at h
  | none :: _, [], i, h => by simp [leMem] at h
  | some _ :: _, [], i, h => by simp [leMem] at h
  | some _ :: _, none :: _, i, h => by simp [leMem] at h
  | none :: _, some (.box _ _) :: _, i, h => by simp [leMem] at h
  | none :: _, some (.loop ..) :: _, i, h => by simp [leMem] at h
section
variable {w w0 : World} {R R0 : Rp} {M0 : List (Option Blk)} {s s' : St} {a : Act} {r : List (Option Nat)}
def nilSl : Value := .slice none 0 0
/-- How ids stand for blocks in a weaker state. -/
def Rw (R : Rp) (k : Nat) (mem mem' : List (Option Blk)) (r : List (Option Nat)) : Rp :=
  ⟨mem'.length, fun i => if i < k then R.ν i else match r[i]? with
    | some (some j) => if j < R.n then R.ν j else nilSl
    | _ => nilSl, R.I, fun b => R.J b ∨ ∃ id, live mem id ∧ notIn r id = true ∧ hblk (R.ν id) = some b⟩
section
variable (hC : Conc w0 R0 M0 s R a w) {mem' : List (Option Blk)} (hM : leMem s.k s.mem r 0 r mem')
include hC hM
theorem Rw_at {i j : Nat} (h : r[i]? = some (some j)) : i < mem'.length ∧ live s.mem j ∧ (Rw R s.k s.mem mem' r).ν i = R.ν j := by
  obtain ⟨h1, h2, h3, h4⟩ := leMem_spec _ _ _ _ _ _ hM
  have hi : i < mem'.length := by rw [← h1]; exact (List.getElem?_eq_some_iff.1 h).1
  refine ⟨hi, ?_⟩
  have hg : mem'[i]? = some mem'[i] := List.getElem?_eq_getElem hi
  cases hb : mem'[i] with
  | none => rw [hb] at hg; rw [h3 i hg] at h; cases h
  | some b' =>
    rw [hb] at hg
    rcases h2 i b' hg with ⟨j', b, hj, hbm, _, hk⟩ | ⟨hn, _⟩
    · rw [hj] at h; cases h
      refine ⟨⟨b, hbm⟩, ?_⟩
      simp only [Nat.zero_add] at hk
      by_cases hik : i < s.k
      · simp only [Rw]; rw [if_pos hik, hk hik]
      · simp only [Rw]; rw [if_neg hik, hj]
        simp only
        rw [if_pos (hC.live_n ⟨b, hbm⟩)]
    · rw [hn] at h; cases h
omit hC in
theorem Rw_nil {i : Nat} (h : r[i]? = some none) (hk : s.k ≤ i) : i < mem'.length ∧ (Rw R s.k s.mem mem' r).ν i = nilSl := by
  obtain ⟨h1, _⟩ := leMem_spec _ _ _ _ _ _ hM
  refine ⟨by rw [← h1]; exact (List.getElem?_eq_some_iff.1 h).1, ?_⟩
  simp only [Rw]
  rw [if_neg (by omega), h]
theorem leP_rep {id id' off off' : Nat} (h : getL r id' = some (some id)) (ho : off = off') {u : Value} (hr : RepP R id off u) : RepP (Rw R s.k s.mem mem' r) id' off' u := by
  rw [getL_eq] at h
  obtain ⟨h1, h2, h3⟩ := Rw_at hC hM h
  subst ho
  exact ⟨h1, by rw [h3]; exact hr.2⟩
omit hC hM in
theorem Rw_rd {al al' : Bool} (hal : impB al al' = true) {b : Nat} (h : R.rd al b) : (Rw R s.k s.mem mem' r).rd al' b := by
  have h' : (Rw R s.k s.mem mem' r).rd al b := h.imp .inl id
  exact impB_rd hal h'
omit hC hM in
theorem leCaps_ok : ∀ (l l' : List (Nat × Nat)), leCaps r l l' → l.length = l'.length ∧ ∀ (j : Nat) p', l'[j]? = some p' → ∃ p, l[j]? = some p ∧ getL r p'.1 = some (some p.1) ∧ p.2 = p'.2
  | [], [], _ => ⟨rfl, fun j p h => by simp at h⟩
  | (i, o) :: l, (i', o') :: l', h => by
    obtain ⟨h1, h2, h⟩ := h
    obtain ⟨h3, h4⟩ := leCaps_ok l l' h
    refine ⟨by simp [h3], fun j p hp => ?_⟩
    cases j with
    | zero => simp at hp; subst hp; exact ⟨(i, o), rfl, h1, h2⟩
    | succ j => simpa using h4 j p (by simpa using hp)
  | [], _ :: _, h => by simp [leCaps] at h
  | _ :: _, [], h => by simp [leCaps] at h
theorem leS_rep {v v' : SV} (h : leS s.k s.mem r v v') {u : Value} (hr : RepS w R v u) : RepS w (Rw R s.k s.mem mem' r) v' u := by
  unfold leS at h
  split at h
  · trivial
  · obtain ⟨h1, h2⟩ := h; subst h1 h2; exact hr
  · subst h; exact hr
  · rw [← h]; exact hr
  · rename_i p d p' d'
    have hu : u = .bool (@decide p d) := hr
    rw [hu]
    show Value.bool _ = Value.bool _
    congr 1
    exact decide_eq_decide.2 h
  · rename_i p d
    have hu : u = .bool true := hr
    rw [hu]
    show Value.bool _ = Value.bool _
    simp [h]
  · rename_i p d
    have hu : u = .bool false := hr
    rw [hu]
    show Value.bool _ = Value.bool _
    simp [h]
  · rw [h] at hr; exact hr
  · subst h; exact hr
  · subst h; exact hr
  · exact hr
  · exact hr
  · subst h; exact hr
  · obtain ⟨h1, h2, h3⟩ := h
    subst h2 h3
    exact RepC.keep (fun _ _ => rfl) (fun b hb => Rw_rd h1 hb) (show RepC w (R.rd _) _ _ u from hr)
  · subst h
    have hu : u = .slice none 0 0 := hr
    subst hu
    exact .sl _ [] none 0 (fun _ _ => undef) (Nat.le_refl _) (fun r hr => by simp at hr) (fun hne => (hne rfl).elim) (fun i r f c k h1 => by simp at h1)
  · rename_i id al' ks' a'
    split at h
    · rename_i e al ks ar hrow
      obtain ⟨h1, h2, h3, h4⟩ := h
      subst h3 h4
      have hm : s.mem[id]? = some (some (.row e al ks ar)) := by
        unfold rowAt at hrow
        rw [getL_eq] at hrow
        split at hrow
        · rename_i hb; cases hrow; exact hb
        · cases hrow
      obtain ⟨_, hu⟩ : id < R.n ∧ u = R.ν id := hr
      rw [hu]
      exact (hC.fr.ok.rep id _ hm).toC (fun b hb => Rw_rd h2 hb) (fun g hg => .inl (.inr ⟨id, ⟨_, hm⟩, h1, hg⟩))
    · cases h
  · rw [getL_eq] at h
    obtain ⟨h1, h2, h3⟩ := Rw_at hC hM h
    exact ⟨h1, by rw [h3]; exact hr.2⟩
  · obtain ⟨h, hk⟩ := h
    rw [getL_eq] at h
    obtain ⟨h1, h2⟩ := Rw_nil hM h (Nat.le_of_ble_eq_true hk)
    exact ⟨h1, by rw [h2]; exact hr⟩
  · exact leP_rep hC hM h.1 h.2 hr
  · obtain ⟨h, h1, h2, h3⟩ := h
    subst h1 h2 h3
    rw [getL_eq] at h
    obtain ⟨h1, h2, h3⟩ := Rw_at hC hM h
    obtain ⟨_, g, n, c, hg, hu⟩ := hr
    exact ⟨h1, g, n, c, by rw [h3]; exact hg, hu⟩
  · obtain ⟨h1, h2, h3, h4, h5⟩ := h
    subst h2 h3 h4 h5
    obtain ⟨ad, cap, hc, hi, hu⟩ := hr
    exact ⟨ad, cap, RepC.keep (fun _ _ => rfl) (fun b hb => Rw_rd h1 hb) hc, hi, hu⟩
  · exact hr
  · exact hr
  · exact hr
  · exact hr
  · obtain ⟨h1, h2⟩ := h
    subst h1
    obtain ⟨cvs, hu, hs, hp⟩ := hr
    obtain ⟨h3, h4⟩ := leCaps_ok _ _ h2
    refine ⟨cvs, hu, by rw [hs, h3], fun j p' hp' => ?_⟩
    obtain ⟨p, k1, k2, k3⟩ := h4 j p' hp'
    exact leP_rep hC hM k2 k3 (hp j p k1)
  · rw [getL_eq] at h
    obtain ⟨h1, h2, h3⟩ := Rw_at hC hM h
    exact ⟨h1, by rw [h3]; exact hr.2⟩
  · rw [getL_eq] at h
    obtain ⟨h1, h2, h3⟩ := Rw_at hC hM h
    exact ⟨h1, by rw [h3]; exact hr.2⟩
  · cases h
theorem leSs_rep : ∀ (l l' : List SV) (cs : Array Value), leSs s.k s.mem r l l' → RepL w R l cs → RepL w (Rw R s.k s.mem mem' r) l' cs := by
  have key : ∀ (l l' : List SV), leSs s.k s.mem r l l' → l.length = l'.length ∧ ∀ (j : Nat) v', l'[j]? = some v' → ∃ v, l[j]? = some v ∧ leS s.k s.mem r v v' := by
    intro l
    induction l with
    | nil => intro l' h; cases l' with
      | nil => exact ⟨rfl, fun j v h => by simp at h⟩
      | cons v l' => simp [leSs] at h
    | cons v l ih =>
      intro l' h
      cases l' with
      | nil => simp [leSs] at h
      | cons v' l' =>
        obtain ⟨h1, h2⟩ := h
        obtain ⟨h3, h4⟩ := ih l' h2
        refine ⟨by simp [h3], fun j x hx => ?_⟩
        cases j with
        | zero => simp at hx; subst hx; exact ⟨v, rfl, h1⟩
        | succ j => simpa using h4 j x (by simpa using hx)
  intro l l' cs h hr
  obtain ⟨h1, h2⟩ := key l l' h
  refine ⟨by rw [hr.1, h1], fun j v' hv' => ?_⟩
  obtain ⟨v, hv, hle⟩ := h2 j v' hv'
  exact leS_rep hC hM hle (hr.2 j v hv)
theorem leX_rep {x x' : XV} (h : leX s.k s.mem r x x') {u : Value} (hr : RepX w R x u) : RepX w (Rw R s.k s.mem mem' r) x' u := by
  unfold leX at h
  split at h
  · trivial
  · exact leS_rep hC hM h hr
  · obtain ⟨cs, hu, hl⟩ := hr; exact ⟨cs, hu, leSs_rep hC hM _ _ _ h hl⟩
  · cases h
theorem leA_rep {x x' : AV} (h : leA s.k s.mem r x x') {u : Value} (hr : RepA w R x u) : RepA w (Rw R s.k s.mem mem' r) x' u := by
  unfold leA at h
  split at h
  · trivial
  · exact leX_rep hC hM h hr
  · rename_i l l'
    obtain ⟨vs, hu, hs, hx⟩ := hr
    have key : ∀ (l l' : List XV), leXs s.k s.mem r l l' → l.length = l'.length ∧ ∀ (j : Nat) v', l'[j]? = some v' → ∃ v, l[j]? = some v ∧ leX s.k s.mem r v v' := by
      intro l
      induction l with
      | nil => intro l' h; cases l' with
        | nil => exact ⟨rfl, fun j v h => by simp at h⟩
        | cons v l' => simp [leXs] at h
      | cons v l ih =>
        intro l' h
        cases l' with
        | nil => simp [leXs] at h
        | cons v' l' =>
          obtain ⟨h1, h2⟩ := h
          obtain ⟨h3, h4⟩ := ih l' h2
          refine ⟨by simp [h3], fun j x hx => ?_⟩
          cases j with
          | zero => simp at hx; subst hx; exact ⟨v, rfl, h1⟩
          | succ j => simpa using h4 j x (by simpa using hx)
    obtain ⟨h1, h2⟩ := key l l' h
    refine ⟨vs, hu, by rw [hs, h1], fun j v' hv' => ?_⟩
    obtain ⟨v, hv, hle⟩ := h2 j v' hv'
    exact leX_rep hC hM hle (hx j v hv)
  · cases h
omit hC hM in
theorem leEnv_ok : ∀ (l l' : List AV), leEnv s.k s.mem r l l' → l.length = l'.length ∧ ∀ (j : Nat) v', l'[j]? = some v' → ∃ v, l[j]? = some v ∧ leA s.k s.mem r v v'
  | [], [], _ => ⟨rfl, fun j v h => by simp at h⟩
  | x :: l, y :: l', h => by
    have h' : leA s.k s.mem r x y ∧ leEnv s.k s.mem r l l' := by
      unfold leEnv at h
      split at h
      · rename_i heq; cases heq
      · rename_i h1 h2; cases h1; cases h2
        exact ⟨by unfold leA; trivial, h⟩
      · rename_i h1 h2; cases h1; cases h2; exact h
      · cases h
    obtain ⟨h1, h2⟩ := h'
    obtain ⟨h3, h4⟩ := leEnv_ok l l' h2
    refine ⟨by simp [h3], fun j v hv => ?_⟩
    cases j with
    | zero => simp at hv; subst hv; exact ⟨x, rfl, h1⟩
    | succ j => simpa using h4 j v (by simpa using hv)
  | [], _ :: _, h => by simp [leEnv] at h
  | _ :: _, [], h => by simp [leEnv] at h
end
theorem Le_ok (h : Le s s') (hC : Conc w0 R0 M0 s R a w) : ∃ R', Conc w0 R0 M0 s' R' a w := by
  obtain ⟨r, hk, hkl, hE, hM⟩ := h
  obtain ⟨m1, m2, m3, m4⟩ := leMem_spec _ _ _ _ _ _ hM
  simp only [Nat.zero_add] at m2
  have hkl' : s.k ≤ s'.mem.length := by rw [← lenL_eq]; exact Nat.le_of_ble_eq_true hkl
  obtain ⟨e1, e2⟩ := leEnv_ok _ _ hE
  -- a live id: one of before, or a nil row
  have hcl : ∀ i, live s'.mem i → (∃ j, r[i]? = some (some j) ∧ live s.mem j ∧ (Rw R s.k s.mem s'.mem r).ν i = R.ν j) ∨ (Rw R s.k s.mem s'.mem r).ν i = nilSl := fun i ⟨b', hb'⟩ => by
    rcases m2 i b' hb' with ⟨j, b, hj, hb, _⟩ | ⟨hn, hk', _⟩
    · exact .inl ⟨j, hj, ⟨b, hb⟩, (Rw_at hC hM hj).2.2⟩
    · exact .inr (Rw_nil hM hn hk').2
  refine ⟨Rw R s.k s.mem s'.mem r, ⟨⟨hC.fr.os, hC.fr.tape, hC.fr.output, hC.fr.size, hC.fr.block, ⟨rfl, fun i b' hb' => ?_, fun i j g hi hj hbi hbj => ?_, fun i g hi hbi => ?_, fun b hb => ?_, fun i hi => ?_⟩, by rw [← hC.hk]; exact hkl', fun i hi => ?_, hC.fr.i, fun b hb => ?_, fun i g hi hbi => ?_⟩, by rw [← e1]; exact hC.len, fun i v' hv' => ?_, hC.defers.mono (fun _ h => .inl h), by rw [← hk]; exact hC.hk⟩⟩
  · rcases m2 i b' hb' with ⟨j, b, hj, hb, hle, _⟩ | ⟨hn, hk', e, al, ks, rfl⟩
    · have hν := (Rw_at hC hM hj).2.2
      have hr := hC.fr.ok.rep j b hb
      cases b with
      | box t cs =>
        cases b' with
        | box t' cs' =>
          obtain ⟨rfl, hl⟩ := hle
          obtain ⟨g, vals, hv, hh, hrl⟩ := hr
          exact ⟨g, vals, by rw [hν]; exact hv, hh, leSs_rep hC hM _ _ _ hl hrl⟩
        | row e al ks ar => cases hle
        | loop => cases hle
      | row e al ks ar =>
        cases b' with
        | box t' cs' => cases hle
        | loop => cases hle
        | row e' al' ks' ar' =>
          obtain ⟨rfl, hal, rfl, rfl⟩ := hle
          obtain ⟨xs, ho, hl, hc⟩ := hr
          refine ⟨xs, by rw [hν]; exact ho, hl, fun i r f c k g1 g2 g3 => ?_⟩
          obtain ⟨v, hv, hr⟩ := hc i r f c k g1 g2 g3
          exact ⟨v, hv, hr.keep (fun _ _ => rfl) fun b hb => Rw_rd hal hb⟩
      | loop ps as c env p =>
        cases b' with
        | box t' cs' => cases hle
        | row e al ks ar => cases hle
        | loop ps' as' c' env' p' =>
          obtain ⟨rfl, rfl, rfl, rfl, he⟩ := hle
          obtain ⟨l, r, hv, hh, h1, h2, h3, h4, h5, h6⟩ := hr
          obtain ⟨k1, k2⟩ := leEnv_ok _ _ he
          refine ⟨l, r, by rw [hν]; exact hv, hh, h1, h2, h3, by rw [h4, k1], fun j x hx => ?_, h6⟩
          obtain ⟨v, hv', hle'⟩ := k2 j x hx
          exact leA_rep hC hM hle' (h5 j v hv')
    · refine ⟨[], by rw [(Rw_nil hM hn hk').2]; exact World.ownsRow_nil w 0 e ks.length, fun r hr => by simp at hr, fun i r f c k g1 => by simp at g1⟩
  · rcases hcl i hi with ⟨i', h1, h2, h3⟩ | h1
    · rcases hcl j hj with ⟨j', h4, h5, h6⟩ | h4
      · rw [h3] at hbi; rw [h6] at hbj
        have := hC.fr.ok.sep i' j' g h2 h5 hbi hbj
        subst this
        exact m4 i j i' h1 h4
      · rw [h4] at hbj; cases hbj
    · rw [h1] at hbi; cases hbi
  · rcases hcl i hi with ⟨i', h1, h2, h3⟩ | h1
    · rw [h3] at hbi
      obtain ⟨h4, h5⟩ := hC.fr.ok.ij i' g h2 hbi
      refine ⟨h4, fun h => h.elim h5 ?_⟩
      rintro ⟨id, hl, hn, hb⟩
      have := hC.fr.ok.sep id i' g hl h2 hb hbi
      subst this
      exact notIn_ne hn i h1
    · rw [h1] at hbi; cases hbi
  · rcases hb with h | h | ⟨id, ⟨x, hx⟩, _, h⟩
    · exact hC.fr.ok.lt b (.inl h)
    · exact hC.fr.ok.lt b (.inr h)
    · exact (hC.fr.ok.rep id x hx).blk_lt h
  · have hn : isCell nilSl := ⟨rfl, rfl⟩
    simp only [Rw]
    split
    · rename_i hlt; exact hC.fr.ok.cell i (Nat.lt_of_lt_of_le hlt (by rw [hC.hk]; exact hC.fr.kn))
    · split
      · split
        · rename_i hlt; exact hC.fr.ok.cell _ hlt
        · exact hn
      · exact hn
  · have hi' : i < s.k := by rw [hC.hk]; exact hi
    have : (Rw R s.k s.mem s'.mem r).ν i = R.ν i := by simp only [Rw]; rw [if_pos hi']
    rw [this]
    exact hC.fr.ν i hi
  · rcases hb with h | ⟨id, hl, _, h⟩
    · exact hC.fr.j b h
    · exact .inr (hC.fr.own id b hl h)
  · rcases hcl i hi with ⟨i', h1, h2, h3⟩ | h1
    · rw [h3] at hbi; exact hC.fr.own i' g h2 hbi
    · rw [h1] at hbi; cases hbi
  · obtain ⟨v, hv, hle⟩ := e2 i v' hv'
    exact leA_rep hC hM hle (hC.env i v hv)
end
end Go.Sx

/- Sx, part Q: code, loops, functions. -/
namespace Go.Sx
open Go Go.RowKit

/-- What is asked of code: closed facts on its regions. -/
def codeOK' (rd : Bool) : Code → Bool
  | .region _ ops d => regionOK ops d
  | .seq a b => codeOK' rd a && codeOK' rd b
  | .cond _ a b => codeOK' rd a && codeOK' rd b
  | .block _ b => codeOK' rd b
  | .loop b => codeOK' rd b
  | .rangeFunc _ _ _ _ => !rd
  | _ => true
/-- The same of the code of a function, or of a round. -/
abbrev codeOK (c : Code) : Bool := codeOK' false c
abbrev roundOK (c : Code) : Bool := codeOK' true c
theorem exists_least (p : Nat → Prop) : ∀ n, p n → ∃ m, p m ∧ ∀ k, k < m → ¬ p k := by
  intro n
  induction n using Nat.strongRecOn with
  | _ n ih =>
    intro h
    by_cases hx : ∃ k, k < n ∧ p k
    · obtain ⟨k, h1, h2⟩ := hx; exact ih k h1 h2
    · exact ⟨n, h, fun k hk hp => hx ⟨k, hk, hp⟩⟩
section
variable {P : Program}
/-- A loop, by a number that every round lowers. -/
theorem wp_loop_num {ro : Option Nat} {c : Code} {Q : Exit → Act → World → Prop} {a : Act} {w : World} (I : Nat → Act → World → Prop) {n : Nat} (h₀ : I n a w)
    (round : ∀ n a w, I n a w → c.wpIn (Fo ro) 0 P (Exit.then (fun a' w' => ∃ m, m < n ∧ I m a' w') Q) a w) : (Code.loop c).wpIn (Fo ro) 0 P Q a w := by
  have hl : ∀ a w, (∃ n, I n a w) → ∃ m, I m a w ∧ ∀ k, k < m → ¬ I k a w := fun a w ⟨n, h⟩ => exists_least (fun n => I n a w) n h
  let μ : Act → World → Nat := fun a w => Classical.epsilon fun m => I m a w ∧ ∀ k, k < m → ¬ I k a w
  have hμ : ∀ a w, (∃ n, I n a w) → I (μ a w) a w ∧ ∀ k, k < μ a w → ¬ I k a w := fun a w h => Classical.epsilon_spec (hl a w h)
  refine wpIn_loop (fun a w => ∃ n, I n a w) μ ⟨n, h₀⟩ fun a w h => ?_
  refine wpIn_mono (round (μ a w) a w (hμ a w h).1) fun e a' w' hq => ?_
  cases e with
  | normal =>
    obtain ⟨m, hm, hi⟩ := hq
    refine ⟨⟨m, hi⟩, ?_⟩
    have h2 := hμ a' w' ⟨m, hi⟩
    rcases Nat.lt_or_ge m (μ a' w') with h3 | h3
    · exact (h2.2 m h3 hi).elim
    · omega
  | _ => exact hq
section
variable {w w0 w' : World} {R R0 R' : Rp} {M0 : List (Option Blk)} {s : St} {a : Act}
/-- A block of no cells is one that nothing writes any more. -/
theorem Conc.addJ (hC : Conc w0 R0 M0 s R a w) {D : Nat} (h1 : D < w.heap.size) (h2 : w0.heap.size ≤ D) (h3 : ∀ id, live s.mem id → hblk (R.ν id) ≠ some D) (h4 : w.heap[D]? = some (.deferred (some []))) (h5 : ¬ R.J D) :
    Conc w0 R0 M0 s ⟨R.n, R.ν, R.I, fun b => R.J b ∨ b = D⟩ { a with defers := { target := .collected D, args := #[] } :: a.defers } w := by
  have hext : Ext w R w ⟨R.n, R.ν, R.I, fun b => R.J b ∨ b = D⟩ := ⟨Nat.le_refl _, fun _ _ => rfl, fun _ h => h, fun _ h => .inl h, fun _ _ => rfl⟩
  have hf := hC.fr
  refine ⟨⟨hf.os, hf.tape, hf.output, hf.size, hf.block, ⟨hf.ok.n, fun id b hb => RepB.ext hext (hC.live_n ⟨b, hb⟩) (fun _ _ => rfl) (hf.ok.rep id b hb), hf.ok.sep, fun id g hl hg => ?_, fun b hb => ?_, hf.ok.cell⟩, hf.kn, hf.ν, hf.i, fun b hb => ?_, hf.own⟩, hC.len, hC.ext_env hext, ?_, hC.hk⟩
  · refine ⟨(hf.ok.ij id g hl hg).1, fun h => h.elim (hf.ok.ij id g hl hg).2 fun e => ?_⟩
    subst e; exact h3 id hl hg
  · rcases hb with h | h | h
    · exact hf.ok.lt b (.inl h)
    · exact hf.ok.lt b (.inr h)
    · rw [h]; exact h1
  · rcases hb with h | h
    · exact hf.j b h
    · rw [h]; exact .inr (.inl h2)
  · obtain ⟨Ds, e1, e2, e3⟩ := hC.defers
    refine ⟨D :: Ds, by simp [e1], List.nodup_cons.2 ⟨fun hm => h5 (e3 D hm).1, e2⟩, fun D' hD => ?_⟩
    rcases List.mem_cons.1 hD with rfl | hD
    · exact ⟨.inr rfl, h2, h4⟩
    · exact ⟨.inl (e3 D' hD).1, (e3 D' hD).2⟩
/-- An object is given up, its block written. -/
theorem Conc.drop (h : Conc w0 R0 M0 s R a w) {id g : Nat} (hl : live s.mem id) (hg : w.grownBy w' (some g)) (hb : hblk (R.ν id) = some g) :
    Conc w0 R0 M0 ⟨s.k, s.env, s.mem.set id none⟩ R a w' := by
  have hrow : ∀ g', some g = some g' → ∃ id, live s.mem id ∧ hblk (R.ν id) = some g' := fun g' e => by cases e; exact ⟨id, hl, hb⟩
  have hext := h.grown_ext0 hg hrow
  have hlive : ∀ i, live (s.mem.set id none) i → i ≠ id ∧ live s.mem i := fun i hi => by
    rcases live_set hi with h2 | ⟨_, _, x, hx⟩
    · exact h2
    · cases hx
  refine ⟨⟨hg.os.trans h.fr.os, hg.tape.trans h.fr.tape, hg.output.trans h.fr.output, Nat.le_trans h.fr.size hg.size, h.frBlock hg hrow, ⟨by simp [h.fr.ok.n], ?_, ?_, ?_, ?_, h.fr.ok.cell⟩, h.fr.kn, ?_, h.fr.i, h.fr.j, ?_⟩, h.len, h.ext_env hext, h.defers.ext hext, h.hk⟩
  · intro i x hx
    have hl' := hlive i ⟨x, hx⟩
    rw [List.getElem?_set] at hx
    split at hx
    · split at hx <;> cases hx
    · refine RepB.ext hext (h.live_n ⟨x, hx⟩) (fun g' hgb => hg.block g' ((h.fr.ok.rep i x hx).blk_lt hgb) fun er => ?_) (h.fr.ok.rep i x hx)
      cases er
      exact hl'.1 (h.fr.ok.sep i id g ⟨x, hx⟩ hl hgb hb)
  · intro i j g hi hj; exact h.fr.ok.sep i j g (hlive i hi).2 (hlive j hj).2
  · intro i g hi; exact h.fr.ok.ij i g (hlive i hi).2
  · intro b hb; exact Nat.lt_of_lt_of_le (h.fr.ok.lt b hb) hg.size
  · intro i hi; exact h.fr.ν i hi
  · intro i g hi; exact h.fr.own i g (hlive i hi).2
theorem capsXV_get : ∀ (l : List (Nat × Nat)) (j : Nat), (capsXV l)[j]? = (l[j]?).map fun p => .one (.ptr p.1 p.2)
  | [], j => by simp [capsXV]
  | (i, o) :: l, 0 => by simp [capsXV]
  | (i, o) :: l, j + 1 => by simp [capsXV, capsXV_get l j]
theorem capsXV_len : ∀ (l : List (Nat × Nat)), (capsXV l).length = l.length
  | [] => rfl
  | (i, o) :: l => by simp [capsXV, capsXV_len l]
theorem putObj_grown (w : World) (g : Nat) (o : Obj) : w.grownBy (w.putObj g o) (some g) :=
  ⟨rfl, rfl, rfl, by simp, fun k _ hne => World.putObj_heap_other (fun e => hne (by rw [e]))⟩
theorem range_ok {g : Operand} {ps : Array Tmp} {as b : Code} {K : Exit → St → Prop} {Q : Exit → Act → World → Prop} (h : rangeA P (opnd s g) ps.toList as b s K) (hC : Conc w0 R0 M0 s R a w)
    (hQ : ∀ e s' R' a' w', K e s' → Conc w0 R0 M0 s' R' a' w' → Q e a' w') : (Code.rangeFunc g ps as b).wpIn (Fo none) 0 P Q a w := by
  unfold rangeA at h
  split at h
  · rename_i f caps hg
    obtain ⟨k, env, mem⟩ := s
    simp only [fN_eq, snocL_eq, lenL_eq] at h
    obtain ⟨he, hI⟩ := h
    have hr := hC.eval g
    rw [hg] at hr
    obtain ⟨cvs, hv, hs, hp⟩ := hr
    have hn : R.n = mem.length := hC.fr.ok.n
    generalize hyv : Value.func (.yield (w.heap.size + 1)) #[] #[] = yv
    refine wpIn_rangeFunc fun fn _ => ?_
    -- the world with the record, and the state
    let o1 : Obj := .deferred (some [])
    let o2 : Obj := .loop { state := .ready, pending := none, fn, tmps := a.tmps, params := ps, assign := as, body := b, defers := w.heap.size }
    have hw : ((w.alloc o1).alloc o2).heap = (w.heap.push o1).push o2 := rfl
    have hsz : ((w.alloc o1).alloc o2).heap.size = w.heap.size + 2 := by rw [hw]; simp
    have hgr : w.grownBy ((w.alloc o1).alloc o2) none := ⟨rfl, rfl, rfl, by omega, fun k hk _ => by
      rw [hw, Array.getElem?_push, if_neg (by simp; omega), Array.getElem?_push, if_neg (by omega)]⟩
    have hD : ((w.alloc o1).alloc o2).heap[w.heap.size]? = some o1 := by rw [hw, Array.getElem?_push, if_neg (by simp), Array.getElem?_push, if_pos rfl]
    have hL : ((w.alloc o1).alloc o2).heap[w.heap.size + 1]? = some o2 := by rw [hw, Array.getElem?_push, if_pos (by simp)]
    have hext := hC.grown_ext hgr (fun g e => by cases e) yv
    have C1 : Conc w0 R0 M0 ⟨k, env, mem ++ [some (.loop ps.toList as b env .ready)]⟩ (R.add yv) a ((w.alloc o1).alloc o2) :=
      hC.grow hgr mem none rfl (fun g e => by cases e) (fun g e => by subst hyv; cases e; exact .inl (Nat.le_succ _))
        ⟨w.heap.size + 1, _, by rw [Rp.add_new, hyv], hL, rfl, rfl, rfl, hC.len.symm, hC.ext_env hext, rfl, rfl⟩
    have hnl : ∀ id, live (mem ++ [some (.loop ps.toList as b env .ready)]) id → hblk ((R.add yv).ν id) ≠ some w.heap.size := fun id hl e => by
      rcases live_app hl with hl | hl
      · rw [Rp.add_old (hC.live_n hl)] at e
        obtain ⟨x, hx⟩ := hl
        have := (hC.fr.ok.rep id x hx).blk_lt e
        omega
      · rw [hl, ← hn, Rp.add_new, ← hyv] at e
        simp [hblk] at e
    have C2 := C1.addJ (D := w.heap.size) (by rw [hsz]; omega) hC.fr.size hnl hD (fun hj => by have := hC.fr.ok.lt _ (.inr hj); omega)
    have hargs : RepXs ((w.alloc o1).alloc o2) ⟨(R.add yv).n, (R.add yv).ν, (R.add yv).I, fun x => (R.add yv).J x ∨ x = w.heap.size⟩ (.one (.yld mem.length) :: capsXV caps) (#[yv] ++ cvs) := by
      refine ⟨by simp [capsXV_len, hs, Nat.add_comm], fun j x hx => ?_⟩
      cases j with
      | zero =>
        simp at hx; subst hx
        refine ⟨?_, ?_⟩
        · show mem.length < R.n + 1
          omega
        · rw [← hn]
          show _ = (R.add yv).ν R.n
          rw [Rp.add_new]
          simp [Array.getD_eq_getD_getElem?, Array.getElem?_append]
      | succ j =>
        simp only [List.getElem?_cons_succ, capsXV_get, Option.map_eq_some_iff] at hx
        obtain ⟨p, hp', rfl⟩ := hx
        have h1 := hp j p hp'
        have h2 : (#[yv] ++ cvs).getD (j + 1) undef = cvs.getD j undef := by simp [Array.getD_eq_getD_getElem?, Array.getElem?_append]
        rw [h2]
        have h3 : RepP (R.add yv) p.1 p.2 (cvs.getD j undef) := h1.ext hext
        exact h3
    refine ⟨w.heap.size + 1, [{ target := .collected w.heap.size, args := #[] }], (w.alloc o1).alloc o2, ⟨.fn (.func f) cvs, #[yv]⟩, (w.alloc o1).alloc o2, f, #[yv] ++ cvs, (w.alloc o1).alloc o2, run_enterLoop_outer fn a.tmps ps as b, ?_, fun _ _ => trivial, ?_, fun hh => (by cases hh), ?_⟩
    · simp [resolve, hv, hyv, Deferred.ofValue]
      rfl
    · have := he (#[yv] ++ cvs) ((w.alloc o1).alloc o2)
      simpa [invoke] using this
    · refine callsIn_fo.2 ((hI _ _ _ hargs C2.fr.ok).mono ?_)
      rintro e w' ⟨v, m', R', rfl, hq, hf⟩
      have C3 := C2.after hf
      unfold afterRange at hq
      split at hq
      · rename_i ps' as' b' env' p hm'
        rw [getL_eq] at hm'
        rw [setL_eq] at hq
        obtain ⟨l, r, hν, hh, _, _, _, _, _, hpd⟩ := C3.fr.ok.rep mem.length _ hm'
        have hν' : R'.ν mem.length = yv := by
          rw [hf.ν mem.length (by simp)]
          show (R.add yv).ν mem.length = yv
          rw [← hn, Rp.add_new]
        have hν2 : R'.ν mem.length = .func (.yield l) #[] #[] := hν
        rw [hν', ← hyv] at hν2
        cases hν2
        have C4 := C3.drop (w' := w'.putObj (w.heap.size + 1) (.loop { r with state := .exhausted })) ⟨_, hm'⟩ (putObj_grown _ _ _) (by rw [hν]; rfl)
        have hb : r.state ≠ .busy := by
          intro hb
          cases p with
          | ready => rw [hpd.1] at hb; cases hb
          | busy => exact hq
          | done e => cases e <;> first | (rw [hpd.1] at hb; cases hb) | exact hpd
        refine ⟨r.pending, _, run_endLoop hh hb, ?_⟩
        generalize (w'.putObj (w.heap.size + 1) (.loop { r with state := .exhausted })) = w4 at C4
        cases p with
        | ready => rw [hpd.2]; exact hQ _ _ _ _ _ hq C4
        | busy => exact hq.elim
        | done e =>
          cases e with
          | ret => rw [hpd.2]; exact wpIn_ret (hQ _ _ _ _ _ hq C4)
          | exit i => rw [hpd.2]; exact wpIn_exit (hQ _ _ _ _ _ hq C4)
          | _ => exact hpd.elim
      · exact hq.elim
  · cases h
end
theorem awp_ok (hm : P.follows .mixedOrders = true) (ro : Option Nat) {M0 : List (Option Blk)} {w0 : World} {R0 : Rp} : ∀ (c : Code) (s : St) (K : Exit → St → Prop) (Q : Exit → Act → World → Prop) (R : Rp) (a : Act) (w : World), codeOK' ro.isSome c = true → awp P c s K → Conc w0 R0 M0 s R a w →
    (∀ e s' R' a' w', K e s' → Conc w0 R0 M0 s' R' a' w' → Q e a' w') → c.wpIn (Fo ro) 0 P Q a w := by
  intro c
  induction c with
  | skip => intro s K Q R a w _ h hC hQ; exact wpIn_skip (hQ _ s R a w h hC)
  | label l => intro s K Q R a w _ h hC hQ; exact wpIn_label (hQ _ s R a w h hC)
  | region id ops draw => intro s K Q R a w hok h hC hQ; exact region_ok hm ro hok h hC fun s' R' a' w' hk hC' => hQ _ s' R' a' w' hk hC'
  | seq x y ihx ihy =>
    intro s K Q R a w hok h hC hQ
    simp only [codeOK', Bool.and_eq_true] at hok
    refine wpIn_seq (ihx s _ _ R a w hok.1 h hC fun e s' R' a' w' hk hC' => ?_)
    cases e with
    | normal => exact ihy s' K Q R' a' w' hok.2 hk hC' hQ
    | _ => exact hQ _ s' R' a' w' hk hC'
  | cond x t e iht ihe =>
    intro s K Q R a w hok h hC hQ
    simp only [codeOK', Bool.and_eq_true] at hok
    obtain ⟨b, s', hb, hk, hC'⟩ := splitB_ok h hC (hC.eval x) (fun d hd => by
      cases x with
      | tmp n => cases hd; rfl
      | _ => cases hd)
    refine wpIn_cond hb ?_
    cases b with
    | true => exact iht s' K Q R a w hok.1 hk hC' hQ
    | false => exact ihe s' K Q R a w hok.2 hk hC' hQ
  | block id b ih =>
    intro s K Q R a w hok h hC hQ
    refine wpIn_block (ih s _ _ R a w hok h hC fun e s' R' a' w' hk hC' => ?_)
    cases e with
    | exit id' =>
      simp only [Exit.inBlock]
      have hk' : (match Nat.beq id' id with
        | true => K Exit.normal s'
        | false => K (Exit.exit id') s') := hk
      cases hq : Nat.beq id' id with
      | true =>
        rw [hq] at hk'
        rw [if_pos (Nat.eq_of_beq_eq_true hq)]
        exact hQ _ s' R' a' w' hk' hC'
      | false =>
        rw [hq] at hk'
        rw [if_neg (fun e => by subst e; rw [Nat.beq_refl] at hq; cases hq)]
        exact hQ _ s' R' a' w' hk' hC'
    | _ => exact hQ _ s' R' a' w' hk hC'
  | loop b ih =>
    intro s K Q R a w hok h hC hQ
    obtain ⟨Inv, n, s', hi, hl, round⟩ := h
    obtain ⟨R', hC'⟩ := Le_ok hl hC
    refine wp_loop_num (ro := ro) (fun n a w => ∃ s R, Inv n s ∧ Conc w0 R0 M0 s R a w) (n := n) ⟨s', R', hi, hC'⟩ ?_
    rintro m a1 w1 ⟨s1, R1, hi1, hC1⟩
    refine ih s1 _ _ R1 a1 w1 hok (round m s1 hi1) hC1 fun e t R2 a2 w2 hk hC2 => ?_
    cases e with
    | normal =>
      obtain ⟨m', s3, hlt, hi3, hl3⟩ := hk
      obtain ⟨R3, hC3⟩ := Le_ok hl3 hC2
      exact ⟨m', hlt, s3, R3, hi3, hC3⟩
    | _ => exact hQ _ t R2 a2 w2 hk hC2
  | exit id => intro s K Q R a w _ h hC hQ; exact wpIn_exit (hQ _ s R a w h hC)
  | ret => intro s K Q R a w _ h hC hQ; exact wpIn_ret (hQ _ s R a w h hC)
  | goto l => intro s K Q R a w _ h; exact h.elim
  | scope b ih => intro s K Q R a w _ h; exact h.elim
  | rangeFunc f ps as b _ _ =>
    intro s K Q R a w hok h hC hQ
    cases ro with
    | some l => simp [codeOK'] at hok
    | none => exact range_ok h hC hQ
  | refuse y => intro s K Q R a w _ h; exact h.elim

/-! ### The marks, at a function's end -/
section
variable {w w0 : World} {R R0 : Rp} {M0 : List (Option Blk)} {s : St} {a : Act} {D : Nat}
theorem RepC.shut (hD : w.heap[D]? = some (.deferred (some []))) {S : Nat → Prop} {k : CK} {c : Cell} {v : Value} (h : RepC w S k c v) : RepC (w.putObj D (.deferred none)) S k c v := by
  induction h with
  | int k n => exact .int k n
  | bool b => exact .bool b
  | str s => exact .str s
  | fn f => exact .fn f
  | sl ks rows a cap cv hcap hlen ha hc ih =>
    refine .sl ks rows a cap cv hcap hlen (fun hne => ?_) ih
    obtain ⟨ad, e, hs, hcell⟩ := ha hne
    refine ⟨ad, e, hs, fun i r f c k h1 h2 h3 => ?_⟩
    have h4 := hcell i r f c k h1 h2 h3
    refine (World.cell?_of_block (World.putObj_heap_other fun e => ?_)).trans h4
    rw [World.cell?, e, hD] at h4
    cases h4
theorem RepS.shut (hD : w.heap[D]? = some (.deferred (some []))) {v : SV} {u : Value} (h : RepS w R v u) : RepS (w.putObj D (.deferred none)) R v u := by
  cases v with
  | lst al ks a => exact RepC.shut hD h
  | lel al ks a i f =>
    obtain ⟨ad, cap, hc, hi, hv⟩ := h
    exact ⟨ad, cap, RepC.shut hD hc, hi, hv⟩
  | _ => exact h
theorem RepL.shut (hD : w.heap[D]? = some (.deferred (some []))) {l : List SV} {cs : Array Value} (h : RepL w R l cs) : RepL (w.putObj D (.deferred none)) R l cs := ⟨h.1, fun j v hv => RepS.shut hD (h.2 j v hv)⟩
theorem RepX.shut (hD : w.heap[D]? = some (.deferred (some []))) {v : XV} {u : Value} (h : RepX w R v u) : RepX (w.putObj D (.deferred none)) R v u := by
  cases v with
  | one s => exact RepS.shut hD h
  | agg l => obtain ⟨cs, e, hl⟩ := h; exact ⟨cs, e, RepL.shut hD hl⟩
theorem RepA.shut (hD : w.heap[D]? = some (.deferred (some []))) {v : AV} {u : Value} (h : RepA w R v u) : RepA (w.putObj D (.deferred none)) R v u := by
  cases v with
  | x x => exact RepX.shut hD h
  | tup l => obtain ⟨vs, e, h1, h2⟩ := h; exact ⟨vs, e, h1, fun j x hx => RepX.shut hD (h2 j x hx)⟩
theorem RepB.shut (hD : w.heap[D]? = some (.deferred (some []))) {id : Nat} {b : Blk} (hne : hblk (R.ν id) ≠ some D) (h : RepB w R id b) : RepB (w.putObj D (.deferred none)) R id b := by
  have hb : ∀ g, hblk (R.ν id) = some g → (w.putObj D (.deferred none)).heap[g]? = w.heap[g]? := fun g hg => World.putObj_heap_other fun e => hne (by rw [hg, e])
  cases b with
  | box t cs =>
    obtain ⟨g, vals, hv, hh, hl⟩ := h
    exact ⟨g, vals, hv, (hb g (by rw [hv]; rfl)).trans hh, RepL.shut hD hl⟩
  | row e al ks a =>
    obtain ⟨xs, ho, hlen, hc⟩ := h
    refine ⟨xs, ownsRow_of_heap ho hb, hlen, fun i r f c k h1 h2 h3 => ?_⟩
    obtain ⟨v, hx, hv⟩ := hc i r f c k h1 h2 h3
    exact ⟨v, hx, RepC.shut hD hv⟩
  | loop ps as b env p =>
    obtain ⟨l, r, hv, hh, h1, h2, h3, h4, h5, h6⟩ := h
    exact ⟨l, r, hv, (hb l (by rw [hv]; rfl)).trans hh, h1, h2, h3, h4, fun j x hx => RepA.shut hD (h5 j x hx), h6⟩
theorem Conc.shut {ds : List Deferred} (hC : Conc w0 R0 M0 s R a w) (hd : a.defers = { target := .collected D, args := #[] } :: ds) :
    w.heap[D]? = some (.deferred (some [])) ∧ Conc w0 R0 M0 s R { a with defers := ds } (w.putObj D (.deferred none)) := by
  obtain ⟨Ds, e1, e2, e3⟩ := hC.defers
  cases Ds with
  | nil => rw [hd] at e1; cases e1
  | cons D' Ds =>
    rw [hd] at e1
    simp only [List.map_cons, List.cons.injEq, Deferred.mk.injEq, Target.collected.injEq, and_true] at e1
    obtain ⟨e4, e5⟩ := e1
    subst e4
    obtain ⟨h1, h2, h3⟩ := e3 D (List.mem_cons_self ..)
    have hf := hC.fr
    refine ⟨h3, ⟨⟨hf.os, hf.tape, hf.output, by simpa using hf.size, fun b hb hn => (World.putObj_heap_other fun e => ?_).trans (hf.block b hb hn), ⟨hf.ok.n, fun id b hb => RepB.shut h3 (fun e => (hf.ok.ij id D ⟨b, hb⟩ e).2 h1) (hf.ok.rep id b hb), hf.ok.sep, hf.ok.ij, fun b hb => by simpa using hf.ok.lt b hb, hf.ok.cell⟩, hf.kn, hf.ν, hf.i, hf.j, hf.own⟩, hC.len, fun i v hv => RepA.shut h3 (hC.env i v hv), ⟨Ds, e5, (List.nodup_cons.1 e2).2, fun D2 hD2 => ?_⟩, hC.hk⟩⟩
    · omega
    · obtain ⟨k1, k2, k3⟩ := e3 D2 (List.mem_cons_of_mem _ hD2)
      refine ⟨k1, k2, (World.putObj_heap_other fun e => ?_).trans k3⟩
      subst e
      exact (List.nodup_cons.1 e2).1 hD2
theorem leaves_ok {fn : Func} {Rr : Ending → World → Prop} : ∀ (ds : List Deferred) (a : Act) (w : World), a.defers = ds → Conc w0 R0 M0 s R a w →
    (∀ (a' : Act) (w' : World), a'.tmps = a.tmps → Conc w0 R0 M0 s R a' w' → ∃ v, (results fn a'.tmps).run P w' = .ok v w' ∧ Rr (.returned v) w') → LeavesInM (Fo none) 0 P fn a.tmps Rr ds .returning w
  | [], a, w, _, hC, h => h a w rfl hC
  | d :: ds, a, w, hd, hC, h => by
    obtain ⟨Ds, e1, _, _⟩ := hC.defers
    cases Ds with
    | nil => rw [hd] at e1; cases e1
    | cons D Ds =>
      have hdD : d = { target := .collected D, args := #[] } := by rw [hd] at e1; exact (List.cons.inj e1).1
      subst hdD
      obtain ⟨h1, h2⟩ := hC.shut hd
      refine ⟨fun e => (by cases e), .inl ⟨D, _, rfl, run_takeDeferred h1, ?_⟩⟩
      exact leaves_ok ds { a with defers := ds } _ rfl h2 (fun a' w' ht hC' => h a' w' ht hC')
end
/-! ### Functions -/
section
variable {w w0 : World} {R R0 : Rp} {M0 : List (Option Blk)} {s : St} {a : Act}
theorem Conc.resV (hC : Conc w0 R0 M0 s R a w) {r : ResultVar} {x : XV} (h : resV P s r = some x) : ∃ v, (match r with
    | .tmp t => (pure (a.tmps.getD t undef) : Sem Value)
    | .cell ad t => do loadVar t (← asAddr (a.tmps.getD ad undef))).run P w = .ok v w ∧ RepX w R x v := by
  unfold Go.Sx.resV at h
  split at h
  · rename_i t
    split at h
    · rename_i v hv
      cases h
      have := hC.get t
      rw [hv] at this
      exact ⟨_, rfl, this⟩
    · cases h
  · rename_i ad t
    split at h
    · rename_i id o n hg hn ht
      split at h
      · rename_i bt cs hb
        split at h
        · split at h
          · rename_i sv hv
            cases h
            rw [getL_eq] at hv
            have hx := hC.get ad
            rw [hg] at hx
            obtain ⟨_, g, hgν, hxe⟩ := hx
            obtain ⟨v, hcell, hr⟩ := box_cell (hC.box hb) hgν hv
            refine ⟨v, ?_, hr⟩
            have := run_loadVar_one (P := P) ht _ v hcell w (Same.refl w)
            simp only [Instr.loadAt, Instr.sureAddr, Sem.run_bind, Sem.run_pure, Result.andThen_ok] at this
            simp only [hxe, asAddr, Sem.run_bind, Sem.run_pure, Result.andThen_ok, this]
          · cases h
        · cases h
      · cases h
    · rename_i id o n0 n hg hn ht
      split at h
      · rename_i bt cs hb
        split at h
        · rename_i hq
          cases h
          have hx := hC.get ad
          rw [hg] at hx
          have hl : loadA P s t (.x (.one (.ptr id o))) (fun av => av = .x (.agg (takeL (dropL cs o) n))) := by
            unfold loadA
            rw [ht]
            simp only [hb]
            rw [if_pos hq]
            trivial
          obtain ⟨v, av, hk, hr, hrun⟩ := loadA_ok hl hC hx
          rw [hk] at hr
          obtain ⟨_, g, hgν, hxe⟩ := hx
          refine ⟨v, ?_, hr⟩
          have := hrun w (Same.refl w)
          rw [hxe] at this
          simp only [Instr.loadAt, Instr.sureAddr, Sem.run_bind, Sem.run_pure, Result.andThen_ok] at this
          simp only [hxe, asAddr, Sem.run_bind, Sem.run_pure, Result.andThen_ok, this]
        · cases h
      · cases h
    · cases h
theorem Conc.resVs (hC : Conc w0 R0 M0 s R a w) : ∀ (l : List ResultVar) (xs : List XV), resVs P s l = some xs → ∃ vs : List Value, (l.mapM fun (x : ResultVar) => match x with
    | .tmp t => (pure (a.tmps.getD t undef) : Sem Value)
    | .cell ad t => do loadVar t (← asAddr (a.tmps.getD ad undef))).run P w = .ok vs w ∧ vs.length = xs.length ∧ ∀ (j : Nat) x, xs[j]? = some x → ∃ v, vs[j]? = some v ∧ RepX w R x v
  | [], xs, h => by cases h; exact ⟨[], by simp, rfl, fun j x h => by simp at h⟩
  | r :: l, xs, h => by
    unfold Go.Sx.resVs at h
    split at h
    · rename_i x xs' hx hxs
      cases h
      obtain ⟨v, h1, h2⟩ := hC.resV hx
      obtain ⟨vs, h3, h4, h5⟩ := hC.resVs l xs' hxs
      refine ⟨v :: vs, ?_, by simp [h4], fun j y hy => ?_⟩
      · have e1 : ∀ (m : Sem Value) (g : Value → World → Result (List Value)), m.run P w = .ok v w → (m.run P w).andThen g = g v w := fun m g h => by rw [h]; rfl
        rw [List.mapM_cons, Sem.run_bind]
        refine (e1 _ _ h1).trans ?_
        simp only [Sem.run_bind, h3, Result.andThen_ok, Sem.run_pure]
      · cases j with
        | zero => simp at hy; subst hy; exact ⟨v, rfl, h2⟩
        | succ j => simpa using h5 j y (by simpa using hy)
    · cases h
theorem xsA_get : ∀ (l : List XV) (j : Nat), (xsA l)[j]? = (l[j]?).map .x
  | [], j => by simp [xsA]
  | v :: l, 0 => by simp [xsA]
  | v :: l, j + 1 => by simp [xsA, xsA_get l j]
theorem xsA_len : ∀ (l : List XV), (xsA l).length = l.length
  | [] => rfl
  | v :: l => by simp [xsA, xsA_len l]
theorem anysA_get : ∀ (n j : Nat) (x : AV), (anysA n)[j]? = some x → x = .any
  | 0, j, x, h => by simp [anysA] at h
  | n + 1, 0, x, h => by simp [anysA] at h; exact h.symm
  | n + 1, j + 1, x, h => anysA_get n j x (by simpa [anysA] using h)
theorem anysA_len : ∀ (n : Nat), (anysA n).length = n
  | 0 => rfl
  | n + 1 => by simp [anysA, anysA_len n]
theorem somes_eq : ∀ (l : List Blk), somes l = l.map some
  | [] => rfl
  | b :: l => by simp [somes, somes_eq l]
/-- The state at a function's beginning, with these objects. -/
def startM (nt : Nat) (args : List XV) (m : List (Option Blk)) : St := ⟨lenL m, xsA args ++ anysA (nt - lenL args), m⟩
theorem conc_start {nt : Nat} {args : List XV} {M : List (Option Blk)} {w : World} {R : Rp} {vs : Array Value} (hargs : RepXs w R args vs) (hmem : MemOK w R M) :
    Conc w R M (startM nt args M) R { tmps := vs ++ Array.replicate (nt - vs.size) undef, defers := [] } w := by
  refine ⟨⟨rfl, rfl, rfl, Nat.le_refl _, fun _ _ _ => rfl, hmem, by rw [hmem.n]; exact Nat.le_refl _, fun _ _ => rfl, fun _ => Iff.rfl, fun _ h => .inl h, fun id g hl hg => .inr ⟨id, hl, hg⟩⟩, ?_, fun i v hv => ?_, Marks.nil .., by simp only [startM, lenL_eq]⟩
  · simp only [startM, List.length_append, xsA_len, anysA_len, lenL_eq, Array.size_append, Array.size_replicate, hargs.1]
  · simp only [startM] at hv
    rw [List.getElem?_append, xsA_len] at hv
    split at hv
    · rename_i hi
      rw [xsA_get] at hv
      simp only [Option.map_eq_some_iff] at hv
      obtain ⟨x, hx, rfl⟩ := hv
      have := hargs.2 i x hx
      rw [Array.getD_eq_getD_getElem?] at this ⊢
      rw [Array.getElem?_append, if_pos (by rw [hargs.1]; exact hi)]
      exact this
    · rw [anysA_get _ _ _ hv]; exact RepA.any _ _ _
theorem calls_of_awp (hm : P.follows .mixedOrders = true) {f : FuncId} {fn : Func} {c : Code} (hf : P.funcs[f]? = some fn) (hb : fn.body = some c) (hok : codeOK c = true)
    {args : List XV} {M : List (Option Blk)} {K : Exit → St → Prop} (h : awp P c (startM fn.ntmps args M) K) {w : World} {R : Rp} {vs : Array Value} (hargs : RepXs w R args vs) (hmem : MemOK w R M) {Rr : Ending → World → Prop}
    (hfin : ∀ e s' R' a' w', K e s' → Conc w R M s' R' a' w' → (e = .normal ∨ e = .ret) ∧ ∃ v, (results fn a'.tmps).run P w' = .ok v w' ∧ Rr (.returned v) w') : Calls P f vs w Rr := by
  refine callsIn_fo (ro := none) (n := 0).1 (callsIn_of_wp_marks hf hb trivial ?_)
  refine awp_ok hm none c _ _ _ R _ w hok h (conc_start hargs hmem) fun e s' R' a' w' hk hC' => ?_
  have fin := leaves_ok (P := P) (fn := fn) (Rr := Rr) a'.defers a' w' rfl hC' fun a2 w2 _ hC2 => (hfin e s' R' a2 w2 hk hC2).2
  rcases (hfin e s' R' a' w' hk hC').1 with rfl | rfl
  · exact fin
  · exact fin
theorem isem_of_awp (hm : P.follows .mixedOrders = true) {f : FuncId} {fn : Func} {c : Code} (hf : P.funcs[f]? = some fn) (hb : fn.body = some c) (hok : codeOK c = true) {nt : Nat} (hnt : fn.ntmps = nt) (hres : fn.results.toList = [])
    {args : List XV} {M : List (Option Blk)} {Q : List (Option Blk) → Prop} (h : awp P c (startM nt args M) fun e s => match e with
      | .normal => Q s.mem
      | .ret => Q s.mem
      | _ => False) : ISem P f args M Q := by
  subst hnt
  intro w R vs hargs hmem
  refine calls_of_awp hm hf hb hok h hargs hmem fun e s' R' a' w' hk hC' => ?_
  have hq : (e = .normal ∨ e = .ret) ∧ Q s'.mem := by
    cases e <;> first | exact ⟨.inl rfl, hk⟩ | exact ⟨.inr rfl, hk⟩ | exact hk.elim
  refine ⟨hq.1, .tuple #[], ?_, _, s'.mem, R', rfl, hq.2, hC'.fr⟩
  have hr : fn.results = #[] := Array.toList_inj.1 (by simpa using hres)
  simp [results, hr]
/-- A round's end, for the record. -/
def roundEnd (id : Nat) (Q : Bool → List (Option Blk) → Prop) (e : Exit) (s : St) : Prop :=
  match getL s.mem id with
  | some (some (.loop ps as b env .busy)) => match e with
    | .normal => setL s.mem id (some (.loop ps as b env .ready)) fun m => Q true m
    | .ret => setL s.mem id (some (.loop ps as b env (.done .ret))) fun m => Q false m
    | .exit i => setL s.mem id (some (.loop ps as b env (.done (.exit i)))) fun m => Q false m
    | _ => False
  | _ => False
def setPs : List AV → List Nat → List XV → (List AV → Prop) → Prop
  | env, p :: ps, x :: xs, K => fA (.x x) fun x => setL env p x fun env => setPs env ps xs K
  | env, [], [], K => K env
  | _, _, _, _ => False
end
end
end Go.Sx

/- Sx, part S: rounds; contracts of functions, out of 'awp'. -/
namespace Go.Sx
open Go Go.RowKit
section
variable {P : Program}
section
variable {w w0 : World} {R R0 : Rp} {M0 : List (Option Blk)} {s : St} {a : Act}
theorem setPs_ok : ∀ (ps : List Nat) (xs : List XV) (env : List AV) (K : List AV → Prop) (tmps : Array Value) (vs : List Value), setPs env ps xs K → env.length = tmps.size → (∀ (j : Nat) x, env[j]? = some x → RepA w R x (tmps.getD j undef)) →
    vs.length = xs.length → (∀ (j : Nat) x, xs[j]? = some x → ∃ v, vs[j]? = some v ∧ RepX w R x v) →
    ps.length = xs.length ∧ ∃ env', K env' ∧ env'.length = ((ps.zip vs).foldl (fun tmps (t, a) => tmps.setIfInBounds t a) tmps).size ∧ ∀ (j : Nat) x, env'[j]? = some x → RepA w R x (((ps.zip vs).foldl (fun tmps (t, a) => tmps.setIfInBounds t a) tmps).getD j undef)
  | [], [], env, K, tmps, vs, h, hl, hr, hv, _ => ⟨rfl, env, h, by simpa using hl, by simpa using hr⟩
  | p :: ps, x :: xs, env, K, tmps, [], h, hl, hr, hv, _ => by simp at hv
  | p :: ps, x :: xs, env, K, tmps, v :: vs, h, hl, hr, hv, hx => by
    simp only [setPs, fA_eq, setL_eq] at h
    obtain ⟨v', hv', hr'⟩ := hx 0 x rfl
    simp at hv'; subst hv'
    have := setPs_ok ps xs (env.set p (.x x)) K (tmps.setIfInBounds p v) vs h (by simpa using hl) (fun j y hy => by
      rw [List.getElem?_set] at hy
      rw [Array.getD_eq_getD_getElem?, Array.getElem?_setIfInBounds]
      split at hy
      · rename_i hp
        subst hp
        split at hy
        · rename_i hlt
          cases hy
          have hlt' : p < tmps.size := by rw [← hl]; exact hlt
          simp [hlt']
          exact hr'
        · cases hy
      · rename_i hp
        rw [if_neg hp]
        have := hr j y hy
        rwa [Array.getD_eq_getD_getElem?] at this) (by simpa using hv) (fun j y hy => by simpa using hx (j + 1) y (by simpa using hy))
    refine ⟨by simp [this.1], ?_⟩
    simpa using this.2
  | [], _ :: _, _, _, _, _, h, _, _, _, _ => h.elim
  | _ :: _, [], _, _, _, _, h, _, _, _, _ => h.elim
theorem Conc.setLoop (hC : Conc w0 R0 M0 s R a w) {id l : Nat} {ps : List Nat} {as b : Code} {env : List AV} {p p' : LP} (hb : s.mem[id]? = some (some (.loop ps as b env p))) (hν : R.ν id = .func (.yield l) #[] #[]) :
    ∃ r, w.heap[l]? = some (.loop r) ∧ pendOK p r ∧ ∀ (st : LoopState) (pd : Option Code), pendOK p' { r with state := st, pending := pd } → Conc w0 R0 M0 ⟨s.k, s.env, s.mem.set id (some (.loop ps as b env p'))⟩ R a (w.putObj l (.loop { r with state := st, pending := pd })) := by
  obtain ⟨l', r, hv, hh, h1, h2, h3, h4, h5, h6⟩ := hC.fr.ok.rep id _ hb
  rw [hν] at hv
  simp only [Value.func.injEq, Fn.yield.injEq, and_true] at hv
  subst hv
  refine ⟨r, hh, h6, fun st pd hp => ?_⟩
  have hl : live s.mem id := ⟨_, hb⟩
  have hrow : ∀ g, some l = some g → hblk (R.ν id) = some g := fun g e => by cases e; rw [hν]; rfl
  have hext := hC.grown_ext0 (putObj_grown w l (.loop { r with state := st, pending := pd })) (fun g e => ⟨id, hl, hrow g e⟩)
  exact hC.write hl (putObj_grown _ _ _) hrow ⟨l, _, hν, World.putObj_heap_same (Array.getElem?_eq_some_iff.1 hh).1, h1, h2, h3, h4, fun j x hx => (h5 j x hx).ext hext, hp⟩
theorem rsem_of_awp (hm : P.follows .mixedOrders = true) {id : Nat} {args : List XV} {M : List (Option Blk)} {Q : Bool → List (Option Blk) → Prop} {ps : List Nat} {as body : Code} {env : List AV}
    (hb : getL M id = some (some (.loop ps as body env .ready))) (hok : (roundOK as && roundOK body) = true)
    (h : setPs env ps args fun env' => awp P as ⟨lenL M, env', M⟩ fun e s => match e with
      | .normal => match s with
        | ⟨k, env1, mem⟩ => match getL mem id with
          | some (some (.loop ps1 as1 b1 env2 .ready)) => setL mem id (some (.loop ps1 as1 b1 env2 .busy)) fun mem => awp P body ⟨k, env1, mem⟩ (roundEnd id Q)
          | _ => False
      | _ => False) : RSem P id args M Q := by
  intro w R vs l hargs hmem hid hν
  rw [getL_eq] at hb
  simp only [Bool.and_eq_true] at hok
  obtain ⟨l', r, hv, hh, hps, has, hbd, hts, hrep, hpd⟩ := hmem.rep id _ hb
  rw [hν] at hv
  simp only [Value.func.injEq, Fn.yield.injEq, and_true] at hv
  subst hv
  obtain ⟨hpl, env', hk, hel, her⟩ := setPs_ok (w := w) (R := R) ps args env _ r.tmps vs.toList h hts.symm hrep (by simpa using hargs.1) (fun j x hx => by
    have h1 := hargs.2 j x hx
    have hlt : j < vs.size := by rw [hargs.1]; exact (List.getElem?_eq_some_iff.1 hx).1
    exact ⟨vs[j], by simp [hlt], by simpa [Array.getD_eq_getD_getElem?, hlt] using h1⟩)
  have hzip : (r.params.zip vs).foldl (fun tmps (t, a) => tmps.setIfInBounds t a) r.tmps = (ps.zip vs.toList).foldl (fun tmps (t, a) => tmps.setIfInBounds t a) r.tmps := by
    rw [← Array.foldl_toList, Array.toList_zip, hps]
  refine ⟨r, hh, by rw [hargs.1, ← hpl, ← hps]; simp, ?_⟩
  rw [hzip, has, hbd]
  have hC : Conc w R M ⟨lenL M, env', M⟩ R { tmps := (ps.zip vs.toList).foldl (fun tmps (t, a) => tmps.setIfInBounds t a) r.tmps, defers := [] } w :=
    ⟨⟨rfl, rfl, rfl, Nat.le_refl _, fun _ _ _ => rfl, hmem, by rw [hmem.n]; exact Nat.le_refl _, fun _ _ => rfl, fun _ => Iff.rfl, fun _ h => .inl h, fun i g hl hg => .inr ⟨i, hl, hg⟩⟩, hel, her, Marks.nil .., by simp only [lenL_eq]⟩
  refine roundIn_of_wpIn (F := Fo none) trivial ?_
  refine awp_ok hm (some l) as _ _ _ R _ w hok.1 hk hC fun e s1 R1 a1 w1 hk1 hC1 => ?_
  have hM : id < M.length := (List.getElem?_eq_some_iff.1 hb).1
  have hν1 : ∀ {s1 : St} {R1 : Rp} {a1 : Act} {w1 : World}, Conc w R M s1 R1 a1 w1 → R1.ν id = .func (.yield l) #[] #[] := fun hC1 => (hC1.fr.ν id hM).trans hν
  have hend : ∀ e s2 R2 a2 w2, roundEnd id Q e s2 → Conc w R M s2 R2 a2 w2 → roundPost P l (fun e w' => ∃ b m' R', e = .returned (.bool b) ∧ Q b m' ∧ Fr w R M w' R' m') e a2 w2 := by
    intro e s2 R2 a2 w2 hk2 hC2
    unfold roundEnd at hk2
    split at hk2
    · rename_i ps2 as2 b2 env2 hm2
      rw [getL_eq] at hm2
      cases e with
      | normal =>
        simp only [setL_eq] at hk2
        obtain ⟨r2, hh2, _, hC3⟩ := hC2.setLoop (p' := .ready) hm2 (hν1 hC2)
        exact ⟨_, _, run_endRound none hh2, true, _, R2, rfl, hk2, (hC3 .ready none ⟨rfl, rfl⟩).fr⟩
      | ret =>
        simp only [setL_eq] at hk2
        obtain ⟨r2, hh2, _, hC3⟩ := hC2.setLoop (p' := .done .ret) hm2 (hν1 hC2)
        exact ⟨_, _, run_endRound (some .ret) hh2, false, _, R2, rfl, hk2, (hC3 .done (some .ret) ⟨rfl, rfl⟩).fr⟩
      | exit i =>
        simp only [setL_eq] at hk2
        obtain ⟨r2, hh2, _, hC3⟩ := hC2.setLoop (p' := .done (.exit i)) hm2 (hν1 hC2)
        exact ⟨_, _, run_endRound (some (.exit i)) hh2, false, _, R2, rfl, hk2, (hC3 .done (some (.exit i)) ⟨rfl, rfl⟩).fr⟩
      | _ => exact hk2.elim
    · exact hk2.elim
  cases e with
  | normal =>
    obtain ⟨k1, env1, mem1⟩ := s1
    simp only at hk1
    split at hk1
    · rename_i ps1 as1 b1 env2 hm1
      rw [getL_eq] at hm1
      rw [setL_eq] at hk1
      obtain ⟨r1, hh1, hp1, hC2⟩ := hC1.setLoop (p' := .busy) hm1 (hν1 hC1)
      refine ⟨_, run_beginRound hh1 hp1.1, ?_⟩
      exact awp_ok hm (some l) body _ _ _ R1 _ _ hok.2 hk1 (hC2 .busy r1.pending rfl) hend
    · exact hk1.elim
  | _ => exact hk1.elim
theorem startSt_eq (nt : Nat) (args : List XV) (m : List Blk) : startSt nt args m = startM nt args (m.map some) := by simp [startSt, startM, somes_eq, lenL_eq]
theorem hspec_of_awp (hm : P.follows .mixedOrders = true) {f : FuncId} {fn : Func} {c : Code} (hf : P.funcs[f]? = some fn) (hb : fn.body = some c) (he : EntersF P f) (hok : codeOK c = true) {nt : Nat} (hnt : fn.ntmps = nt) {res : List ResultVar} (hres : fn.results.toList = res)
    {args : List XV} {m : List Blk} {Rs : AV → List (Option Blk) → Prop} (h : awp P c (startSt nt args m) (atEnd P res Rs)) : HSpec P f args m Rs := by
  subst hnt hres
  intro w R vs hargs hmem
  rw [startSt_eq] at h
  refine .inl ⟨he vs w, calls_of_awp hm hf hb hok h hargs hmem fun e s' R' a' w' hk hC' => ?_⟩
  have fin : EndVC P fn.results.toList Rs s' → ∃ v, (results fn a'.tmps).run P w' = .ok v w' ∧ (∃ v' r m' R', Ending.returned v = .returned v' ∧ Rs r m' ∧ Fr w R (m.map some) w' R' m' ∧ RepA w' R' r v') := by
    rintro ⟨xs, hxs, r, m', hrs, hle⟩
    obtain ⟨us, h1, h2, h3⟩ := hC'.resVs _ _ hxs
    have hrun : (results fn a'.tmps).run P w' = .ok (if h : us.toArray.size = 1 then us.toArray[0] else .tuple us.toArray) w' := by
      have e2 : ∀ (m : Sem (List Value)) (g1 : List Value → World → Result (Array Value)) (g2 : Array Value → World → Result Value), m.run P w' = .ok us w' → ((m.run P w').andThen g1).andThen g2 = (g1 us w').andThen g2 := fun m g1 g2 h => by rw [h]; rfl
      unfold results
      rw [Sem.run_bind, Array.mapM_eq_mapM_toList, Sem.run_map]
      exact e2 _ _ _ h1
    refine ⟨_, hrun, ?_⟩
    have hrep : RepA w' R' (resA xs) (if h : us.toArray.size = 1 then us.toArray[0] else .tuple us.toArray) := by
      have hX : RepXs w' R' xs us.toArray := ⟨by simpa using h2, fun j x hx => by
        obtain ⟨v, hv, hr⟩ := h3 j x hx
        simp only [Array.getD_eq_getD_getElem?, List.getElem?_toArray, hv, Option.getD_some]
        exact hr⟩
      by_cases hl : us.length = 1
      · rw [dif_pos (by simpa using hl)]
        have hxl : xs.length = 1 := by omega
        match xs, us, hxl, hl, h3 with
        | [x], [u], _, _, h3 =>
          obtain ⟨v, hv, hr⟩ := h3 0 x rfl
          simp at hv; subst hv
          exact hr
      · rw [dif_neg (by simpa using hl)]
        have hxl : xs.length ≠ 1 := by omega
        match xs, hxl, hX with
        | [], _, hX => exact ⟨_, rfl, hX⟩
        | _ :: _ :: _, _, hX => exact ⟨_, rfl, hX⟩
    have hC1 : Conc w R (m.map some) ⟨s'.k, [resA xs], s'.mem⟩ R' ⟨#[if h : us.toArray.size = 1 then us.toArray[0] else .tuple us.toArray], []⟩ w' := by
      refine ⟨hC'.fr, rfl, fun i v hv => ?_, Marks.nil .., hC'.hk⟩
      cases i with
      | zero => simp at hv; subst hv; exact hrep
      | succ i => simp at hv
    obtain ⟨R2, hC2⟩ := Le_ok hle hC1
    exact ⟨_, r, m', R2, rfl, hrs, hC2.fr, hC2.env 0 r rfl⟩
  cases e with
  | normal => exact ⟨.inl rfl, fin hk⟩
  | ret => exact ⟨.inr rfl, fin hk⟩
  | _ => exact hk.elim
end
end
end Go.Sx
