import Derived.Test.YtmhkphkikmkoiaaGreatDoorXc
import Derived.Shelf.Abstract
namespace Go.Sx
open Go Go.Proofs
theorem spec_of {P : Program} (hm : P.follows .mixedOrders = true) {f : FuncId} {fn : Func} (hf : P.funcs[f]? = some fn) {c : Code} (hb : fn.body = some c) (hname : (fn.name == "runtime.NumGoroutine") = false) {O : List (Nat × RO)} (hok : codeOK O c = true) {nt : Nat} (hnt : fn.ntmps = nt) {res : List ResultVar} (hres : fn.results.toList = res)
  {args : List XV} {m : List Blk} {Rs : AV → List (Option Blk) → Prop} (h : awp P O c (startSt nt args m) (atEnd P res Rs)) : HSpec P f args m Rs := hspec_of_awp hm O hf hb (enters_of hf hname hb) hok hnt hres h
noncomputable def bodyOf (f : Func) : Code := match f.body with | some c => c | none => .skip
abbrev I (n : Int) : XV := .one (.int .i64 n)
def setsE : List AV → List (Nat × AV) → List AV
 | l, [] => l
 | l, (n, v) :: r => setsE (l.set n v) r
def envA (n : Nat) (l : List (Nat × AV)) : List AV := setsE (anysA n) l
theorem CallVC.pure {P : Program} {f : FuncId} {args : List AV} {s : St} {K : AV → St → Prop} {args' : List XV} {r : AV} (ha : argsX s [] args = some args') (h : PSpec P f args' r) (k : afterCall s (lendsA [] args || lendsB s [] []) [] r [] K) : CallVC P f args s K :=
 CallVC.mk [] _ args' [] ha rfl rfl h fun r' m' ⟨h1, h2⟩ => by subst h1 h2; exact k
theorem CallVC0.pure {P : Program} {f : FuncId} {args : List AV} {mm : Memo} {fl : List Nat} {s : St} {K : AV → St → Prop} {args' : List XV} {r : AV} (ha : argsX s [] args = some args') (h : PSpec P f args' r) (k : afterCall s (lendsA [] args || lendsB s [] []) [] r [] K) : CallVC0 P f args mm fl s K :=
 CallVC0.mk _ args' ha h fun r' m' ⟨h1, h2⟩ => by subst h1 h2; exact k
abbrev xP (p : Prop) [d : Decidable p] : AV := .x (.one (.prp p d))
def i64s (xs : List Int) : Arr := xs.map fun x => [.int x]
theorem i64s_len (xs : List Int) : (i64s xs).length = xs.length := by simp [i64s]
theorem i64s_get (xs : List Int) (k : Nat) : rI (i64s xs) k 0 = xs.getD k 0 := by
 simp only [rI, cellAt, i64s, List.getD_eq_getElem?_getD, List.getElem?_map]
 cases xs[k]? <;> simp [Cell.toInt]
theorem i64s_snoc (xs : List Int) (x : Int) : i64s (xs ++ [x]) = i64s xs ++ [[.int x]] := by simp [i64s]
theorem map_rI {α : Type} (f : α → List Cell) (d : α) (l : List α) (i k : Nat) (h : ((f d).getD k (.int 0)).toInt = 0) : rI (l.map f) i k = ((f (l.getD i d)).getD k (.int 0)).toInt := by
 simp only [rI, cellAt, List.getD_eq_getElem?_getD, List.getElem?_map]
 cases hx : l[i]? with
 | none =>
  simp only [Option.map_none, Option.getD_none]
  simpa [List.getD_eq_getElem?_getD, Cell.toInt] using h.symm
 | some x => simp only [Option.map_some, Option.getD_some]
theorem map_rA {α : Type} (f : α → List Cell) (d : α) (l : List α) (i k : Nat) (h : ((f d).getD k (.int 0)).toArr = []) : rA (l.map f) i k = ((f (l.getD i d)).getD k (.int 0)).toArr := by
 simp only [rA, cellAt, List.getD_eq_getElem?_getD, List.getElem?_map]
 cases hx : l[i]? with
 | none =>
  simp only [Option.map_none, Option.getD_none]
  simpa [List.getD_eq_getElem?_getD, Cell.toArr] using h.symm
 | some x => simp only [Option.map_some, Option.getD_some]
theorem map_rS {α : Type} (f : α → List Cell) (d : α) (l : List α) (i k : Nat) (h : ((f d).getD k (.int 0)).toStr = ByteArray.empty) : rS (l.map f) i k = ((f (l.getD i d)).getD k (.int 0)).toStr := by
 simp only [rS, cellAt, List.getD_eq_getElem?_getD, List.getElem?_map]
 cases hx : l[i]? with
 | none =>
  simp only [Option.map_none, Option.getD_none]
  simpa [List.getD_eq_getElem?_getD, Cell.toStr] using h.symm
 | some x => simp only [Option.map_some, Option.getD_some]
theorem take_snoc {α : Type} (l : List α) (i : Nat) (d : α) (h : i < l.length) : l.take (i + 1) = l.take i ++ [l.getD i d] := by
 rw [List.take_add_one, List.getD_eq_getElem?_getD, List.getElem?_eq_getElem h]; rfl
theorem getD_mem' {α : Type} {l : List α} {i : Nat} (d : α) (h : i < l.length) : l.getD i d ∈ l := by
 rw [List.getD_eq_getElem?_getD, List.getElem?_eq_getElem h]; exact List.getElem_mem h
theorem mul_rng {a b : Int} {A B : Int} (ha : -A ≤ a ∧ a ≤ A) (hb : 0 ≤ b ∧ b ≤ B) : -(A * B) ≤ a * b ∧ a * b ≤ A * B := by
 have hA : 0 ≤ A := by omega
 have h1 : a * b ≤ A * b := Int.mul_le_mul_of_nonneg_right ha.2 hb.1
 have h2 : -A * b ≤ a * b := Int.mul_le_mul_of_nonneg_right ha.1 hb.1
 have h3 : A * b ≤ A * B := Int.mul_le_mul_of_nonneg_left hb.2 hA
 rw [Int.neg_mul] at h2
 omega
theorem tdiv_rng {a d B : Int} (hd : 0 < d) (h : -(B * d) ≤ a ∧ a ≤ B * d) : -B ≤ a.tdiv d ∧ a.tdiv d ≤ B := by
 rcases Int.le_total 0 a with h0 | h0
 ·rw [Int.tdiv_eq_ediv_of_nonneg h0]
  have h1 := Int.ediv_nonneg h0 (Int.le_of_lt hd)
  have h2 : a / d ≤ B := by
   have := Int.ediv_le_ediv hd h.2
   rwa [Int.mul_ediv_cancel _ (Int.ne_of_gt hd)] at this
  omega
 ·have e : a = -(-a) := by omega
  rw [e, Int.neg_tdiv, Int.tdiv_eq_ediv_of_nonneg (by omega)]
  have h1 := Int.ediv_nonneg (show 0 ≤ -a by omega) (Int.le_of_lt hd)
  have h2 : -a / d ≤ B := by
   have := Int.ediv_le_ediv hd (show -a ≤ B * d by omega)
   rwa [Int.mul_ediv_cancel _ (Int.ne_of_gt hd)] at this
  omega
theorem getD_set' {α : Type} (O : List α) (i j : Nat) (v d : α) (h : i < O.length) : (O.set i v).getD j d = if i = j then v else O.getD j d := by
 simp only [List.getD_eq_getElem?_getD, List.getElem?_set]
 split
 ·rename_i e; subst e; rfl
 ·rfl
theorem snoc_ind {α : Type} {p : List α → Prop} (h0 : p []) (h1 : ∀ u a, p u → p (u ++ [a])) (u : List α) : p u := by
 have key : ∀ n (u : List α), u.length = n → p u := by
  intro n
  induction n with
  | zero => intro u hu; rw [List.eq_nil_of_length_eq_zero hu]; exact h0
  | succ n ih =>
   intro u hu
   have hne : u ≠ [] := by rintro rfl; simp at hu
   rw [← List.dropLast_concat_getLast hne]
   exact h1 _ _ (ih _ (by rw [List.length_dropLast, hu]; rfl))
 exact key _ u rfl
theorem tdiv_floor {n d : Int} (hd : 0 < d) : (n.tmod d < 0 → n.tdiv d - 1 = n / d) ∧ (¬ n.tmod d < 0 → n.tdiv d = n / d) := by
 have h1 := Int.mul_tdiv_add_tmod n d
 have h2 : n.tmod d < d := Int.tmod_lt_of_pos _ hd
 have h3 : -d < n.tmod d := by
  rcases Int.le_total 0 n with h0 | h0
  ·have := Int.tmod_nonneg d h0
   omega
  ·have e : n = -(-n) := by omega
   rw [e, Int.neg_tmod]
   have := Int.tmod_lt_of_pos (-n) hd
   omega
 constructor
 ·intro h
  have := (Int.ediv_emod_unique (a := n) (b := d) (r := n.tmod d + d) (q := n.tdiv d - 1) hd).2 ⟨by rw [Int.mul_sub]; omega, by omega, by omega⟩
  exact this.1.symm
 ·intro h
  have := (Int.ediv_emod_unique (a := n) (b := d) (r := n.tmod d) (q := n.tdiv d) hd).2 ⟨by omega, by omega, by omega⟩
  exact this.1.symm
theorem Rng.g {p a b : Prop} (k : a) (h : p := by simp only [inR]; omega) : Rng p a b := .ok h k
theorem Ob.g {p k : Prop} (go : k) (h : p := by first | omega | (simp; done) | decide | (simp; omega)) : Ob p k := ⟨h, go⟩
theorem Ob.e {P : Program} {t : TypeId} {k : Prop} (go : k) (h : eqOK P t = true := by kernel_rfl) : Ob (eqOK P t = true) k := ⟨h, go⟩
theorem Val.t {n m : Int} {K : Int → Prop} (k : K (n % m)) (h : 0 ≤ n := by omega) : Val (n.tmod m) K := .mk _ (Int.tmod_eq_emod_of_nonneg h) k
theorem Val.d {n m : Int} {K : Int → Prop} (k : K (n / m)) (h : 0 ≤ n := by omega) : Val (n.tdiv m) K := .mk _ (Int.tdiv_eq_ediv_of_nonneg h) k
theorem Br.t {p a b : Prop} (k : p → a) (h : p := by omega) : Br p a b := ⟨fun _ => k h, fun g => absurd h g⟩
theorem Br.f {p a b : Prop} (k : ¬ p → b) (h : ¬ p := by omega) : Br p a b := ⟨fun g => absurd g h, fun _ => k h⟩
theorem Le.g {s t : St} (r : List (Option Nat)) (h : s.k = t.k ∧ Nat.ble s.k (lenL t.mem) = true ∧ leEnv s.k s.mem r s.env t.env ∧ leMem s.k s.mem r 0 r t.mem := by refine ⟨rfl, rfl, ?_, ?_⟩ <;> repeat' (first | exact trivial | exact rfl | exact Iff.rfl | apply And.intro)) : Le s t := ⟨r, h⟩
theorem spec_g {P : Program} {f : FuncId} {fn : Func} (c : Code) (O : List (Nat × RO)) (hm : P.follows .mixedOrders = true) (hf : P.funcs[f]? = some fn) {nt : Nat} (hnt : fn.ntmps = nt) (res : List ResultVar)
  {args : List XV} {m : List Blk} {Rs : AV → List (Option Blk) → Prop} (h : awp P O c (startSt nt args m) (atEnd P res Rs))
  (hb : fn.body = some c := by exact rfl) (hname : (fn.name == "runtime.NumGoroutine") = false := by kernel_rfl) (hok : codeOK O c = true := by kernel_rfl) (hres : fn.results.toList = res := by kernel_rfl) : HSpec P f args m Rs := spec_of hm hf hb hname hok hnt hres h
end Go.Sx
