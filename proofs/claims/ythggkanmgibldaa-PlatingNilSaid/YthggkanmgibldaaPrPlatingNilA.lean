import Derived.Test.YthggkanmgibldaaProg
import Derived.Test.YthggkanmgibldaaXz
namespace Go.Sx
open Go Go.Proofs
set_option maxRecDepth 10000
set_option maxHeartbeats 4000000
/-! ### Recipes, plates, acts, shops -/
structure Rcp where
  n0 : Int
  n1 : Int
  n2 : Int
  n3 : Int
  k0 : Int
  k1 : Int
  k2 : Int
  k3 : Int
  seed : Int
  soft : Int
  hard : Int
  mo : Int
  sp : Int
structure Pl where
  kd : Int
  pa : Int
  cut : Int
  area : Int
  thick : Int
  grown : Int
  ret : Bool
structure Tk where
  st : Int
  yd : Int
  ch : Int
  ld : Int
structure Act2 where
  kd : Int
  cut : Int
  area : Int
  stock : Int
  yd : Int
  plate : Int
  bath : Int
  s0 : Int
  s1 : Int
  cur : Int
  sec : Int
  place : Int
  flaw : Int
structure Sho where
  r : Rcp
  pl : List Pl
  be : List (List Int)
  tk : List Tk
  fl : List (Int × Int)
  ac : List Act2
@[reducible] def p0 : Pl := ⟨0, 0, 0, 0, 0, 0, false⟩
@[reducible] def tk0 : Tk := ⟨0, 0, 0, 0⟩
@[reducible] def ac0 : Act2 := ⟨0, 0, 0, 0, 0, 0, 0, 0, 0, 0, 0, 0, 0⟩
@[reducible] def i6 (n : Int) : SV := .int .i64 n
@[reducible] def Rcp.l (r : Rcp) : List SV := [i6 r.n0, i6 r.n1, i6 r.n2, i6 r.n3, i6 r.k0, i6 r.k1, i6 r.k2, i6 r.k3, i6 r.seed, i6 r.soft, i6 r.hard, i6 r.mo, i6 r.sp]
@[reducible] def Rcp.x (r : Rcp) : XV := .agg [i6 r.n0, i6 r.n1, i6 r.n2, i6 r.n3, i6 r.k0, i6 r.k1, i6 r.k2, i6 r.k3, i6 r.seed, i6 r.soft, i6 r.hard, i6 r.mo, i6 r.sp]
@[reducible] def Pl.x (p : Pl) : XV := .agg [i6 p.kd, i6 p.pa, i6 p.cut, i6 p.area, i6 p.thick, i6 p.grown, .bool p.ret]
@[reducible] def Act2.x (a : Act2) : XV := .agg [i6 a.kd, i6 a.cut, i6 a.area, i6 a.stock, i6 a.yd, i6 a.plate, i6 a.bath, i6 a.s0, i6 a.s1, i6 a.cur, i6 a.sec, i6 a.place, i6 a.flaw]
@[reducible] def KPl : List CK := [.int .i64, .int .i64, .int .i64, .int .i64, .int .i64, .int .i64, .bool]
@[reducible] def KTk : List CK := [.int .i64, .int .i64, .int .i64, .int .i64]
@[reducible] def KFl : List CK := [.int .i64, .int .i64]
@[reducible] def KAc : List CK := [.int .i64, .int .i64, .int .i64, .int .i64, .int .i64, .int .i64, .int .i64, .int .i64, .int .i64, .int .i64, .int .i64, .int .i64, .int .i64]
def plC (p : Pl) : List Cell := [.int p.kd, .int p.pa, .int p.cut, .int p.area, .int p.thick, .int p.grown, .bool p.ret]
def tkC (t : Tk) : List Cell := [.int t.st, .int t.yd, .int t.ch, .int t.ld]
def flC (f : Int × Int) : List Cell := [.int f.1, .int f.2]
def acC (a : Act2) : List Cell := [.int a.kd, .int a.cut, .int a.area, .int a.stock, .int a.yd, .int a.plate, .int a.bath, .int a.s0, .int a.s1, .int a.cur, .int a.sec, .int a.place, .int a.flaw]
def plA (l : List Pl) : Arr := l.map plC
def tkA (l : List Tk) : Arr := l.map tkC
def flA (l : List (Int × Int)) : Arr := l.map flC
def acA (l : List Act2) : Arr := l.map acC
theorem plA_len (l : List Pl) : (plA l).length = l.length := List.length_map _
theorem tkA_len (l : List Tk) : (tkA l).length = l.length := List.length_map _
theorem flA_len (l : List (Int × Int)) : (flA l).length = l.length := List.length_map _
theorem acA_len (l : List Act2) : (acA l).length = l.length := List.length_map _
theorem plA_snoc (l : List Pl) (p : Pl) : plA l ++ [[.int p.kd, .int p.pa, .int p.cut, .int p.area, .int p.thick, .int p.grown, .bool p.ret]] = plA (l ++ [p]) := by simp [plA, plC]
theorem tkA_snoc (l : List Tk) (t : Tk) : tkA l ++ [[.int t.st, .int t.yd, .int t.ch, .int t.ld]] = tkA (l ++ [t]) := by simp [tkA, tkC]
theorem flA_snoc (l : List (Int × Int)) (x y : Int) : flA l ++ [[.int x, .int y]] = flA (l ++ [(x, y)]) := by simp [flA, flC]
theorem acA_snoc (l : List Act2) (a : Act2) : acA l ++ [[.int a.kd, .int a.cut, .int a.area, .int a.stock, .int a.yd, .int a.plate, .int a.bath, .int a.s0, .int a.s1, .int a.cur, .int a.sec, .int a.place, .int a.flaw]] = acA (l ++ [a]) := by simp [acA, acC]
section
variable (l : List Pl) (i : Nat)
theorem pl_0 : rI (plA l) i 0 = (l.getD i p0).kd := map_rI plC p0 l i 0 rfl
theorem pl_1 : rI (plA l) i ((0 + 1)) = (l.getD i p0).pa := map_rI plC p0 l i 1 rfl
theorem pl_2 : rI (plA l) i ((0 + 1 + 1)) = (l.getD i p0).cut := map_rI plC p0 l i 2 rfl
theorem pl_3 : rI (plA l) i ((0 + 1 + 1 + 1)) = (l.getD i p0).area := map_rI plC p0 l i 3 rfl
theorem pl_5 : rI (plA l) i ((0 + 1 + 1 + 1 + 1 + 1)) = (l.getD i p0).grown := map_rI plC p0 l i 5 rfl
theorem pl_6 : rB (plA l) i ((0 + 1 + 1 + 1 + 1 + 1 + 1)) = (l.getD i p0).ret := by
  simp only [rB, cellAt, plA, List.getD_eq_getElem?_getD, List.getElem?_map]
  cases l[i]? with
  | none => rfl
  | some x => rfl
end
section
variable (l : List Tk) (i : Nat)
theorem tk_0 : rI (tkA l) i 0 = (l.getD i tk0).st := map_rI tkC tk0 l i 0 rfl
theorem tk_1 : rI (tkA l) i ((0 + 1)) = (l.getD i tk0).yd := map_rI tkC tk0 l i 1 rfl
theorem tk_2 : rI (tkA l) i ((0 + 1 + 1)) = (l.getD i tk0).ch := map_rI tkC tk0 l i 2 rfl
theorem tk_3 : rI (tkA l) i ((0 + 1 + 1 + 1)) = (l.getD i tk0).ld := map_rI tkC tk0 l i 3 rfl
end
theorem fl_0 (l : List (Int × Int)) (i : Nat) : rI (flA l) i 0 = (l.getD i (0, 0)).1 := map_rI flC (0, 0) l i 0 rfl
theorem fl_1 (l : List (Int × Int)) (i : Nat) : rI (flA l) i ((0 + 1)) = (l.getD i (0, 0)).2 := map_rI flC (0, 0) l i 1 rfl
/-! ### What is valid -/
structure RcpOK (r : Rcp) : Prop where
  a1 : 0 ≤ r.n1 ∧ r.n1 ≤ r.k1 ∧ r.k1 ≤ 1073741824
  a2 : 0 ≤ r.n2 ∧ r.n2 ≤ r.k2 ∧ r.k2 ≤ 1073741824
  a3 : 0 ≤ r.n3 ∧ r.n3 ≤ r.k3 ∧ r.k3 ≤ 1073741824
  seed : 0 ≤ r.seed ∧ r.seed ≤ 1073741824
  soft : 0 ≤ r.soft ∧ r.soft ≤ 1048576
  hard : 0 ≤ r.hard ∧ r.hard ≤ 1048576
  mo : 1 ≤ r.mo ∧ r.mo ≤ 16
  sp : 1 ≤ r.sp ∧ r.sp ≤ 16
open Classical in
noncomputable def rcpE (r : Rcp) : Int := if RcpOK r then 0 else 2
def ActOK (a : Act2) : Prop :=
  (a.kd = 1 ∧ (0 ≤ a.cut ∧ a.cut ≤ 1099511627776) ∧ 1 ≤ a.area ∧ a.area ≤ 1048576) ∨
  (a.kd = 2 ∧ (0 ≤ a.stock ∧ a.stock ≤ 1099511627776) ∧ 1 ≤ a.yd ∧ a.yd ≤ 1000) ∨
  (a.kd = 3 ∧ (0 ≤ a.s0 ∧ a.s0 ≤ 1048576) ∧ (0 ≤ a.s1 ∧ a.s1 ≤ 1048576) ∧ (0 ≤ a.cur ∧ a.cur ≤ 1048576) ∧ 0 ≤ a.sec ∧ a.sec ≤ 1048576) ∨
  (a.kd = 4 ∧ 0 ≤ a.place ∧ a.place ≤ 359) ∨ a.kd = 5 ∨ a.kd = 6
instance (a : Act2) : Decidable (ActOK a) := by unfold ActOK; infer_instance
def Rcp.thin (r : Rcp) (k : Int) : Int := if k = 0 then r.n0 else if k = 1 then r.n1 else if k = 2 then r.n2 else r.n3
def Rcp.thk (r : Rcp) (k : Int) : Int := if k = 0 then r.k0 else if k = 1 then r.k1 else if k = 2 then r.k2 else r.k3
/-! ### What acts do -/
def capP (r : Rcp) (k : Int) : Int := if k = 0 then 1 else if k = 1 then r.mo else if k = 2 then r.sp else 0
def roomP (r : Rcp) (p : Pl) : Int := if p.ret = true then 0 else max 0 (capP r p.kd - p.grown)
def Sho.p (S : Sho) (i : Int) : Pl := S.pl.getD i.toNat p0
def Sho.t (S : Sho) (i : Int) : Tk := S.tk.getD i.toNat tk0
def Sho.b (S : Sho) (i : Int) : List Int := S.be.getD i.toNat []
def inP (S : Sho) (i : Int) : Prop := 0 ≤ i ∧ i < (S.pl.length : Int)
instance (S : Sho) (i : Int) : Decidable (inP S i) := by unfold inP; infer_instance
def fstM (S : Sho) (a : Act2) : Int := a.s0 * a.s1 * (S.t a.bath).yd / 1000
def allM (S : Sho) (a : Act2) : Int := fstM S a + a.cur * a.sec * (S.t a.bath).yd / 1000
def chgM (a : Act2) : Int := a.s0 * a.s1 + a.cur * a.sec
def thkM (S : Sho) (a : Act2) : Int := 1000 * allM S a / (S.p a.plate).area
def herE (S : Sho) (a : Act2) : Int :=
  if ¬ inP S a.plate ∨ a.bath < 0 ∨ (S.tk.length : Int) ≤ a.bath then 5
  else if (S.p a.plate).ret = true then 10
  else if roomP S.r (S.p a.plate) = 0 ∨ 256 ≤ S.pl.length then 11
  else if S.r.soft * (S.p a.plate).area < 1000 * a.s0 ∨ S.r.hard * (S.p a.plate).area < 1000 * a.cur then 14
  else 0
def layE (S : Sho) (a : Act2) : Int :=
  if 1000 * fstM S a / (S.p a.plate).area < S.r.seed ∨ thkM S a < S.r.thin ((S.p a.plate).kd + 1) ∨ S.r.thk ((S.p a.plate).kd + 1) < thkM S a then 20
  else if (S.t a.bath).st < allM S a then 13
  else 0
def groE (S : Sho) (a : Act2) : Int := if herE S a ≠ 0 then herE S a else layE S a
def actE (S : Sho) (a : Act2) : Int :=
  if a.kd = 1 then (if 256 ≤ S.pl.length then 11 else 0)
  else if a.kd = 2 then (if 8 ≤ S.tk.length then 11 else 0)
  else if a.kd = 3 then groE S a
  else if ¬ inP S a.plate ∨ (a.kd = 5 ∧ (a.flaw < 0 ∨ (S.fl.length : Int) ≤ a.flaw)) then 5
  else if (S.p a.plate).ret = true then 10
  else if a.kd = 4 then (if 64 ≤ S.fl.length then 11 else 0)
  else if a.kd = 5 then (if a.flaw ∈ S.b a.plate then 0 else 19)
  else 0
def actN (S : Sho) (a : Act2) : Int := if a.kd = 1 ∨ a.kd = 3 then S.pl.length else if a.kd = 2 then S.tk.length else if a.kd = 4 then S.fl.length else 0
def newP (S : Sho) (a : Act2) : Pl := ⟨(S.p a.plate).kd + 1, a.plate, (S.p a.plate).cut, (S.p a.plate).area, thkM S a, 0, false⟩
def oldP (p : Pl) : Pl := ⟨p.kd, p.pa, p.cut, p.area, p.thick, p.grown + 1, decide (p.kd = 0)⟩
def newT (S : Sho) (a : Act2) : Tk := ⟨(S.t a.bath).st - allM S a, (S.t a.bath).yd, (S.t a.bath).ch + chgM a, (S.t a.bath).ld + allM S a⟩
def retP (p : Pl) : Pl := ⟨p.kd, p.pa, p.cut, p.area, p.thick, p.grown, true⟩
def actS (S : Sho) (a : Act2) : Sho :=
  if a.kd = 1 then { S with pl := S.pl ++ [⟨0, -1, a.cut, a.area, 0, 0, false⟩], be := S.be ++ [[]] }
  else if a.kd = 2 then { S with tk := S.tk ++ [⟨a.stock, a.yd, 0, 0⟩] }
  else if a.kd = 3 then { S with pl := (S.pl ++ [newP S a]).set a.plate.toNat (oldP (S.p a.plate)), be := S.be ++ [S.b a.plate], tk := S.tk.set a.bath.toNat (newT S a) }
  else if a.kd = 4 then { S with fl := S.fl ++ [(a.plate, a.place)], be := S.be.set a.plate.toNat (S.b a.plate ++ [(S.fl.length : Int)]) }
  else if a.kd = 5 then { S with be := S.be.set a.plate.toNat ((S.b a.plate).filter fun x => decide (x ≠ a.flaw)) }
  else { S with pl := S.pl.set a.plate.toNat (retP (S.p a.plate)) }
def doE (S : Sho) (a : Act2) : Int := if 1000 ≤ S.ac.length then 6 else if ActOK a then actE S a else 2
def doN (S : Sho) (a : Act2) : Int := if doE S a = 0 then actN S a else 0
def actT (S : Sho) (a : Act2) : Sho := if actE S a = 0 then actS S a else S
def doS (S : Sho) (a : Act2) : Sho := if doE S a = 0 then { actS S a with ac := S.ac ++ [a] } else S
/-! ### What holds at all times -/
structure PlOK (S : Sho) (i : Nat) (p : Pl) : Prop where
  kd : 0 ≤ p.kd ∧ p.kd ≤ 3
  pa : -1 ≤ p.pa ∧ p.pa < (i : Int)
  area : 1 ≤ p.area ∧ p.area ≤ 1048576
  grown : 0 ≤ p.grown ∧ p.grown ≤ 16
structure ShOK (S : Sho) : Prop where
  r : RcpOK S.r
  nb : S.be.length = S.pl.length
  np : S.pl.length ≤ 256
  nt : S.tk.length ≤ 8
  nf : S.fl.length ≤ 64
  na : S.ac.length ≤ 1000
  pl : ∀ i, i < S.pl.length → PlOK S i (S.pl.getD i p0)
  tk : ∀ i, i < S.tk.length → (0 ≤ (S.tk.getD i tk0).st ∧ (S.tk.getD i tk0).st ≤ 1099511627776) ∧ (1 ≤ (S.tk.getD i tk0).yd ∧ (S.tk.getD i tk0).yd ≤ 1000) ∧ (0 ≤ (S.tk.getD i tk0).ld ∧ (S.tk.getD i tk0).ld + (S.tk.getD i tk0).st ≤ 1099511627776) ∧ 0 ≤ (S.tk.getD i tk0).ch ∧ (S.tk.getD i tk0).ch ≤ 2199023255552 * (S.ac.length : Int)
  be : ∀ i, i < S.be.length → (S.be.getD i []).Nodup ∧ ∀ k ∈ S.be.getD i [], 0 ≤ k ∧ k < (S.fl.length : Int)
/-! ### In memory -/
structure SetOK (m : MS) (l : List Int) : Prop where
  mem : ∀ k, k ∈ m.ks ↔ k ∈ l
  nd : m.ks.Nodup
  st : ∀ e ∈ m.es, e.2 < m.c
def MsOK (ms : List MS) (be : List (List Int)) : Prop := ms.length = be.length ∧ ∀ i, i < be.length → SetOK (ms.getD i ms0) (be.getD i [])
@[reducible] def bSh (i1 i3 i4 i5 : Nat) (r : Rcp) : Blk := .box 86 [.tt, i6 r.n0, i6 r.n1, i6 r.n2, i6 r.n3, i6 r.k0, i6 r.k1, i6 r.k2, i6 r.k3, i6 r.seed, i6 r.soft, i6 r.hard, i6 r.mo, i6 r.sp, .own i1, .own i3, .own i4, .own i5]
@[reducible] def bPr (n : Nat) : Blk := .prow 90 2 n
@[reducible] def bFa (l : List Pl) (ms : List MS) : Blk := .fam 93 KPl (plA l) ms
@[reducible] def bTk (l : List Tk) : Blk := .row 49 false KTk (tkA l)
@[reducible] def bFl (l : List (Int × Int)) : Blk := .row 120 false KFl (flA l)
@[reducible] def bAc (l : List Act2) : Blk := .row 43 false KAc (acA l)
@[reducible] def shM (S : Sho) (ms : List MS) : List Blk := [bSh 1 3 4 5 S.r, bPr S.pl.length, bFa S.pl ms, bTk S.tk, bFl S.fl, bAc S.ac]
@[reducible] def shK (S : Sho) (ms : List MS) : List (Option Blk) := [some (bSh 1 3 4 5 S.r), some (bPr S.pl.length), some (bFa S.pl ms), some (bTk S.tk), some (bFl S.fl), some (bAc S.ac)]
@[reducible] def shO (S : Sho) (ms : List MS) : List (Option Blk) := [some (bSh 6 7 8 9 S.r), none, some (bFa S.pl ms), none, none, none, some (bPr S.pl.length), some (bTk S.tk), some (bFl S.fl), some (bAc S.ac)]
theorem pMix : Try.prog.follows .mixedOrders = true := by kernel_rfl
theorem eb43 : Try.t43.bytes = 104 := by kernel_rfl
theorem eb49 : Try.t49.bytes = 32 := by kernel_rfl
theorem eb120 : Try.t120.bytes = 16 := by kernel_rfl
theorem eb90 : Try.t90.bytes = 8 := by kernel_rfl
theorem eb3 : Try.t3.bytes = 8 := by kernel_rfl
end Go.Sx

namespace Go.Sx
open Go Go.Proofs
set_option maxRecDepth 10000
set_option maxHeartbeats 8000000
/-! ### Ranges -/
theorem s86 (n lo hi : Int) : PSpec Try.prog 86 [I n, I lo, I hi] (xP (lo ≤ n ∧ n ≤ hi)) := by
  refine spec_of pMix (O := []) Try.func86 (c := bodyOf Try.f86) rfl (by kernel_rfl) (by kernel_rfl) Try.ntmps86 (res := [.tmp 6]) (by kernel_rfl) ?_
  repeat' ((conv => whnf); first | refine Rng.g ?_ | refine Ob.g ?_ | refine Ob.e ?_ | refine Ob.m ?_ | refine Ob.mk (Nat.le_of_ble_eq_true rfl) ?_ | refine JoinVC.on ?_ | refine Nils.mk (fun h => ?_) ?_ | refine Val.t ?_ | refine Val.d ?_ | refine Mm.mk ?_ | (refine Br.mk (fun h => ?_) (fun h => ?_) <;> first | (exfalso; omega; done) | (exfalso; simp at h; done) | skip))
  · repeat refine Mm.mk ?_
    refine EndVC.mk _ rfl _ _ ⟨rfl, rfl⟩ ?_
    refine ⟨[], rfl, rfl, ?_, ?_⟩ <;> repeat' (first | exact trivial | exact rfl | exact Iff.rfl | apply And.intro)
    exact ⟨fun h2 => ⟨h, h2⟩, fun h2 => h2.2⟩
  · repeat refine Mm.mk ?_
    refine EndVC.mk _ rfl _ _ ⟨rfl, rfl⟩ ?_
    refine ⟨[], rfl, rfl, ?_, ?_⟩ <;> repeat' (first | exact trivial | exact rfl | exact Iff.rfl | apply And.intro)
    exact fun h2 => h h2.1
@[reducible] def K3 : List CK := [.int .i64, .int .i64, .int .i64]
@[reducible] def z3 : Int × Int × Int := (0, 0, 0)
def t3C (t : Int × Int × Int) : List Cell := [.int t.1, .int t.2.1, .int t.2.2]
def t3A (l : List (Int × Int × Int)) : Arr := l.map t3C
theorem t3A_len (l : List (Int × Int × Int)) : (t3A l).length = l.length := List.length_map _
theorem t3_0 (l : List (Int × Int × Int)) (i : Nat) : rI (t3A l) i 0 = (l.getD i z3).1 := map_rI t3C z3 l i 0 rfl
theorem t3_1 (l : List (Int × Int × Int)) (i : Nat) : rI (t3A l) i ((0 + 1)) = (l.getD i z3).2.1 := map_rI t3C z3 l i 1 rfl
theorem t3_2 (l : List (Int × Int × Int)) (i : Nat) : rI (t3A l) i ((0 + 1 + 1)) = (l.getD i z3).2.2 := map_rI t3C z3 l i 2 rfl
def allIn : List (Int × Int × Int) → Prop
  | [] => True
  | t :: l => (t.2.1 ≤ t.1 ∧ t.1 ≤ t.2.2) ∧ allIn l
theorem allIn_iff : ∀ (l : List (Int × Int × Int)), allIn l ↔ ∀ j, j < l.length → (l.getD j z3).2.1 ≤ (l.getD j z3).1 ∧ (l.getD j z3).1 ≤ (l.getD j z3).2.2
  | [] => by simp [allIn]
  | t :: l => by
    unfold allIn
    rw [allIn_iff l]
    refine ⟨fun ⟨h1, h2⟩ j hj => ?_, fun h => ⟨h 0 (by simp), fun j hj => h (j + 1) (by simpa using hj)⟩⟩
    rcases j with _ | j
    · exact h1
    · exact h2 j (by simpa using hj)
open Classical in
theorem s80 (l : List (Int × Int × Int)) (hl : l.length ≤ 100) : PSpec Try.prog 80 [.one (.lst true K3 (t3A l))] (xP (allIn l)) := by
  have ll := t3A_len l
  refine spec_of pMix (O := []) Try.func80 (c := bodyOf Try.f80) rfl (by kernel_rfl) (by kernel_rfl) Try.ntmps80 (res := [.tmp 2]) (by kernel_rfl) ?_
  repeat' ((conv => whnf); first | refine Rng.g ?_ | refine Ob.g ?_ | refine Ob.e ?_ | refine Ob.m ?_ | refine Ob.mk (Nat.le_of_ble_eq_true rfl) ?_ | refine JoinVC.on ?_ | refine Nils.mk (fun h => ?_) ?_ | refine Val.t ?_ | refine Val.d ?_ | refine Mm.mk ?_ | (refine Br.mk (fun h => ?_) (fun h => ?_) <;> first | (exfalso; omega; done) | (exfalso; simp at h; done) | skip))
  refine LoopVC.mk (fun n st => ∃ (i : Nat), i ≤ l.length ∧ n = l.length - i ∧ (∀ j, j < i → (l.getD j z3).2.1 ≤ (l.getD j z3).1 ∧ (l.getD j z3).1 ≤ (l.getD j z3).2.2) ∧ st = ⟨0, envA 20 [(0, .x (.one (.lst true K3 (t3A l)))), (5, .x (.one (.lst true K3 (t3A l)))), (6, .int .i64 (l.length : Int)), (7, .int .i64 (i : Int))], []⟩) _ _ ⟨0, Nat.zero_le _, rfl, fun j hj => absurd hj (Nat.not_lt_zero j), rfl⟩ ?_ ?_
  · refine ⟨[], rfl, rfl, ?_, ?_⟩ <;> repeat' (first | exact trivial | exact rfl | exact Iff.rfl | apply And.intro)
    exact congrArg Int.ofNat ll
  rintro n _ ⟨i, hi, hn, hj, rfl⟩
  have g0 : rI (t3A l) (i : Int).toNat 0 = (l.getD i z3).1 := by rw [Int.toNat_natCast, t3_0]
  have g1 : rI (t3A l) (i : Int).toNat ((0 + 1)) = (l.getD i z3).2.1 := by rw [Int.toNat_natCast]; exact t3_1 l i
  have g2 : rI (t3A l) (i : Int).toNat ((0 + 1 + 1)) = (l.getD i z3).2.2 := by rw [Int.toNat_natCast]; exact t3_2 l i
  have c := s86 (l.getD i z3).1 (l.getD i z3).2.1 (l.getD i z3).2.2
  by_cases hi' : i < l.length
  · repeat' ((conv => whnf); first | rw [g0] | rw [g1] | rw [g2] | refine Rng.g ?_ | refine Ob.g ?_ | refine Ob.e ?_ | refine Ob.m ?_ | refine Ob.mk (Nat.le_of_ble_eq_true rfl) ?_ | refine JoinVC.on ?_ | refine Nils.mk (fun h => ?_) ?_ | refine Val.t ?_ | refine Val.d ?_ | refine Mm.mk ?_ | refine CallVC.pure rfl (c) ?_ | refine CallVC0.pure rfl (c) ?_ | (refine Br.mk (fun h => ?_) (fun h => ?_) <;> first | (exfalso; omega; done) | (exfalso; simp at h; done) | skip))
    · repeat refine Mm.mk ?_
      refine EndVC.mk _ rfl _ _ ⟨rfl, rfl⟩ ?_
      refine ⟨[], rfl, rfl, ?_, ?_⟩ <;> repeat' (first | exact trivial | exact rfl | exact Iff.rfl | apply And.intro)
      exact fun hn => h ((allIn_iff l).1 hn i hi')
    · refine Back.mk (l.length - (i + 1)) _ (by omega) ⟨i + 1, by omega, rfl, fun j hj' => ?_, rfl⟩ ?_
      · rcases Nat.lt_succ_iff_lt_or_eq.1 hj' with h' | rfl
        · exact hj j h'
        · exact Classical.not_not.1 h
      · refine ⟨[], rfl, rfl, ?_, ?_⟩ <;> repeat' (first | exact trivial | exact rfl | exact Iff.rfl | apply And.intro)
  · repeat' ((conv => whnf); first | refine Rng.g ?_ | refine Ob.g ?_ | refine Ob.e ?_ | refine Ob.m ?_ | refine Ob.mk (Nat.le_of_ble_eq_true rfl) ?_ | refine JoinVC.on ?_ | refine Nils.mk (fun h => ?_) ?_ | refine Val.t ?_ | refine Val.d ?_ | refine Mm.mk ?_ | (refine Br.mk (fun h => ?_) (fun h => ?_) <;> first | (exfalso; omega; done) | (exfalso; simp at h; done) | skip))
    repeat refine Mm.mk ?_
    refine EndVC.mk _ rfl _ _ ⟨rfl, rfl⟩ ?_
    refine ⟨[], rfl, rfl, ?_, ?_⟩ <;> repeat' (first | exact trivial | exact rfl | exact Iff.rfl | apply And.intro)
    exact (allIn_iff l).2 fun j hj' => hj j (by omega)
/-! ### Which recipes and acts are valid -/
@[reducible] def rL1 (r : Rcp) : List (Int × Int × Int) := [(r.k1, 0, 1073741824), (r.n1, 0, r.k1)]
@[reducible] def rL2 (r : Rcp) : List (Int × Int × Int) := [(r.k2, 0, 1073741824), (r.n2, 0, r.k2)]
@[reducible] def rL3 (r : Rcp) : List (Int × Int × Int) := [(r.k3, 0, 1073741824), (r.n3, 0, r.k3)]
@[reducible] def rL4 (r : Rcp) : List (Int × Int × Int) := [(r.seed, 0, 1073741824), (r.soft, 0, 1048576), (r.hard, 0, 1048576), (r.mo, 1, 16), (r.sp, 1, 16)]
theorem rcp_iff (r : Rcp) : RcpOK r ↔ allIn (rL1 r) ∧ allIn (rL2 r) ∧ allIn (rL3 r) ∧ allIn (rL4 r) := by
  simp only [allIn, and_true]
  constructor
  · rintro ⟨h1, h2, h3, h4, h5, h6, h7, h8⟩
    omega
  · rintro ⟨h1, h2, h3, h4⟩
    exact ⟨by omega, by omega, by omega, by omega, by omega, by omega, by omega, by omega⟩
open Classical in
theorem s47 (r : Rcp) : PSpec Try.prog 47 [r.x] (.x (.one (.int .i64 (rcpE r)))) := by
  have c1 := s80 (rL1 r) (by simp)
  have c2 := s80 (rL2 r) (by simp)
  have c3 := s80 (rL3 r) (by simp)
  have c4 := s80 (rL4 r) (by simp)
  refine spec_of pMix (O := [(4, ([], [⟨0, [], []⟩, ⟨1, [], []⟩, ⟨2, [], []⟩, ⟨3, [], []⟩, ⟨4, [], []⟩, ⟨5, [], []⟩, ⟨6, [], []⟩, ⟨7, [], []⟩, ⟨8, [], []⟩, ⟨9, [], []⟩, ⟨10, [], []⟩, ⟨11, [], []⟩, ⟨12, [], []⟩, ⟨13, [], [14]⟩, ⟨14, [], []⟩, ⟨15, [], []⟩, ⟨16, [], []⟩]))]) Try.func47 (c := bodyOf Try.f47) rfl (by kernel_rfl) (by kernel_rfl) Try.ntmps47 (res := [.tmp 2]) (by kernel_rfl) ?_
  repeat' ((conv => whnf); first | refine Rng.g ?_ | refine Ob.g ?_ | refine Ob.e ?_ | refine Ob.m ?_ | refine Ob.mk (Nat.le_of_ble_eq_true rfl) ?_ | refine JoinVC.on ?_ | refine Nils.mk (fun h => ?_) ?_ | refine Val.t ?_ | refine Val.d ?_ | refine Mm.mk ?_ | (refine Br.mk (fun h => ?_) (fun h => ?_) <;> first | (exfalso; omega; done) | (exfalso; simp at h; done) | skip))
  refine LoopVC.un 4 ?_
  repeat' ((conv => whnf); first | refine Rng.g ?_ | refine Ob.g ?_ | refine Ob.e ?_ | refine Ob.m ?_ | refine Ob.mk (Nat.le_of_ble_eq_true rfl) ?_ | refine JoinVC.on ?_ | refine Nils.mk (fun h => ?_) ?_ | refine Val.t ?_ | refine Val.d ?_ | refine Mm.mk ?_ | refine CallVC.pure rfl (c1) ?_ | refine CallVC.pure rfl (c2) ?_ | refine CallVC.pure rfl (c3) ?_ | refine CallVC.pure rfl (c4) ?_ | refine CallVC0.pure rfl (c1) ?_ | refine CallVC0.pure rfl (c2) ?_ | refine CallVC0.pure rfl (c3) ?_ | refine CallVC0.pure rfl (c4) ?_ | (refine Br.mk (fun h => ?_) (fun h => ?_) <;> first | (exfalso; omega; done) | (exfalso; simp at h; done) | skip))
  all_goals
    repeat refine Mm.mk ?_
    refine EndVC.mk _ rfl _ _ ⟨rfl, rfl⟩ ?_
    refine ⟨[], rfl, rfl, ?_, ?_⟩ <;> repeat' (first | exact trivial | exact rfl | exact Iff.rfl | apply And.intro)
    first
      | exact (if_pos ((rcp_iff r).2 (by simp_all))).symm
      | exact (if_neg fun hr => by have := (rcp_iff r).1 hr; simp_all).symm
theorem act_iff1 (a : Act2) (h : a.kd = 1) : ActOK a ↔ allIn [(a.cut, 0, 1099511627776), (a.area, 1, 1048576)] := by
  simp only [ActOK, allIn, and_true]; constructor <;> intro hh <;> omega
theorem act_iff2 (a : Act2) (h : a.kd = 2) : ActOK a ↔ allIn [(a.stock, 0, 1099511627776), (a.yd, 1, 1000)] := by
  simp only [ActOK, allIn, and_true]; constructor <;> intro hh <;> omega
theorem act_iff3 (a : Act2) (h : a.kd = 3) : ActOK a ↔ allIn [(a.s0, 0, 1048576), (a.s1, 0, 1048576), (a.cur, 0, 1048576), (a.sec, 0, 1048576)] := by
  simp only [ActOK, allIn, and_true]; constructor <;> intro hh <;> omega
theorem act_iff4 (a : Act2) (h : a.kd = 4) : ActOK a ↔ 0 ≤ a.place ∧ a.place ≤ 359 := by
  simp only [ActOK]; constructor <;> intro hh <;> omega
theorem s54 (a : Act2) : PSpec Try.prog 54 [a.x] (xP (ActOK a)) := by
  have c1 := s80 [(a.cut, 0, 1099511627776), (a.area, 1, 1048576)] (by simp)
  have c2 := s80 [(a.stock, 0, 1099511627776), (a.yd, 1, 1000)] (by simp)
  have c3 := s80 [(a.s0, 0, 1048576), (a.s1, 0, 1048576), (a.cur, 0, 1048576), (a.sec, 0, 1048576)] (by simp)
  have c4 := s86 a.place 0 359
  refine spec_of pMix (O := []) Try.func54 (c := bodyOf Try.f54) rfl (by kernel_rfl) (by kernel_rfl) Try.ntmps54 (res := [.tmp 2]) (by kernel_rfl) ?_
  repeat' ((conv => whnf); first | refine Rng.g ?_ | refine Ob.g ?_ | refine Ob.e ?_ | refine Ob.m ?_ | refine Ob.mk (Nat.le_of_ble_eq_true rfl) ?_ | refine JoinVC.on ?_ | refine Nils.mk (fun h => ?_) ?_ | refine Val.t ?_ | refine Val.d ?_ | refine Mm.mk ?_ | refine CallVC.pure rfl (c1) ?_ | refine CallVC.pure rfl (c2) ?_ | refine CallVC.pure rfl (c3) ?_ | refine CallVC.pure rfl (c4) ?_ | refine CallVC0.pure rfl (c1) ?_ | refine CallVC0.pure rfl (c2) ?_ | refine CallVC0.pure rfl (c3) ?_ | refine CallVC0.pure rfl (c4) ?_ | (refine Br.mk (fun h => ?_) (fun h => ?_) <;> first | (exfalso; omega; done) | (exfalso; simp at h; done) | skip))
  all_goals
    repeat refine Mm.mk ?_
    refine EndVC.mk _ rfl _ _ ⟨rfl, rfl⟩ ?_
    refine ⟨[], rfl, rfl, ?_, ?_⟩ <;> repeat' (first | exact trivial | exact rfl | exact Iff.rfl | apply And.intro)
    first
      | exact (act_iff1 a (by assumption)).symm
      | exact (act_iff2 a (by assumption)).symm
      | exact (act_iff3 a (by assumption)).symm
      | exact (act_iff4 a (by assumption)).symm
      | (show ActOK a; unfold ActOK; omega)
      | (show ¬ ActOK a; unfold ActOK; omega)
/-! ### The reference's -/
end Go.Sx

namespace Go.Sx
open Go Go.Proofs
set_option maxRecDepth 10000
set_option maxHeartbeats 8000000
/-! ### Looking at a shop -/
theorem s53 (S : Sho) (ms : List MS) : HSpec Try.prog 53 [.one (.ptr 0 0)] (shM S ms) (fun r m' => r = .x (.one .ff) ∧ m' = shK S ms) := by
  refine spec_of pMix (O := []) Try.func53 (c := bodyOf Try.f53) rfl (by kernel_rfl) (by kernel_rfl) Try.ntmps53 (res := [.tmp 2]) (by kernel_rfl) ?_
  repeat' ((conv => whnf); first | refine Rng.g ?_ | refine Ob.g ?_ | refine Ob.e ?_ | refine Ob.m ?_ | refine Ob.mk (Nat.le_of_ble_eq_true rfl) ?_ | refine JoinVC.on ?_ | refine Nils.mk (fun h => ?_) ?_ | refine Val.t ?_ | refine Val.d ?_ | refine Mm.mk ?_ | (refine Br.mk (fun h => ?_) (fun h => ?_) <;> first | (exfalso; omega; done) | (exfalso; simp at h; done) | skip))
  repeat refine Mm.mk ?_
  refine EndVC.mk _ rfl _ _ ⟨rfl, rfl⟩ ?_
  refine ⟨[some 0, some 1, some 2, some 3, some 4, some 5], rfl, rfl, ?_, ?_⟩ <;> repeat' (first | exact trivial | exact rfl | exact Iff.rfl | apply And.intro)
def getR (S : Sho) (i : Int) : AV := if inP S i then .x (.one (.pel 2 i.toNat 0)) else .x (.one .nilp)
theorem s63 (S : Sho) (ms : List MS) (i : Int) : HSpec Try.prog 63 [.one (.ptr 0 0), I i] (shM S ms) (fun r m' => r = getR S i ∧ m' = shK S ms) := by
  by_cases hi : inP S i
  · rw [getR, if_pos hi]
    unfold inP at hi
    refine spec_of pMix (O := []) Try.func63 (c := bodyOf Try.f63) rfl (by kernel_rfl) (by kernel_rfl) Try.ntmps63 (res := [.tmp 4]) (by kernel_rfl) ?_
    repeat' ((conv => whnf); first | refine Rng.g ?_ | refine Ob.g ?_ | refine Ob.e ?_ | refine Ob.m ?_ | refine Ob.mk (Nat.le_of_ble_eq_true rfl) ?_ | refine JoinVC.on ?_ | refine Nils.mk (fun h => ?_) ?_ | refine Val.t ?_ | refine Val.d ?_ | refine Mm.mk ?_ | (refine Br.mk (fun h => ?_) (fun h => ?_) <;> first | (exfalso; omega; done) | (exfalso; simp at h; done) | skip))
    repeat refine Mm.mk ?_
    refine EndVC.mk _ rfl _ _ ⟨rfl, rfl⟩ ?_
    refine ⟨[some 0, some 1, some 2, some 3, some 4, some 5], rfl, rfl, ?_, ?_⟩ <;> repeat' (first | exact trivial | exact rfl | exact Iff.rfl | apply And.intro)
  · rw [getR, if_neg hi]
    unfold inP at hi
    refine spec_of pMix (O := []) Try.func63 (c := bodyOf Try.f63) rfl (by kernel_rfl) (by kernel_rfl) Try.ntmps63 (res := [.tmp 4]) (by kernel_rfl) ?_
    repeat' ((conv => whnf); first | refine Rng.g ?_ | refine Ob.g ?_ | refine Ob.e ?_ | refine Ob.m ?_ | refine Ob.mk (Nat.le_of_ble_eq_true rfl) ?_ | refine JoinVC.on ?_ | refine Nils.mk (fun h => ?_) ?_ | refine Val.t ?_ | refine Val.d ?_ | refine Mm.mk ?_ | (refine Br.mk (fun h => ?_) (fun h => ?_) <;> first | (exfalso; omega; done) | (exfalso; simp at h; done) | skip))
    all_goals
      repeat refine Mm.mk ?_
      refine EndVC.mk _ rfl _ _ ⟨rfl, rfl⟩ ?_
      refine ⟨[some 0, some 1, some 2, some 3, some 4, some 5], rfl, rfl, ?_, ?_⟩ <;> repeat' (first | exact trivial | exact rfl | exact Iff.rfl | apply And.intro)
theorem s70 (S : Sho) (ms : List MS) (hS : ShOK S) (i : Nat) (hi : i < S.pl.length) : HSpec Try.prog 70 [.one (.ptr 0 0), .one (.pel 2 i 0)] (shM S ms) (fun r m' => r = .x (I (roomP S.r (S.pl.getD i p0))) ∧ m' = shK S ms) := by
  have g0 := pl_0 S.pl i
  have g5 := pl_5 S.pl i
  have g6 := pl_6 S.pl i
  have hp := hS.pl i hi
  have hr := hS.r
  obtain ⟨h1, h2⟩ := hp.kd
  have hg := hp.grown
  have hmo := hr.mo
  have hsp := hr.sp
  by_cases hret : (S.pl.getD i p0).ret = true
  · unfold roomP
    rw [if_pos hret]
    rw [hret] at g6
    refine spec_of pMix (O := []) Try.func70 (c := bodyOf Try.f70) rfl (by kernel_rfl) (by kernel_rfl) Try.ntmps70 (res := [.tmp 4]) (by kernel_rfl) ?_
    repeat' ((conv => whnf); first | rw [g6] | refine Rng.g ?_ | refine Ob.g ?_ | refine Ob.e ?_ | refine Ob.m ?_ | refine Ob.mk (Nat.le_of_ble_eq_true rfl) ?_ | refine JoinVC.on ?_ | refine Nils.mk (fun h => ?_) ?_ | refine Val.t ?_ | refine Val.d ?_ | refine Mm.mk ?_ | (refine Br.mk (fun h => ?_) (fun h => ?_) <;> first | (exfalso; omega; done) | (exfalso; simp at h; done) | skip))
    repeat refine Mm.mk ?_
    refine EndVC.mk _ rfl _ _ ⟨rfl, rfl⟩ ?_
    refine ⟨[some 0, some 1, some 2, some 3, some 4, some 5], rfl, rfl, ?_, ?_⟩ <;> repeat' (first | exact trivial | exact rfl | exact Iff.rfl | apply And.intro)
  · unfold roomP
    rw [if_neg hret]
    rw [show (S.pl.getD i p0).ret = false by simpa using hret] at g6
    have hk : (S.pl.getD i p0).kd = 0 ∨ (S.pl.getD i p0).kd = 1 ∨ (S.pl.getD i p0).kd = 2 ∨ (S.pl.getD i p0).kd = 3 := by omega
    unfold capP
    rcases hk with hk | hk | hk | hk
    all_goals
      rw [hk] at g0 ⊢
      refine spec_of pMix (O := []) Try.func70 (c := bodyOf Try.f70) rfl (by kernel_rfl) (by kernel_rfl) Try.ntmps70 (res := [.tmp 4]) (by kernel_rfl) ?_
      repeat' ((conv => whnf); first | rw [g6] | rw [g0] | rw [g5] | refine Rng.g ?_ | refine Ob.g ?_ | refine Ob.e ?_ | refine Ob.m ?_ | refine Ob.mk (Nat.le_of_ble_eq_true rfl) ?_ | refine JoinVC.on ?_ | refine Nils.mk (fun h => ?_) ?_ | refine Val.t ?_ | refine Val.d ?_ | refine Mm.mk ?_ | (refine Br.mk (fun h => ?_) (fun h => ?_) <;> first | (exfalso; omega; done) | (exfalso; simp at h; done) | skip))
      repeat refine Mm.mk ?_
      refine EndVC.mk _ rfl _ _ ⟨rfl, rfl⟩ ?_
      refine ⟨[some 0, some 1, some 2, some 3, some 4, some 5], rfl, rfl, ?_, ?_⟩ <;> repeat' (first | exact trivial | exact rfl | exact Iff.rfl | apply And.intro)
      simp
      omega
structure GroOK (a : Act2) : Prop where
  s0 : 0 ≤ a.s0 ∧ a.s0 ≤ 1048576
  s1 : 0 ≤ a.s1 ∧ a.s1 ≤ 1048576
  cur : 0 ≤ a.cur ∧ a.cur ≤ 1048576
  sec : 0 ≤ a.sec ∧ a.sec ≤ 1048576
theorem mulB {a b A B : Int} (ha : 0 ≤ a ∧ a ≤ A) (hb : 0 ≤ b ∧ b ≤ B) : 0 ≤ a * b ∧ a * b ≤ A * B :=
  ⟨Int.mul_nonneg ha.1 hb.1, Int.le_trans (Int.mul_le_mul_of_nonneg_right ha.2 hb.1) (Int.mul_le_mul_of_nonneg_left hb.2 (Int.le_trans ha.1 ha.2))⟩
theorem divB {a d B : Int} (ha : 0 ≤ a ∧ a ≤ B) (hd : 1 ≤ d) : 0 ≤ a / d ∧ a / d ≤ B := by
  refine ⟨Int.ediv_nonneg ha.1 (by omega), ?_⟩
  exact Int.le_trans (Int.ediv_le_self _ ha.1) ha.2
theorem groB {a : Act2} (h : GroOK a) {y : Int} (hy : 1 ≤ y ∧ y ≤ 1000) : (0 ≤ a.s0 * a.s1 ∧ a.s0 * a.s1 ≤ 1099511627776) ∧ (0 ≤ a.cur * a.sec ∧ a.cur * a.sec ≤ 1099511627776) ∧ (0 ≤ a.s0 * a.s1 * y ∧ a.s0 * a.s1 * y ≤ 1099511627776000) ∧ 0 ≤ a.cur * a.sec * y ∧ a.cur * a.sec * y ≤ 1099511627776000 := by
  have h1 := mulB h.s0 h.s1
  have h2 := mulB h.cur h.sec
  exact ⟨h1, h2, mulB h1 ⟨by omega, hy.2⟩, mulB h2 ⟨by omega, hy.2⟩⟩
def inT (S : Sho) (i : Int) : Prop := 0 ≤ i ∧ i < (S.tk.length : Int)
theorem s64 (S : Sho) (ms : List MS) (hS : ShOK S) (a : Act2) (ha : GroOK a) (hb : inT S a.bath) : HSpec Try.prog 64 [.one (.ptr 0 0), a.x] (shM S ms) (fun r m' => r = .x (.agg [i6 (fstM S a), i6 (allM S a), i6 (chgM a)]) ∧ m' = shK S ms) := by
  obtain ⟨hb1, hb2⟩ := hb
  have lt := tkA_len S.tk
  have ht := (hS.tk a.bath.toNat (by omega)).2.1
  have g1 := tk_1 S.tk a.bath.toNat
  obtain ⟨h1, h2, h3, h4⟩ := groB ha ht
  unfold allM chgM fstM Sho.t
  refine spec_of pMix (O := []) Try.func64 (c := bodyOf Try.f64) rfl (by kernel_rfl) (by kernel_rfl) Try.ntmps64 (res := [.cell 4 100]) (by kernel_rfl) ?_
  repeat' ((conv => whnf); first | rw [g1] | refine Rng.g ?_ | refine Ob.g ?_ | refine Ob.e ?_ | refine Ob.m ?_ | refine Ob.mk (Nat.le_of_ble_eq_true rfl) ?_ | refine JoinVC.on ?_ | refine Nils.mk (fun h => ?_) ?_ | refine Val.t ?_ | refine Val.d ?_ | refine Mm.mk ?_ | (refine Br.mk (fun h => ?_) (fun h => ?_) <;> first | (exfalso; omega; done) | (exfalso; simp at h; done) | skip))
  repeat refine Mm.mk ?_
  refine EndVC.mk _ rfl _ _ ⟨rfl, rfl⟩ ?_
  refine ⟨[some 0, some 1, some 2, some 3, some 4, some 5], rfl, rfl, ?_, ?_⟩ <;> repeat' (first | exact trivial | exact rfl | exact Iff.rfl | apply And.intro)
end Go.Sx

namespace Go.Sx
open Go Go.Proofs
set_option maxRecDepth 10000
set_option maxHeartbeats 8000000
/-! ### Is a growth possible? -/
theorem s62 (S : Sho) (ms : List MS) (hS : ShOK S) (a : Act2) (ha : GroOK a) : HSpec Try.prog 62 [.one (.ptr 0 0), a.x] (shM S ms) (fun r m' => r = .x (I (herE S a)) ∧ m' = shK S ms) := by
  have c63 := s63 S ms a.plate
  have lt := tkA_len S.tk
  have hr := hS.r
  have hsoft := hr.soft
  have hhard := hr.hard
  have hs0 := ha.s0
  have hcur := ha.cur
  unfold herE
  by_cases hi : inP S a.plate
  · rw [getR, if_pos hi] at c63
    unfold inP at hi
    obtain ⟨hi1, hi2⟩ := hi
    have hi : inP S a.plate := ⟨hi1, hi2⟩
    have hp := hS.pl a.plate.toNat (by omega)
    have har := hp.area
    have g3 := pl_3 S.pl a.plate.toNat
    have g6 := pl_6 S.pl a.plate.toNat
    have c70 := s70 S ms hS a.plate.toNat (by omega)
    have e1 := mulB hsoft (show 0 ≤ (S.pl.getD a.plate.toNat p0).area ∧ (S.pl.getD a.plate.toNat p0).area ≤ 1048576 by omega)
    have e2 := mulB hhard (show 0 ≤ (S.pl.getD a.plate.toNat p0).area ∧ (S.pl.getD a.plate.toNat p0).area ≤ 1048576 by omega)
    by_cases hb : a.bath < 0 ∨ (S.tk.length : Int) ≤ a.bath
    · rw [if_pos (.inr hb)]
      refine spec_of pMix (O := []) Try.func62 (c := bodyOf Try.f62) rfl (by kernel_rfl) (by kernel_rfl) Try.ntmps62 (res := [.tmp 4]) (by kernel_rfl) ?_
      repeat' ((conv => whnf); first | refine Rng.g ?_ | refine Ob.g ?_ | refine Ob.e ?_ | refine Ob.m ?_ | refine Ob.mk (Nat.le_of_ble_eq_true rfl) ?_ | refine JoinVC.on ?_ | refine Nils.mk (fun h => ?_) ?_ | refine Val.t ?_ | refine Val.d ?_ | refine Mm.mk ?_ | (refine Br.mk (fun h => ?_) (fun h => ?_) <;> first | (exfalso; omega; done) | (exfalso; simp at h; done) | skip))
      conv => whnf
      first | refine CallVC.mk [0, 1, 2, 3, 4, 5] _ _ _ rfl rfl rfl (c63) (fun r m' h' => ?_) | refine CallVC0.same [0, 1, 2, 3, 4, 5] _ _ _ rfl rfl rfl rfl (c63) (fun r m' h' => (by obtain ⟨rfl, rfl⟩ := h'; rfl)) (fun r m' h' => ?_) | (refine CallVC0.rows [0, 1, 2, 3, 4, 5] _ _ _ rfl rfl rfl ?_ (c63) (fun r m' h' => (by obtain ⟨rfl, rfl⟩ := h'; rfl)) (fun r m' h' => ?_); · (repeat' ((conv => whnf); first | exact trivial | exact rfl | exact Nat.le_refl _ | apply And.intro)))
      obtain ⟨rfl, rfl⟩ := h'
      conv => whnf
      repeat' ((conv => whnf); first | refine Rng.g ?_ | refine Ob.g ?_ | refine Ob.e ?_ | refine Ob.m ?_ | refine Ob.mk (Nat.le_of_ble_eq_true rfl) ?_ | refine JoinVC.on ?_ | refine Nils.mk (fun h => ?_) ?_ | refine Val.t ?_ | refine Val.d ?_ | refine Mm.mk ?_ | (refine Br.mk (fun h => ?_) (fun h => ?_) <;> first | (exfalso; omega; done) | (exfalso; simp at h; done) | skip))
      all_goals
        repeat refine Mm.mk ?_
        refine EndVC.mk _ rfl _ _ ⟨rfl, rfl⟩ ?_
        refine ⟨[some 0, some 1, some 2, some 3, some 4, some 5], rfl, rfl, ?_, ?_⟩ <;> repeat' (first | exact trivial | exact rfl | exact Iff.rfl | apply And.intro)
    · rw [if_neg (by rintro (h | h); exact h hi; exact hb h)]
      unfold Sho.p
      by_cases hret : (S.pl.getD a.plate.toNat p0).ret = true
      · rw [if_pos hret]
        rw [hret] at g6
        refine spec_of pMix (O := []) Try.func62 (c := bodyOf Try.f62) rfl (by kernel_rfl) (by kernel_rfl) Try.ntmps62 (res := [.tmp 4]) (by kernel_rfl) ?_
        repeat' ((conv => whnf); first | refine Rng.g ?_ | refine Ob.g ?_ | refine Ob.e ?_ | refine Ob.m ?_ | refine Ob.mk (Nat.le_of_ble_eq_true rfl) ?_ | refine JoinVC.on ?_ | refine Nils.mk (fun h => ?_) ?_ | refine Val.t ?_ | refine Val.d ?_ | refine Mm.mk ?_ | (refine Br.mk (fun h => ?_) (fun h => ?_) <;> first | (exfalso; omega; done) | (exfalso; simp at h; done) | skip))
        conv => whnf
        first | refine CallVC.mk [0, 1, 2, 3, 4, 5] _ _ _ rfl rfl rfl (c63) (fun r m' h' => ?_) | refine CallVC0.same [0, 1, 2, 3, 4, 5] _ _ _ rfl rfl rfl rfl (c63) (fun r m' h' => (by obtain ⟨rfl, rfl⟩ := h'; rfl)) (fun r m' h' => ?_) | (refine CallVC0.rows [0, 1, 2, 3, 4, 5] _ _ _ rfl rfl rfl ?_ (c63) (fun r m' h' => (by obtain ⟨rfl, rfl⟩ := h'; rfl)) (fun r m' h' => ?_); · (repeat' ((conv => whnf); first | exact trivial | exact rfl | exact Nat.le_refl _ | apply And.intro)))
        obtain ⟨rfl, rfl⟩ := h'
        conv => whnf
        repeat' ((conv => whnf); first | rw [g6] | refine Rng.g ?_ | refine Ob.g ?_ | refine Ob.e ?_ | refine Ob.m ?_ | refine Ob.mk (Nat.le_of_ble_eq_true rfl) ?_ | refine JoinVC.on ?_ | refine Nils.mk (fun h => ?_) ?_ | refine Val.t ?_ | refine Val.d ?_ | refine Mm.mk ?_ | (refine Br.mk (fun h => ?_) (fun h => ?_) <;> first | (exfalso; omega; done) | (exfalso; simp at h; done) | skip))
        repeat refine Mm.mk ?_
        refine EndVC.mk _ rfl _ _ ⟨rfl, rfl⟩ ?_
        refine ⟨[some 0, some 1, some 2, some 3, some 4, some 5], rfl, rfl, ?_, ?_⟩ <;> repeat' (first | exact trivial | exact rfl | exact Iff.rfl | apply And.intro)
      · rw [if_neg hret]
        rw [show (S.pl.getD a.plate.toNat p0).ret = false by simpa using hret] at g6
        refine spec_of pMix (O := []) Try.func62 (c := bodyOf Try.f62) rfl (by kernel_rfl) (by kernel_rfl) Try.ntmps62 (res := [.tmp 4]) (by kernel_rfl) ?_
        repeat' ((conv => whnf); first | refine Rng.g ?_ | refine Ob.g ?_ | refine Ob.e ?_ | refine Ob.m ?_ | refine Ob.mk (Nat.le_of_ble_eq_true rfl) ?_ | refine JoinVC.on ?_ | refine Nils.mk (fun h => ?_) ?_ | refine Val.t ?_ | refine Val.d ?_ | refine Mm.mk ?_ | (refine Br.mk (fun h => ?_) (fun h => ?_) <;> first | (exfalso; omega; done) | (exfalso; simp at h; done) | skip))
        conv => whnf
        first | refine CallVC.mk [0, 1, 2, 3, 4, 5] _ _ _ rfl rfl rfl (c63) (fun r m' h' => ?_) | refine CallVC0.same [0, 1, 2, 3, 4, 5] _ _ _ rfl rfl rfl rfl (c63) (fun r m' h' => (by obtain ⟨rfl, rfl⟩ := h'; rfl)) (fun r m' h' => ?_) | (refine CallVC0.rows [0, 1, 2, 3, 4, 5] _ _ _ rfl rfl rfl ?_ (c63) (fun r m' h' => (by obtain ⟨rfl, rfl⟩ := h'; rfl)) (fun r m' h' => ?_); · (repeat' ((conv => whnf); first | exact trivial | exact rfl | exact Nat.le_refl _ | apply And.intro)))
        obtain ⟨rfl, rfl⟩ := h'
        conv => whnf
        repeat' ((conv => whnf); first | rw [g6] | rw [g3] | refine Rng.g ?_ | refine Ob.g ?_ | refine Ob.e ?_ | refine Ob.m ?_ | refine Ob.mk (Nat.le_of_ble_eq_true rfl) ?_ | refine JoinVC.on ?_ | refine Nils.mk (fun h => ?_) ?_ | refine Val.t ?_ | refine Val.d ?_ | refine Mm.mk ?_ | (refine Br.mk (fun h => ?_) (fun h => ?_) <;> first | (exfalso; omega; done) | (exfalso; simp at h; done) | skip))
        conv => whnf
        first | refine CallVC.mk [0, 1, 2, 3, 4, 5] _ _ _ rfl rfl rfl (c70) (fun r m' h' => ?_) | refine CallVC0.same [0, 1, 2, 3, 4, 5] _ _ _ rfl rfl rfl rfl (c70) (fun r m' h' => (by obtain ⟨rfl, rfl⟩ := h'; rfl)) (fun r m' h' => ?_) | (refine CallVC0.rows [0, 1, 2, 3, 4, 5] _ _ _ rfl rfl rfl ?_ (c70) (fun r m' h' => (by obtain ⟨rfl, rfl⟩ := h'; rfl)) (fun r m' h' => ?_); · (repeat' ((conv => whnf); first | exact trivial | exact rfl | exact Nat.le_refl _ | apply And.intro)))
        obtain ⟨rfl, rfl⟩ := h'
        conv => whnf
        repeat' ((conv => whnf); first | rw [g3] | refine Rng.g ?_ | refine Ob.g ?_ | refine Ob.e ?_ | refine Ob.m ?_ | refine Ob.mk (Nat.le_of_ble_eq_true rfl) ?_ | refine JoinVC.on ?_ | refine Nils.mk (fun h => ?_) ?_ | refine Val.t ?_ | refine Val.d ?_ | refine Mm.mk ?_ | (refine Br.mk (fun h => ?_) (fun h => ?_) <;> first | (exfalso; omega; done) | (exfalso; simp at h; done) | skip))
        all_goals
          repeat refine Mm.mk ?_
          refine EndVC.mk _ rfl _ _ ⟨rfl, rfl⟩ ?_
          refine ⟨[some 0, some 1, some 2, some 3, some 4, some 5], rfl, rfl, ?_, ?_⟩ <;> repeat' (first | exact trivial | exact rfl | exact Iff.rfl | apply And.intro)
          (repeat' split) <;> first | rfl | (exfalso; omega)
  · rw [getR, if_neg hi] at c63
    rw [if_pos (.inl hi)]
    refine spec_of pMix (O := []) Try.func62 (c := bodyOf Try.f62) rfl (by kernel_rfl) (by kernel_rfl) Try.ntmps62 (res := [.tmp 4]) (by kernel_rfl) ?_
    repeat' ((conv => whnf); first | refine Rng.g ?_ | refine Ob.g ?_ | refine Ob.e ?_ | refine Ob.m ?_ | refine Ob.mk (Nat.le_of_ble_eq_true rfl) ?_ | refine JoinVC.on ?_ | refine Nils.mk (fun h => ?_) ?_ | refine Val.t ?_ | refine Val.d ?_ | refine Mm.mk ?_ | (refine Br.mk (fun h => ?_) (fun h => ?_) <;> first | (exfalso; omega; done) | (exfalso; simp at h; done) | skip))
    conv => whnf
    first | refine CallVC.mk [0, 1, 2, 3, 4, 5] _ _ _ rfl rfl rfl (c63) (fun r m' h' => ?_) | refine CallVC0.same [0, 1, 2, 3, 4, 5] _ _ _ rfl rfl rfl rfl (c63) (fun r m' h' => (by obtain ⟨rfl, rfl⟩ := h'; rfl)) (fun r m' h' => ?_) | (refine CallVC0.rows [0, 1, 2, 3, 4, 5] _ _ _ rfl rfl rfl ?_ (c63) (fun r m' h' => (by obtain ⟨rfl, rfl⟩ := h'; rfl)) (fun r m' h' => ?_); · (repeat' ((conv => whnf); first | exact trivial | exact rfl | exact Nat.le_refl _ | apply And.intro)))
    obtain ⟨rfl, rfl⟩ := h'
    conv => whnf
    repeat' ((conv => whnf); first | refine Rng.g ?_ | refine Ob.g ?_ | refine Ob.e ?_ | refine Ob.m ?_ | refine Ob.mk (Nat.le_of_ble_eq_true rfl) ?_ | refine JoinVC.on ?_ | refine Nils.mk (fun h => ?_) ?_ | refine Val.t ?_ | refine Val.d ?_ | refine Mm.mk ?_ | (refine Br.mk (fun h => ?_) (fun h => ?_) <;> first | (exfalso; omega; done) | (exfalso; simp at h; done) | skip))
    repeat refine Mm.mk ?_
    refine EndVC.mk _ rfl _ _ ⟨rfl, rfl⟩ ?_
    refine ⟨[some 0, some 1, some 2, some 3, some 4, some 5], rfl, rfl, ?_, ?_⟩ <;> repeat' (first | exact trivial | exact rfl | exact Iff.rfl | apply And.intro)
/-! ### What it lays -/
theorem thkB (S : Sho) (hS : ShOK S) (a : Act2) (ha : GroOK a) (hi : inP S a.plate) (hb : inT S a.bath) : (0 ≤ fstM S a ∧ fstM S a ≤ 1099511627776) ∧ (0 ≤ allM S a ∧ allM S a ≤ 2199023255552) ∧ (0 ≤ 1000 * fstM S a / (S.p a.plate).area ∧ 1000 * fstM S a / (S.p a.plate).area ≤ 1099511627776000) ∧ 0 ≤ thkM S a ∧ thkM S a ≤ 2199023255552000 := by
  obtain ⟨hb1, hb2⟩ := hb
  obtain ⟨hi1, hi2⟩ := hi
  have ht := (hS.tk a.bath.toNat (by omega)).2.1
  have hp := (hS.pl a.plate.toNat (by omega)).area
  obtain ⟨h1, h2, h3, h4⟩ := groB ha ht
  have e1 : 0 ≤ fstM S a ∧ fstM S a ≤ 1099511627776 := by unfold fstM Sho.t; omega
  have e2 : 0 ≤ allM S a ∧ allM S a ≤ 2199023255552 := by unfold allM fstM Sho.t; omega
  exact ⟨e1, e2, divB ⟨by omega, by omega⟩ hp.1, divB ⟨by omega, by omega⟩ hp.1⟩
theorem s65 (S : Sho) (ms : List MS) (hS : ShOK S) (a : Act2) (ha : GroOK a) (hi : inP S a.plate) (hb : inT S a.bath) (hk : (S.p a.plate).kd ≤ 2) : HSpec Try.prog 65 [.one (.ptr 0 0), a.x] (shM S ms) (fun r m' => r = .tup [I (if layE S a = 0 then thkM S a else 0), I (layE S a)] ∧ m' = shK S ms) := by
  have c63 := s63 S ms a.plate
  rw [getR, if_pos hi] at c63
  have c64 := s64 S ms hS a ha hb
  have hB := thkB S hS a ha hi hb
  obtain ⟨hb1, hb2⟩ := hb
  obtain ⟨hi1, hi2⟩ := hi
  have lt := tkA_len S.tk
  have hp := hS.pl a.plate.toNat (by omega)
  have har : 1 ≤ (S.p a.plate).area ∧ (S.p a.plate).area ≤ 1048576 := hp.area
  have g0 : rI (plA S.pl) a.plate.toNat 0 = (S.p a.plate).kd := pl_0 S.pl a.plate.toNat
  have g3 : rI (plA S.pl) a.plate.toNat ((0 + 1 + 1 + 1)) = (S.p a.plate).area := pl_3 S.pl a.plate.toNat
  have t0 : rI (tkA S.tk) a.bath.toNat 0 = (S.t a.bath).st := tk_0 S.tk a.bath.toNat
  obtain ⟨b1, b2, b3, b4⟩ := hB
  have k0 : 0 ≤ (S.p a.plate).kd := hp.kd.1
  have hk3 : (S.p a.plate).kd = 0 ∨ (S.p a.plate).kd = 1 ∨ (S.p a.plate).kd = 2 := by omega
  rcases hk3 with hk | hk | hk
  · have e1 : S.r.thin ((S.p a.plate).kd + 1) = S.r.n1 := by rw [hk]; rfl
    have e2 : S.r.thk ((S.p a.plate).kd + 1) = S.r.k1 := by rw [hk]; rfl
    have hl : layE S a = if 1000 * fstM S a / (S.p a.plate).area < S.r.seed ∨ thkM S a < S.r.n1 ∨ S.r.k1 < thkM S a then 20 else if (S.t a.bath).st < allM S a then 13 else 0 := by rw [← e1, ← e2]; rfl
    rw [hl]
    unfold thkM at *
    rw [hk] at g0
    have c1 := s86 (1000 * allM S a / (S.p a.plate).area) S.r.n1 S.r.k1
    refine spec_of pMix (O := [(1, ([7], [⟨0, [], []⟩, ⟨1, [], []⟩, ⟨2, [], []⟩, ⟨4, [], []⟩, ⟨5, [], []⟩, ⟨3, [4, 5], []⟩, ⟨6, [], []⟩, ⟨7, [], []⟩, ⟨8, [], []⟩, ⟨9, [], []⟩]))]) Try.func65 (c := bodyOf Try.f65) rfl (by kernel_rfl) (by kernel_rfl) Try.ntmps65 (res := [.tmp 4, .tmp 5]) (by kernel_rfl) ?_
    repeat' ((conv => whnf); first | refine Rng.g ?_ | refine Ob.g ?_ | refine Ob.e ?_ | refine Ob.m ?_ | refine Ob.mk (Nat.le_of_ble_eq_true rfl) ?_ | refine JoinVC.on ?_ | refine Nils.mk (fun h => ?_) ?_ | refine Val.t ?_ | refine Val.d ?_ | refine Mm.mk ?_ | (refine Br.mk (fun h => ?_) (fun h => ?_) <;> first | (exfalso; omega; done) | (exfalso; simp at h; done) | skip))
    conv => whnf
    first | refine CallVC.mk [0, 1, 2, 3, 4, 5] _ _ _ rfl rfl rfl (c63) (fun r m' h' => ?_) | refine CallVC0.same [0, 1, 2, 3, 4, 5] _ _ _ rfl rfl rfl rfl (c63) (fun r m' h' => (by obtain ⟨rfl, rfl⟩ := h'; rfl)) (fun r m' h' => ?_) | (refine CallVC0.rows [0, 1, 2, 3, 4, 5] _ _ _ rfl rfl rfl ?_ (c63) (fun r m' h' => (by obtain ⟨rfl, rfl⟩ := h'; rfl)) (fun r m' h' => ?_); · (repeat' ((conv => whnf); first | exact trivial | exact rfl | exact Nat.le_refl _ | apply And.intro)))
    obtain ⟨rfl, rfl⟩ := h'
    conv => whnf
    repeat' ((conv => whnf); first | refine Rng.g ?_ | refine Ob.g ?_ | refine Ob.e ?_ | refine Ob.m ?_ | refine Ob.mk (Nat.le_of_ble_eq_true rfl) ?_ | refine JoinVC.on ?_ | refine Nils.mk (fun h => ?_) ?_ | refine Val.t ?_ | refine Val.d ?_ | refine Mm.mk ?_ | (refine Br.mk (fun h => ?_) (fun h => ?_) <;> first | (exfalso; omega; done) | (exfalso; simp at h; done) | skip))
    conv => whnf
    first | refine CallVC.mk [0, 1, 2, 3, 4, 5] _ _ _ rfl rfl rfl (c64) (fun r m' h' => ?_) | refine CallVC0.same [0, 1, 2, 3, 4, 5] _ _ _ rfl rfl rfl rfl (c64) (fun r m' h' => (by obtain ⟨rfl, rfl⟩ := h'; rfl)) (fun r m' h' => ?_) | (refine CallVC0.rows [0, 1, 2, 3, 4, 5] _ _ _ rfl rfl rfl ?_ (c64) (fun r m' h' => (by obtain ⟨rfl, rfl⟩ := h'; rfl)) (fun r m' h' => ?_); · (repeat' ((conv => whnf); first | exact trivial | exact rfl | exact Nat.le_refl _ | apply And.intro)))
    obtain ⟨rfl, rfl⟩ := h'
    conv => whnf
    repeat' ((conv => whnf); first | rw [g0] | rw [g3] | rw [t0] | refine Rng.g ?_ | refine Ob.g ?_ | refine Ob.e ?_ | refine Ob.m ?_ | refine Ob.mk (Nat.le_of_ble_eq_true rfl) ?_ | refine JoinVC.on ?_ | refine Nils.mk (fun h => ?_) ?_ | refine Val.t ?_ | refine Val.d ?_ | refine Mm.mk ?_ | refine CallVC.pure rfl (c1) ?_ | refine CallVC0.pure rfl (c1) ?_ | (refine Br.mk (fun h => ?_) (fun h => ?_) <;> first | (exfalso; omega; done) | (exfalso; simp at h; done) | skip))
    all_goals
      repeat refine Mm.mk ?_
      refine EndVC.mk _ rfl _ _ ⟨rfl, rfl⟩ ?_
      refine ⟨[some 0, some 1, some 2, some 3, some 4, some 5], rfl, rfl, ?_, ?_⟩ <;> repeat' (first | exact trivial | exact rfl | exact Iff.rfl | apply And.intro)
    all_goals (repeat' split) <;> first | rfl | (exfalso; omega)
  · have e1 : S.r.thin ((S.p a.plate).kd + 1) = S.r.n2 := by rw [hk]; rfl
    have e2 : S.r.thk ((S.p a.plate).kd + 1) = S.r.k2 := by rw [hk]; rfl
    have hl : layE S a = if 1000 * fstM S a / (S.p a.plate).area < S.r.seed ∨ thkM S a < S.r.n2 ∨ S.r.k2 < thkM S a then 20 else if (S.t a.bath).st < allM S a then 13 else 0 := by rw [← e1, ← e2]; rfl
    rw [hl]
    unfold thkM at *
    rw [hk] at g0
    have c1 := s86 (1000 * allM S a / (S.p a.plate).area) S.r.n2 S.r.k2
    refine spec_of pMix (O := [(1, ([7], [⟨0, [], []⟩, ⟨1, [], []⟩, ⟨2, [], []⟩, ⟨4, [], []⟩, ⟨5, [], []⟩, ⟨3, [4, 5], []⟩, ⟨6, [], []⟩, ⟨7, [], []⟩, ⟨8, [], []⟩, ⟨9, [], []⟩]))]) Try.func65 (c := bodyOf Try.f65) rfl (by kernel_rfl) (by kernel_rfl) Try.ntmps65 (res := [.tmp 4, .tmp 5]) (by kernel_rfl) ?_
    repeat' ((conv => whnf); first | refine Rng.g ?_ | refine Ob.g ?_ | refine Ob.e ?_ | refine Ob.m ?_ | refine Ob.mk (Nat.le_of_ble_eq_true rfl) ?_ | refine JoinVC.on ?_ | refine Nils.mk (fun h => ?_) ?_ | refine Val.t ?_ | refine Val.d ?_ | refine Mm.mk ?_ | (refine Br.mk (fun h => ?_) (fun h => ?_) <;> first | (exfalso; omega; done) | (exfalso; simp at h; done) | skip))
    conv => whnf
    first | refine CallVC.mk [0, 1, 2, 3, 4, 5] _ _ _ rfl rfl rfl (c63) (fun r m' h' => ?_) | refine CallVC0.same [0, 1, 2, 3, 4, 5] _ _ _ rfl rfl rfl rfl (c63) (fun r m' h' => (by obtain ⟨rfl, rfl⟩ := h'; rfl)) (fun r m' h' => ?_) | (refine CallVC0.rows [0, 1, 2, 3, 4, 5] _ _ _ rfl rfl rfl ?_ (c63) (fun r m' h' => (by obtain ⟨rfl, rfl⟩ := h'; rfl)) (fun r m' h' => ?_); · (repeat' ((conv => whnf); first | exact trivial | exact rfl | exact Nat.le_refl _ | apply And.intro)))
    obtain ⟨rfl, rfl⟩ := h'
    conv => whnf
    repeat' ((conv => whnf); first | refine Rng.g ?_ | refine Ob.g ?_ | refine Ob.e ?_ | refine Ob.m ?_ | refine Ob.mk (Nat.le_of_ble_eq_true rfl) ?_ | refine JoinVC.on ?_ | refine Nils.mk (fun h => ?_) ?_ | refine Val.t ?_ | refine Val.d ?_ | refine Mm.mk ?_ | (refine Br.mk (fun h => ?_) (fun h => ?_) <;> first | (exfalso; omega; done) | (exfalso; simp at h; done) | skip))
    conv => whnf
    first | refine CallVC.mk [0, 1, 2, 3, 4, 5] _ _ _ rfl rfl rfl (c64) (fun r m' h' => ?_) | refine CallVC0.same [0, 1, 2, 3, 4, 5] _ _ _ rfl rfl rfl rfl (c64) (fun r m' h' => (by obtain ⟨rfl, rfl⟩ := h'; rfl)) (fun r m' h' => ?_) | (refine CallVC0.rows [0, 1, 2, 3, 4, 5] _ _ _ rfl rfl rfl ?_ (c64) (fun r m' h' => (by obtain ⟨rfl, rfl⟩ := h'; rfl)) (fun r m' h' => ?_); · (repeat' ((conv => whnf); first | exact trivial | exact rfl | exact Nat.le_refl _ | apply And.intro)))
    obtain ⟨rfl, rfl⟩ := h'
    conv => whnf
    repeat' ((conv => whnf); first | rw [g0] | rw [g3] | rw [t0] | refine Rng.g ?_ | refine Ob.g ?_ | refine Ob.e ?_ | refine Ob.m ?_ | refine Ob.mk (Nat.le_of_ble_eq_true rfl) ?_ | refine JoinVC.on ?_ | refine Nils.mk (fun h => ?_) ?_ | refine Val.t ?_ | refine Val.d ?_ | refine Mm.mk ?_ | refine CallVC.pure rfl (c1) ?_ | refine CallVC0.pure rfl (c1) ?_ | (refine Br.mk (fun h => ?_) (fun h => ?_) <;> first | (exfalso; omega; done) | (exfalso; simp at h; done) | skip))
    all_goals
      repeat refine Mm.mk ?_
      refine EndVC.mk _ rfl _ _ ⟨rfl, rfl⟩ ?_
      refine ⟨[some 0, some 1, some 2, some 3, some 4, some 5], rfl, rfl, ?_, ?_⟩ <;> repeat' (first | exact trivial | exact rfl | exact Iff.rfl | apply And.intro)
    all_goals (repeat' split) <;> first | rfl | (exfalso; omega)
  · have e1 : S.r.thin ((S.p a.plate).kd + 1) = S.r.n3 := by rw [hk]; rfl
    have e2 : S.r.thk ((S.p a.plate).kd + 1) = S.r.k3 := by rw [hk]; rfl
    have hl : layE S a = if 1000 * fstM S a / (S.p a.plate).area < S.r.seed ∨ thkM S a < S.r.n3 ∨ S.r.k3 < thkM S a then 20 else if (S.t a.bath).st < allM S a then 13 else 0 := by rw [← e1, ← e2]; rfl
    rw [hl]
    unfold thkM at *
    rw [hk] at g0
    have c1 := s86 (1000 * allM S a / (S.p a.plate).area) S.r.n3 S.r.k3
    refine spec_of pMix (O := [(1, ([7], [⟨0, [], []⟩, ⟨1, [], []⟩, ⟨2, [], []⟩, ⟨4, [], []⟩, ⟨5, [], []⟩, ⟨3, [4, 5], []⟩, ⟨6, [], []⟩, ⟨7, [], []⟩, ⟨8, [], []⟩, ⟨9, [], []⟩]))]) Try.func65 (c := bodyOf Try.f65) rfl (by kernel_rfl) (by kernel_rfl) Try.ntmps65 (res := [.tmp 4, .tmp 5]) (by kernel_rfl) ?_
    repeat' ((conv => whnf); first | refine Rng.g ?_ | refine Ob.g ?_ | refine Ob.e ?_ | refine Ob.m ?_ | refine Ob.mk (Nat.le_of_ble_eq_true rfl) ?_ | refine JoinVC.on ?_ | refine Nils.mk (fun h => ?_) ?_ | refine Val.t ?_ | refine Val.d ?_ | refine Mm.mk ?_ | (refine Br.mk (fun h => ?_) (fun h => ?_) <;> first | (exfalso; omega; done) | (exfalso; simp at h; done) | skip))
    conv => whnf
    first | refine CallVC.mk [0, 1, 2, 3, 4, 5] _ _ _ rfl rfl rfl (c63) (fun r m' h' => ?_) | refine CallVC0.same [0, 1, 2, 3, 4, 5] _ _ _ rfl rfl rfl rfl (c63) (fun r m' h' => (by obtain ⟨rfl, rfl⟩ := h'; rfl)) (fun r m' h' => ?_) | (refine CallVC0.rows [0, 1, 2, 3, 4, 5] _ _ _ rfl rfl rfl ?_ (c63) (fun r m' h' => (by obtain ⟨rfl, rfl⟩ := h'; rfl)) (fun r m' h' => ?_); · (repeat' ((conv => whnf); first | exact trivial | exact rfl | exact Nat.le_refl _ | apply And.intro)))
    obtain ⟨rfl, rfl⟩ := h'
    conv => whnf
    repeat' ((conv => whnf); first | refine Rng.g ?_ | refine Ob.g ?_ | refine Ob.e ?_ | refine Ob.m ?_ | refine Ob.mk (Nat.le_of_ble_eq_true rfl) ?_ | refine JoinVC.on ?_ | refine Nils.mk (fun h => ?_) ?_ | refine Val.t ?_ | refine Val.d ?_ | refine Mm.mk ?_ | (refine Br.mk (fun h => ?_) (fun h => ?_) <;> first | (exfalso; omega; done) | (exfalso; simp at h; done) | skip))
    conv => whnf
    first | refine CallVC.mk [0, 1, 2, 3, 4, 5] _ _ _ rfl rfl rfl (c64) (fun r m' h' => ?_) | refine CallVC0.same [0, 1, 2, 3, 4, 5] _ _ _ rfl rfl rfl rfl (c64) (fun r m' h' => (by obtain ⟨rfl, rfl⟩ := h'; rfl)) (fun r m' h' => ?_) | (refine CallVC0.rows [0, 1, 2, 3, 4, 5] _ _ _ rfl rfl rfl ?_ (c64) (fun r m' h' => (by obtain ⟨rfl, rfl⟩ := h'; rfl)) (fun r m' h' => ?_); · (repeat' ((conv => whnf); first | exact trivial | exact rfl | exact Nat.le_refl _ | apply And.intro)))
    obtain ⟨rfl, rfl⟩ := h'
    conv => whnf
    repeat' ((conv => whnf); first | rw [g0] | rw [g3] | rw [t0] | refine Rng.g ?_ | refine Ob.g ?_ | refine Ob.e ?_ | refine Ob.m ?_ | refine Ob.mk (Nat.le_of_ble_eq_true rfl) ?_ | refine JoinVC.on ?_ | refine Nils.mk (fun h => ?_) ?_ | refine Val.t ?_ | refine Val.d ?_ | refine Mm.mk ?_ | refine CallVC.pure rfl (c1) ?_ | refine CallVC0.pure rfl (c1) ?_ | (refine Br.mk (fun h => ?_) (fun h => ?_) <;> first | (exfalso; omega; done) | (exfalso; simp at h; done) | skip))
    all_goals
      repeat refine Mm.mk ?_
      refine EndVC.mk _ rfl _ _ ⟨rfl, rfl⟩ ?_
      refine ⟨[some 0, some 1, some 2, some 3, some 4, some 5], rfl, rfl, ?_, ?_⟩ <;> repeat' (first | exact trivial | exact rfl | exact Iff.rfl | apply And.intro)
    all_goals (repeat' split) <;> first | rfl | (exfalso; omega)
end Go.Sx

namespace Go.Sx
open Go Go.Proofs
set_option maxRecDepth 10000
set_option maxHeartbeats 8000000
/-! ### New plates and baths -/
@[reducible] def pl5 (kd pa cut area thick : Int) : Pl := ⟨kd, pa, cut, area, thick, 0, false⟩
@[reducible] def adO (S : Sho) (ms : List MS) (p : Pl) (c : Nat) : List (Option Blk) := [some (bSh 6 3 4 5 S.r), none, some (bFa (S.pl ++ [p]) (ms ++ [⟨[], c⟩])), some (bTk S.tk), some (bFl S.fl), some (bAc S.ac), some (bPr (S.pl.length + 1))]
theorem s87 (S : Sho) (ms : List MS) (hn : S.pl.length ≤ 256) (kd pa cut area thick : Int) : HSpec Try.prog 87 [.one (.ptr 0 0), .agg [i6 kd, i6 pa, i6 cut, i6 area, i6 thick, i6 0, .ff]] (shM S ms) (fun r m' => ∃ c, r = .x (.one (.pel 2 S.pl.length 0)) ∧ m' = adO S ms (pl5 kd pa cut area thick) c) := by
  have hl := plA_len S.pl
  have hs := plA_snoc S.pl (pl5 kd pa cut area thick)
  refine spec_of pMix (O := []) Try.func87 (c := bodyOf Try.f87) rfl (by kernel_rfl) (by kernel_rfl) Try.ntmps87 (res := [.tmp 4]) (by kernel_rfl) ?_
  repeat' ((conv => whnf); first | refine Rng.g ?_ | refine Ob.g ?_ | refine Ob.e ?_ | refine Ob.m ?_ | refine Ob.mk (Nat.le_of_ble_eq_true rfl) ?_ | refine JoinVC.on ?_ | refine Nils.mk (fun h => ?_) ?_ | refine Val.t ?_ | refine Val.d ?_ | refine Mm.mk ?_ | (refine Br.mk (fun h => ?_) (fun h => ?_) <;> first | (exfalso; omega; done) | (exfalso; simp at h; done) | skip))
  repeat refine Mm.mk ?_
  refine Ob.mk (by exact ⟨hl.symm, by rw [eb90]; omega⟩) ?_
  intro c
  repeat' ((conv => whnf); first | refine Rng.g ?_ | refine Ob.g ?_ | refine Ob.e ?_ | refine Ob.m ?_ | refine Ob.mk (Nat.le_of_ble_eq_true rfl) ?_ | refine JoinVC.on ?_ | refine Nils.mk (fun h => ?_) ?_ | refine Val.t ?_ | refine Val.d ?_ | refine Mm.mk ?_ | (refine Br.mk (fun h => ?_) (fun h => ?_) <;> first | (exfalso; omega; done) | (exfalso; simp at h; done) | skip))
  repeat refine Mm.mk ?_
  conv => whnf
  refine EndVC.mk _ rfl _ _ (⟨c, rfl, rfl⟩) ?_
  refine ⟨[some 0, none, some 2, some 3, some 4, some 5, some 10], rfl, rfl, ?_, ?_⟩ <;> repeat' (first | exact trivial | exact rfl | exact Iff.rfl | apply And.intro)
  exact hs
theorem A_upd {α : Type} (C : α → List Cell) (l : List α) (i : Nat) (d : α) (hi : i < l.length) {f : Nat} {cs : List Cell} {p : α} (h : setAll (C (l.getD i d)) f cs = C p) : updRow (l.map C) i f cs = (l.set i p).map C := by
  unfold updRow
  rw [List.map_set, ← h]
  congr 2
  simp [List.getD_eq_getElem?_getD, List.getElem?_eq_getElem hi]
theorem MsOK.snoc {ms : List MS} {be : List (List Int)} (h : MsOK ms be) (c : Nat) : MsOK (ms ++ [⟨[], c⟩]) (be ++ [[]]) := by
  refine ⟨by simp [h.1], fun i hi => ?_⟩
  simp at hi
  by_cases h1 : i < be.length
  · rw [List.getD_eq_getElem?_getD, List.getD_eq_getElem?_getD, List.getElem?_append_left (by rw [h.1]; exact h1), List.getElem?_append_left h1, ← List.getD_eq_getElem?_getD, ← List.getD_eq_getElem?_getD]
    exact h.2 i h1
  · have e : i = be.length := by omega
    subst e
    rw [List.getD_eq_getElem?_getD, List.getD_eq_getElem?_getD, ← h.1, List.getElem?_concat_length, h.1, List.getElem?_concat_length]
    exact ⟨fun k => by simp [MS.ks], by simp [MS.ks], fun e he => by simp at he⟩
/-- What an act gives. -/
def AcR (S : Sho) (a : Act2) (r : AV) (m' : List (Option Blk)) : Prop := ∃ ms', MsOK ms' (actT S a).be ∧ r = .tup [I (if actE S a = 0 then actN S a else 0), I (actE S a)] ∧ m' = shO (actT S a) ms'
theorem AcR.err {S : Sho} {a : Act2} {ms : List MS} (hM : MsOK ms S.be) {e : Int} (he : actE S a = e) (h0 : e ≠ 0) : AcR S a (.tup [I 0, I e]) (shO S ms) := by
  subst he
  have h1 : actT S a = S := if_neg h0
  exact ⟨ms, by rw [h1]; exact hM, by rw [if_neg h0], by rw [h1]⟩
theorem AcR.ok {S : Sho} {a : Act2} {ms : List MS} (he : actE S a = 0) {S' : Sho} (hS : actS S a = S') (hM : MsOK ms S'.be) {n : Int} (hn : actN S a = n) : AcR S a (.tup [I n, I 0]) (shO S' ms) := by
  have h1 : actT S a = S' := (if_pos he).trans hS
  exact ⟨ms, by rw [h1]; exact hM, by rw [if_pos he, he, hn], by rw [h1]⟩
theorem s55 (S : Sho) (ms : List MS) (hM : MsOK ms S.be) (a : Act2) (hk : a.kd = 1) : HSpec Try.prog 55 [.one (.ptr 0 0), a.x] (shM S ms) (AcR S a) := by
  by_cases h : 256 ≤ S.pl.length
  · have he : actE S a = 11 := by unfold actE; rw [if_pos hk, if_pos h]
    refine spec_of pMix (O := []) Try.func55 (c := bodyOf Try.f55) rfl (by kernel_rfl) (by kernel_rfl) Try.ntmps55 (res := [.tmp 4, .tmp 5]) (by kernel_rfl) ?_
    repeat' ((conv => whnf); first | refine Rng.g ?_ | refine Ob.g ?_ | refine Ob.e ?_ | refine Ob.m ?_ | refine Ob.mk (Nat.le_of_ble_eq_true rfl) ?_ | refine JoinVC.on ?_ | refine Nils.mk (fun h => ?_) ?_ | refine Val.t ?_ | refine Val.d ?_ | refine Mm.mk ?_ | (refine Br.mk (fun h => ?_) (fun h => ?_) <;> first | (exfalso; omega; done) | (exfalso; simp at h; done) | skip))
    repeat refine Mm.mk ?_
    conv => whnf
    refine EndVC.mk _ rfl _ _ (AcR.err hM he (by decide)) ?_
    refine ⟨[some 0, none, some 2, none, none, none, some 1, some 3, some 4, some 5], rfl, rfl, ?_, ?_⟩ <;> repeat' (first | exact trivial | exact rfl | exact Iff.rfl | apply And.intro)
  · have he : actE S a = 0 := by unfold actE; rw [if_pos hk, if_neg h]
    have hs : actS S a = { S with pl := S.pl ++ [⟨0, -1, a.cut, a.area, 0, 0, false⟩], be := S.be ++ [[]] } := by unfold actS; rw [if_pos hk]
    have hn : actN S a = S.pl.length := by unfold actN; rw [if_pos (.inl hk)]
    refine spec_of pMix (O := []) Try.func55 (c := bodyOf Try.f55) rfl (by kernel_rfl) (by kernel_rfl) Try.ntmps55 (res := [.tmp 4, .tmp 5]) (by kernel_rfl) ?_
    repeat' ((conv => whnf); first | refine Rng.g ?_ | refine Ob.g ?_ | refine Ob.e ?_ | refine Ob.m ?_ | refine Ob.mk (Nat.le_of_ble_eq_true rfl) ?_ | refine JoinVC.on ?_ | refine Nils.mk (fun h => ?_) ?_ | refine Val.t ?_ | refine Val.d ?_ | refine Mm.mk ?_ | (refine Br.mk (fun h => ?_) (fun h => ?_) <;> first | (exfalso; omega; done) | (exfalso; simp at h; done) | skip))
    conv => whnf
    first | refine CallVC.mk [0, 1, 2, 3, 4, 5] _ _ _ rfl rfl rfl (s87 S ms (by omega) 0 (-1) a.cut a.area 0) (fun r m' h' => ?_) | refine CallVC0.same [0, 1, 2, 3, 4, 5] _ _ _ rfl rfl rfl rfl (s87 S ms (by omega) 0 (-1) a.cut a.area 0) (fun r m' h' => (by obtain ⟨c, rfl, rfl⟩ := h'; rfl)) (fun r m' h' => ?_) | (refine CallVC0.rows [0, 1, 2, 3, 4, 5] _ _ _ rfl rfl rfl ?_ (s87 S ms (by omega) 0 (-1) a.cut a.area 0) (fun r m' h' => (by obtain ⟨c, rfl, rfl⟩ := h'; rfl)) (fun r m' h' => ?_); · (repeat' ((conv => whnf); first | exact trivial | exact rfl | exact Nat.le_refl _ | apply And.intro)))
    obtain ⟨c, rfl, rfl⟩ := h'
    conv => whnf
    repeat' ((conv => whnf); first | refine Rng.g ?_ | refine Ob.g ?_ | refine Ob.e ?_ | refine Ob.m ?_ | refine Ob.mk (Nat.le_of_ble_eq_true rfl) ?_ | refine JoinVC.on ?_ | refine Nils.mk (fun h => ?_) ?_ | refine Val.t ?_ | refine Val.d ?_ | refine Mm.mk ?_ | (refine Br.mk (fun h => ?_) (fun h => ?_) <;> first | (exfalso; omega; done) | (exfalso; simp at h; done) | skip))
    repeat refine Mm.mk ?_
    conv => whnf
    refine EndVC.mk _ rfl _ _ (AcR.ok he hs (hM.snoc c) hn) ?_
    refine ⟨[some 0, none, some 2, none, none, none, some 7, some 3, some 4, some 5], rfl, rfl, ?_, ?_⟩ <;> repeat' (first | exact trivial | exact rfl | exact Iff.rfl | apply And.intro)
    all_goals first
      | omega
      | (simp; done)
theorem s56 (S : Sho) (ms : List MS) (hM : MsOK ms S.be) (a : Act2) (hk : a.kd = 2) : HSpec Try.prog 56 [.one (.ptr 0 0), a.x] (shM S ms) (AcR S a) := by
  have hl := tkA_len S.tk
  by_cases h : 8 ≤ S.tk.length
  · have he : actE S a = 11 := by unfold actE; rw [if_neg (by omega), if_pos hk, if_pos h]
    refine spec_of pMix (O := [(3, ([], [⟨0, [], []⟩, ⟨1, [], []⟩, ⟨2, [], []⟩, ⟨3, [], []⟩, ⟨4, [], []⟩, ⟨5, [], []⟩, ⟨6, [], []⟩, ⟨7, [], []⟩, ⟨8, [], []⟩, ⟨9, [], [10]⟩, ⟨10, [], []⟩, ⟨11, [0], []⟩, ⟨12, [], []⟩, ⟨13, [], []⟩, ⟨14, [], []⟩]))]) Try.func56 (c := bodyOf Try.f56) rfl (by kernel_rfl) (by kernel_rfl) Try.ntmps56 (res := [.tmp 4, .tmp 5]) (by kernel_rfl) ?_
    repeat' ((conv => whnf); first | refine Rng.g ?_ | refine Ob.g ?_ | refine Ob.e ?_ | refine Ob.m ?_ | refine Ob.mk (Nat.le_of_ble_eq_true rfl) ?_ | refine JoinVC.on ?_ | refine Nils.mk (fun h => ?_) ?_ | refine Val.t ?_ | refine Val.d ?_ | refine Mm.mk ?_ | (refine Br.mk (fun h => ?_) (fun h => ?_) <;> first | (exfalso; omega; done) | (exfalso; simp at h; done) | skip))
    repeat refine Mm.mk ?_
    conv => whnf
    refine EndVC.mk _ rfl _ _ (AcR.err hM he (by decide)) ?_
    refine ⟨[some 0, none, some 2, none, none, none, some 1, some 3, some 4, some 5], rfl, rfl, ?_, ?_⟩ <;> repeat' (first | exact trivial | exact rfl | exact Iff.rfl | apply And.intro)
  · have he : actE S a = 0 := by unfold actE; rw [if_neg (by omega), if_pos hk, if_neg h]
    have hs : actS S a = { S with tk := S.tk ++ [⟨a.stock, a.yd, 0, 0⟩] } := by unfold actS; rw [if_neg (by omega), if_pos hk]
    have hn : actN S a = S.tk.length := by unfold actN; rw [if_neg (by omega), if_pos hk]
    have hsn := tkA_snoc S.tk ⟨a.stock, a.yd, 0, 0⟩
    refine spec_of pMix (O := [(3, ([], [⟨0, [], []⟩, ⟨1, [], []⟩, ⟨2, [], []⟩, ⟨3, [], []⟩, ⟨4, [], []⟩, ⟨5, [], []⟩, ⟨6, [], []⟩, ⟨7, [], []⟩, ⟨8, [], []⟩, ⟨9, [], [10]⟩, ⟨10, [], []⟩, ⟨11, [0], []⟩, ⟨12, [], []⟩, ⟨13, [], []⟩, ⟨14, [], []⟩]))]) Try.func56 (c := bodyOf Try.f56) rfl (by kernel_rfl) (by kernel_rfl) Try.ntmps56 (res := [.tmp 4, .tmp 5]) (by kernel_rfl) ?_
    repeat' ((conv => whnf); first | refine Rng.g ?_ | refine Ob.g ?_ | refine Ob.e ?_ | refine Ob.m ?_ | refine Ob.mk (Nat.le_of_ble_eq_true rfl) ?_ | refine JoinVC.on ?_ | refine Nils.mk (fun h => ?_) ?_ | refine Val.t ?_ | refine Val.d ?_ | refine Mm.mk ?_ | (refine Br.mk (fun h => ?_) (fun h => ?_) <;> first | (exfalso; omega; done) | (exfalso; simp at h; done) | skip))
    repeat refine Mm.mk ?_
    refine Ob.mk (by rw [eb49]; simp only [List.length_cons, List.length_nil]; omega) ?_
    have hl2 := tkA_len (S.tk ++ [⟨a.stock, a.yd, 0, 0⟩])
    rw [List.length_append, List.length_singleton] at hl2
    repeat' ((conv => whnf); first | rw [hsn] | refine Rng.g ?_ | refine Ob.g ?_ | refine Ob.e ?_ | refine Ob.m ?_ | refine Ob.mk (Nat.le_of_ble_eq_true rfl) ?_ | refine JoinVC.on ?_ | refine Nils.mk (fun h => ?_) ?_ | refine Val.t ?_ | refine Val.d ?_ | refine Mm.mk ?_ | (refine Br.mk (fun h => ?_) (fun h => ?_) <;> first | (exfalso; omega; done) | (exfalso; simp at h; done) | skip))
    repeat refine Mm.mk ?_
    conv => whnf
    refine EndVC.mk _ rfl _ _ (AcR.ok he hs hM hn) ?_
    refine ⟨[some 0, none, some 2, none, none, none, some 1, some 8, some 4, some 5], rfl, rfl, ?_, ?_⟩ <;> repeat' (first | exact trivial | exact rfl | exact Iff.rfl | apply And.intro)
    all_goals first
      | exact hsn
      | omega
theorem s60 (S : Sho) (ms : List MS) (hM : MsOK ms S.be) (a : Act2) (hk : a.kd = 6) : HSpec Try.prog 60 [.one (.ptr 0 0), a.x] (shM S ms) (AcR S a) := by
  have c63 := s63 S ms a.plate
  by_cases hi : inP S a.plate
  · rw [getR, if_pos hi] at c63
    have g6 := pl_6 S.pl a.plate.toNat
    by_cases hr : (S.p a.plate).ret = true
    · have he : actE S a = 10 := by unfold actE; rw [if_neg (by omega), if_neg (by omega), if_neg (by omega), if_neg (by rintro (h | h); exact h hi; omega), if_pos hr]
      rw [show (S.pl.getD a.plate.toNat p0).ret = true from hr] at g6
      refine spec_of pMix (O := []) Try.func60 (c := bodyOf Try.f60) rfl (by kernel_rfl) (by kernel_rfl) Try.ntmps60 (res := [.tmp 4, .tmp 5]) (by kernel_rfl) ?_
      repeat' ((conv => whnf); first | refine Rng.g ?_ | refine Ob.g ?_ | refine Ob.e ?_ | refine Ob.m ?_ | refine Ob.mk (Nat.le_of_ble_eq_true rfl) ?_ | refine JoinVC.on ?_ | refine Nils.mk (fun h => ?_) ?_ | refine Val.t ?_ | refine Val.d ?_ | refine Mm.mk ?_ | (refine Br.mk (fun h => ?_) (fun h => ?_) <;> first | (exfalso; omega; done) | (exfalso; simp at h; done) | skip))
      conv => whnf
      first | refine CallVC.mk [0, 1, 2, 3, 4, 5] _ _ _ rfl rfl rfl (c63) (fun r m' h' => ?_) | refine CallVC0.same [0, 1, 2, 3, 4, 5] _ _ _ rfl rfl rfl rfl (c63) (fun r m' h' => (by obtain ⟨rfl, rfl⟩ := h'; rfl)) (fun r m' h' => ?_) | (refine CallVC0.rows [0, 1, 2, 3, 4, 5] _ _ _ rfl rfl rfl ?_ (c63) (fun r m' h' => (by obtain ⟨rfl, rfl⟩ := h'; rfl)) (fun r m' h' => ?_); · (repeat' ((conv => whnf); first | exact trivial | exact rfl | exact Nat.le_refl _ | apply And.intro)))
      obtain ⟨rfl, rfl⟩ := h'
      conv => whnf
      repeat' ((conv => whnf); first | rw [g6] | refine Rng.g ?_ | refine Ob.g ?_ | refine Ob.e ?_ | refine Ob.m ?_ | refine Ob.mk (Nat.le_of_ble_eq_true rfl) ?_ | refine JoinVC.on ?_ | refine Nils.mk (fun h => ?_) ?_ | refine Val.t ?_ | refine Val.d ?_ | refine Mm.mk ?_ | (refine Br.mk (fun h => ?_) (fun h => ?_) <;> first | (exfalso; omega; done) | (exfalso; simp at h; done) | skip))
      repeat refine Mm.mk ?_
      conv => whnf
      refine EndVC.mk _ rfl _ _ (AcR.err hM he (by decide)) ?_
      refine ⟨[some 0, none, some 2, none, none, none, some 1, some 3, some 4, some 5], rfl, rfl, ?_, ?_⟩ <;> repeat' (first | exact trivial | exact rfl | exact Iff.rfl | apply And.intro)
    · have he : actE S a = 0 := by unfold actE; rw [if_neg (by omega), if_neg (by omega), if_neg (by omega), if_neg (by rintro (h | h); exact h hi; omega), if_neg hr, if_neg (by omega), if_neg (by omega)]
      have hs : actS S a = { S with pl := S.pl.set a.plate.toNat (retP (S.p a.plate)) } := by unfold actS; rw [if_neg (by omega), if_neg (by omega), if_neg (by omega), if_neg (by omega), if_neg (by omega)]
      have hn : actN S a = 0 := by unfold actN; rw [if_neg (by omega), if_neg (by omega), if_neg (by omega)]
      have hr' : (S.pl.getD a.plate.toNat p0).ret = false := Bool.eq_false_iff.2 hr
      rw [hr'] at g6
      have hu : updRow (plA S.pl) a.plate.toNat ((0 + 1 + 1 + 1 + 1 + 1 + 1)) [.bool true] = plA (S.pl.set a.plate.toNat (retP (S.p a.plate))) := A_upd plC S.pl a.plate.toNat p0 (by unfold inP at hi; omega) rfl
      refine spec_of pMix (O := []) Try.func60 (c := bodyOf Try.f60) rfl (by kernel_rfl) (by kernel_rfl) Try.ntmps60 (res := [.tmp 4, .tmp 5]) (by kernel_rfl) ?_
      repeat' ((conv => whnf); first | refine Rng.g ?_ | refine Ob.g ?_ | refine Ob.e ?_ | refine Ob.m ?_ | refine Ob.mk (Nat.le_of_ble_eq_true rfl) ?_ | refine JoinVC.on ?_ | refine Nils.mk (fun h => ?_) ?_ | refine Val.t ?_ | refine Val.d ?_ | refine Mm.mk ?_ | (refine Br.mk (fun h => ?_) (fun h => ?_) <;> first | (exfalso; omega; done) | (exfalso; simp at h; done) | skip))
      conv => whnf
      first | refine CallVC.mk [0, 1, 2, 3, 4, 5] _ _ _ rfl rfl rfl (c63) (fun r m' h' => ?_) | refine CallVC0.same [0, 1, 2, 3, 4, 5] _ _ _ rfl rfl rfl rfl (c63) (fun r m' h' => (by obtain ⟨rfl, rfl⟩ := h'; rfl)) (fun r m' h' => ?_) | (refine CallVC0.rows [0, 1, 2, 3, 4, 5] _ _ _ rfl rfl rfl ?_ (c63) (fun r m' h' => (by obtain ⟨rfl, rfl⟩ := h'; rfl)) (fun r m' h' => ?_); · (repeat' ((conv => whnf); first | exact trivial | exact rfl | exact Nat.le_refl _ | apply And.intro)))
      obtain ⟨rfl, rfl⟩ := h'
      conv => whnf
      repeat' ((conv => whnf); first | rw [g6] | refine Rng.g ?_ | refine Ob.g ?_ | refine Ob.e ?_ | refine Ob.m ?_ | refine Ob.mk (Nat.le_of_ble_eq_true rfl) ?_ | refine JoinVC.on ?_ | refine Nils.mk (fun h => ?_) ?_ | refine Val.t ?_ | refine Val.d ?_ | refine Mm.mk ?_ | (refine Br.mk (fun h => ?_) (fun h => ?_) <;> first | (exfalso; omega; done) | (exfalso; simp at h; done) | skip))
      repeat refine Mm.mk ?_
      conv => whnf
      refine EndVC.mk _ rfl _ _ (AcR.ok he hs hM hn) ?_
      refine ⟨[some 0, none, some 2, none, none, none, some 1, some 3, some 4, some 5], rfl, rfl, ?_, ?_⟩ <;> repeat' (first | exact trivial | exact rfl | exact Iff.rfl | apply And.intro)
      all_goals first
        | exact hu
        | (simp; done)
  · have he : actE S a = 5 := by unfold actE; rw [if_neg (by omega), if_neg (by omega), if_neg (by omega), if_pos (.inl hi)]
    rw [getR, if_neg hi] at c63
    refine spec_of pMix (O := []) Try.func60 (c := bodyOf Try.f60) rfl (by kernel_rfl) (by kernel_rfl) Try.ntmps60 (res := [.tmp 4, .tmp 5]) (by kernel_rfl) ?_
    repeat' ((conv => whnf); first | refine Rng.g ?_ | refine Ob.g ?_ | refine Ob.e ?_ | refine Ob.m ?_ | refine Ob.mk (Nat.le_of_ble_eq_true rfl) ?_ | refine JoinVC.on ?_ | refine Nils.mk (fun h => ?_) ?_ | refine Val.t ?_ | refine Val.d ?_ | refine Mm.mk ?_ | (refine Br.mk (fun h => ?_) (fun h => ?_) <;> first | (exfalso; omega; done) | (exfalso; simp at h; done) | skip))
    conv => whnf
    first | refine CallVC.mk [0, 1, 2, 3, 4, 5] _ _ _ rfl rfl rfl (c63) (fun r m' h' => ?_) | refine CallVC0.same [0, 1, 2, 3, 4, 5] _ _ _ rfl rfl rfl rfl (c63) (fun r m' h' => (by obtain ⟨rfl, rfl⟩ := h'; rfl)) (fun r m' h' => ?_) | (refine CallVC0.rows [0, 1, 2, 3, 4, 5] _ _ _ rfl rfl rfl ?_ (c63) (fun r m' h' => (by obtain ⟨rfl, rfl⟩ := h'; rfl)) (fun r m' h' => ?_); · (repeat' ((conv => whnf); first | exact trivial | exact rfl | exact Nat.le_refl _ | apply And.intro)))
    obtain ⟨rfl, rfl⟩ := h'
    conv => whnf
    repeat' ((conv => whnf); first | refine Rng.g ?_ | refine Ob.g ?_ | refine Ob.e ?_ | refine Ob.m ?_ | refine Ob.mk (Nat.le_of_ble_eq_true rfl) ?_ | refine JoinVC.on ?_ | refine Nils.mk (fun h => ?_) ?_ | refine Val.t ?_ | refine Val.d ?_ | refine Mm.mk ?_ | (refine Br.mk (fun h => ?_) (fun h => ?_) <;> first | (exfalso; omega; done) | (exfalso; simp at h; done) | skip))
    repeat refine Mm.mk ?_
    conv => whnf
    refine EndVC.mk _ rfl _ _ (AcR.err hM he (by decide)) ?_
    refine ⟨[some 0, none, some 2, none, none, none, some 1, some 3, some 4, some 5], rfl, rfl, ?_, ?_⟩ <;> repeat' (first | exact trivial | exact rfl | exact Iff.rfl | apply And.intro)
end Go.Sx

namespace Go.Sx
open Go Go.Proofs
set_option maxRecDepth 10000
set_option maxHeartbeats 8000000
/-! ### Flaws -/
theorem del_ks (n : Int) : ∀ (es : List (Int × Nat)), (es.eraseP (fun e => decide (e.1 = n))).map (·.1) = (es.map (·.1)).erase n
  | [] => rfl
  | e :: es => by
    by_cases h : e.1 = n
    · simp [h]
    · simp [h, del_ks n es]
theorem SetOK.put {m : MS} {l : List Int} (h : SetOK m l) {n : Int} (hn : n ∉ l) : SetOK (m.put n) (l ++ [n]) := by
  have hk : n ∉ m.ks := fun hc => hn ((h.mem n).1 hc)
  have e : m.put n = ⟨m.es ++ [(n, m.c)], m.c + 1⟩ := by unfold MS.put; rw [if_neg hk]
  have ek : (m.put n).ks = m.ks ++ [n] := by rw [e]; simp [MS.ks]
  refine ⟨fun k => ?_, ?_, fun q hq => ?_⟩
  · rw [ek]; simp [h.mem]
  · rw [ek]
    exact List.nodup_append.2 ⟨h.nd, by simp, fun x hx y hy => by simp at hy; subst hy; rintro rfl; exact hk hx⟩
  · rw [e] at hq ⊢
    simp only [List.mem_append, List.mem_singleton] at hq
    rcases hq with hq | rfl
    · exact Nat.lt_succ_of_lt (h.st q hq)
    · exact Nat.lt_succ_self _
theorem SetOK.del {m : MS} {l : List Int} (h : SetOK m l) (n : Int) : SetOK (m.del n) (l.filter fun x => decide (x ≠ n)) := by
  have ek : (m.del n).ks = m.ks.erase n := del_ks n m.es
  refine ⟨fun k => ?_, ?_, fun q hq => h.st q (List.mem_of_mem_eraseP hq)⟩
  · rw [ek, h.nd.mem_erase_iff, h.mem, List.mem_filter]
    simp [and_comm]
  · rw [ek]; exact h.nd.erase n
theorem MsOK.setI {ms : List MS} {be : List (List Int)} (h : MsOK ms be) (i : Nat) {m : MS} {l : List Int} (hm : SetOK m l) : MsOK (ms.set i m) (be.set i l) := by
  refine ⟨by simp [h.1], fun j hj => ?_⟩
  simp at hj
  rw [List.getD_eq_getElem?_getD, List.getD_eq_getElem?_getD, List.getElem?_set, List.getElem?_set]
  by_cases e : i = j
  · subst e
    rw [if_pos rfl, if_pos rfl, if_pos (by rw [h.1]; exact hj), if_pos hj]
    exact hm
  · rw [if_neg e, if_neg e, ← List.getD_eq_getElem?_getD, ← List.getD_eq_getElem?_getD]
    exact h.2 j hj
theorem s58 (S : Sho) (ms : List MS) (hS : ShOK S) (hM : MsOK ms S.be) (a : Act2) (hk : a.kd = 4) : HSpec Try.prog 58 [.one (.ptr 0 0), a.x] (shM S ms) (AcR S a) := by
  have c63 := s63 S ms a.plate
  have hl := flA_len S.fl
  have hnb := hS.nb
  by_cases hi : inP S a.plate
  · rw [getR, if_pos hi] at c63
    have g6 := pl_6 S.pl a.plate.toNat
    have hil : a.plate.toNat < S.pl.length := by unfold inP at hi; omega
    by_cases hr : (S.p a.plate).ret = true
    · have he : actE S a = 10 := by unfold actE; rw [if_neg (by omega), if_neg (by omega), if_neg (by omega), if_neg (by rintro (h | h); exact h hi; omega), if_pos hr]
      rw [show (S.pl.getD a.plate.toNat p0).ret = true from hr] at g6
      refine spec_of pMix (O := [(9, ([], [⟨0, [], []⟩, ⟨1, [], []⟩, ⟨2, [], []⟩, ⟨3, [], []⟩, ⟨4, [], []⟩, ⟨5, [], []⟩, ⟨6, [], []⟩, ⟨7, [], []⟩, ⟨8, [], []⟩, ⟨9, [], [10]⟩, ⟨10, [], []⟩, ⟨11, [0], []⟩, ⟨12, [], []⟩, ⟨13, [], []⟩, ⟨14, [], []⟩]))]) Try.func58 (c := bodyOf Try.f58) rfl (by kernel_rfl) (by kernel_rfl) Try.ntmps58 (res := [.tmp 4, .tmp 5]) (by kernel_rfl) ?_
      repeat' ((conv => whnf); first | refine Rng.g ?_ | refine Ob.g ?_ | refine Ob.e ?_ | refine Ob.m ?_ | refine Ob.mk (Nat.le_of_ble_eq_true rfl) ?_ | refine JoinVC.on ?_ | refine Nils.mk (fun h => ?_) ?_ | refine Val.t ?_ | refine Val.d ?_ | refine Mm.mk ?_ | (refine Br.mk (fun h => ?_) (fun h => ?_) <;> first | (exfalso; omega; done) | (exfalso; simp at h; done) | skip))
      conv => whnf
      first | refine CallVC.mk [0, 1, 2, 3, 4, 5] _ _ _ rfl rfl rfl (c63) (fun r m' h' => ?_) | refine CallVC0.same [0, 1, 2, 3, 4, 5] _ _ _ rfl rfl rfl rfl (c63) (fun r m' h' => (by obtain ⟨rfl, rfl⟩ := h'; rfl)) (fun r m' h' => ?_) | (refine CallVC0.rows [0, 1, 2, 3, 4, 5] _ _ _ rfl rfl rfl ?_ (c63) (fun r m' h' => (by obtain ⟨rfl, rfl⟩ := h'; rfl)) (fun r m' h' => ?_); · (repeat' ((conv => whnf); first | exact trivial | exact rfl | exact Nat.le_refl _ | apply And.intro)))
      obtain ⟨rfl, rfl⟩ := h'
      conv => whnf
      repeat' ((conv => whnf); first | rw [g6] | refine Rng.g ?_ | refine Ob.g ?_ | refine Ob.e ?_ | refine Ob.m ?_ | refine Ob.mk (Nat.le_of_ble_eq_true rfl) ?_ | refine JoinVC.on ?_ | refine Nils.mk (fun h => ?_) ?_ | refine Val.t ?_ | refine Val.d ?_ | refine Mm.mk ?_ | (refine Br.mk (fun h => ?_) (fun h => ?_) <;> first | (exfalso; omega; done) | (exfalso; simp at h; done) | skip))
      repeat refine Mm.mk ?_
      conv => whnf
      refine EndVC.mk _ rfl _ _ (AcR.err hM he (by decide)) ?_
      refine ⟨[some 0, none, some 2, none, none, none, some 1, some 3, some 4, some 5], rfl, rfl, ?_, ?_⟩ <;> repeat' (first | exact trivial | exact rfl | exact Iff.rfl | apply And.intro)
    · have hr' : (S.pl.getD a.plate.toNat p0).ret = false := Bool.eq_false_iff.2 hr
      rw [hr'] at g6
      by_cases h64 : 64 ≤ S.fl.length
      · have he : actE S a = 11 := by unfold actE; rw [if_neg (by omega), if_neg (by omega), if_neg (by omega), if_neg (by rintro (h | h); exact h hi; omega), if_neg hr, if_pos hk, if_pos h64]
        refine spec_of pMix (O := [(9, ([], [⟨0, [], []⟩, ⟨1, [], []⟩, ⟨2, [], []⟩, ⟨3, [], []⟩, ⟨4, [], []⟩, ⟨5, [], []⟩, ⟨6, [], []⟩, ⟨7, [], []⟩, ⟨8, [], []⟩, ⟨9, [], [10]⟩, ⟨10, [], []⟩, ⟨11, [0], []⟩, ⟨12, [], []⟩, ⟨13, [], []⟩, ⟨14, [], []⟩]))]) Try.func58 (c := bodyOf Try.f58) rfl (by kernel_rfl) (by kernel_rfl) Try.ntmps58 (res := [.tmp 4, .tmp 5]) (by kernel_rfl) ?_
        repeat' ((conv => whnf); first | refine Rng.g ?_ | refine Ob.g ?_ | refine Ob.e ?_ | refine Ob.m ?_ | refine Ob.mk (Nat.le_of_ble_eq_true rfl) ?_ | refine JoinVC.on ?_ | refine Nils.mk (fun h => ?_) ?_ | refine Val.t ?_ | refine Val.d ?_ | refine Mm.mk ?_ | (refine Br.mk (fun h => ?_) (fun h => ?_) <;> first | (exfalso; omega; done) | (exfalso; simp at h; done) | skip))
        conv => whnf
        first | refine CallVC.mk [0, 1, 2, 3, 4, 5] _ _ _ rfl rfl rfl (c63) (fun r m' h' => ?_) | refine CallVC0.same [0, 1, 2, 3, 4, 5] _ _ _ rfl rfl rfl rfl (c63) (fun r m' h' => (by obtain ⟨rfl, rfl⟩ := h'; rfl)) (fun r m' h' => ?_) | (refine CallVC0.rows [0, 1, 2, 3, 4, 5] _ _ _ rfl rfl rfl ?_ (c63) (fun r m' h' => (by obtain ⟨rfl, rfl⟩ := h'; rfl)) (fun r m' h' => ?_); · (repeat' ((conv => whnf); first | exact trivial | exact rfl | exact Nat.le_refl _ | apply And.intro)))
        obtain ⟨rfl, rfl⟩ := h'
        conv => whnf
        repeat' ((conv => whnf); first | rw [g6] | refine Rng.g ?_ | refine Ob.g ?_ | refine Ob.e ?_ | refine Ob.m ?_ | refine Ob.mk (Nat.le_of_ble_eq_true rfl) ?_ | refine JoinVC.on ?_ | refine Nils.mk (fun h => ?_) ?_ | refine Val.t ?_ | refine Val.d ?_ | refine Mm.mk ?_ | (refine Br.mk (fun h => ?_) (fun h => ?_) <;> first | (exfalso; omega; done) | (exfalso; simp at h; done) | skip))
        repeat refine Mm.mk ?_
        conv => whnf
        refine EndVC.mk _ rfl _ _ (AcR.err hM he (by decide)) ?_
        refine ⟨[some 0, none, some 2, none, none, none, some 1, some 3, some 4, some 5], rfl, rfl, ?_, ?_⟩ <;> repeat' (first | exact trivial | exact rfl | exact Iff.rfl | apply And.intro)
      · have he : actE S a = 0 := by unfold actE; rw [if_neg (by omega), if_neg (by omega), if_neg (by omega), if_neg (by rintro (h | h); exact h hi; omega), if_neg hr, if_pos hk, if_neg h64]
        have hs : actS S a = { S with fl := S.fl ++ [(a.plate, a.place)], be := S.be.set a.plate.toNat (S.b a.plate ++ [(S.fl.length : Int)]) } := by unfold actS; rw [if_neg (by omega), if_neg (by omega), if_neg (by omega), if_pos hk]
        have hn : actN S a = S.fl.length := by unfold actN; rw [if_neg (by omega), if_neg (by omega), if_pos hk]
        have hsn := flA_snoc S.fl a.plate a.place
        have hb := hS.be a.plate.toNat (by omega)
        have hM' := hM.setI a.plate.toNat ((hM.2 a.plate.toNat (by omega)).put (n := (S.fl.length : Int)) (fun hc => by have := (hb.2 _ hc).2; omega))
        refine spec_of pMix (O := [(9, ([], [⟨0, [], []⟩, ⟨1, [], []⟩, ⟨2, [], []⟩, ⟨3, [], []⟩, ⟨4, [], []⟩, ⟨5, [], []⟩, ⟨6, [], []⟩, ⟨7, [], []⟩, ⟨8, [], []⟩, ⟨9, [], [10]⟩, ⟨10, [], []⟩, ⟨11, [0], []⟩, ⟨12, [], []⟩, ⟨13, [], []⟩, ⟨14, [], []⟩]))]) Try.func58 (c := bodyOf Try.f58) rfl (by kernel_rfl) (by kernel_rfl) Try.ntmps58 (res := [.tmp 4, .tmp 5]) (by kernel_rfl) ?_
        repeat' ((conv => whnf); first | refine Rng.g ?_ | refine Ob.g ?_ | refine Ob.e ?_ | refine Ob.m ?_ | refine Ob.mk (Nat.le_of_ble_eq_true rfl) ?_ | refine JoinVC.on ?_ | refine Nils.mk (fun h => ?_) ?_ | refine Val.t ?_ | refine Val.d ?_ | refine Mm.mk ?_ | (refine Br.mk (fun h => ?_) (fun h => ?_) <;> first | (exfalso; omega; done) | (exfalso; simp at h; done) | skip))
        conv => whnf
        first | refine CallVC.mk [0, 1, 2, 3, 4, 5] _ _ _ rfl rfl rfl (c63) (fun r m' h' => ?_) | refine CallVC0.same [0, 1, 2, 3, 4, 5] _ _ _ rfl rfl rfl rfl (c63) (fun r m' h' => (by obtain ⟨rfl, rfl⟩ := h'; rfl)) (fun r m' h' => ?_) | (refine CallVC0.rows [0, 1, 2, 3, 4, 5] _ _ _ rfl rfl rfl ?_ (c63) (fun r m' h' => (by obtain ⟨rfl, rfl⟩ := h'; rfl)) (fun r m' h' => ?_); · (repeat' ((conv => whnf); first | exact trivial | exact rfl | exact Nat.le_refl _ | apply And.intro)))
        obtain ⟨rfl, rfl⟩ := h'
        conv => whnf
        repeat' ((conv => whnf); first | rw [g6] | refine Rng.g ?_ | refine Ob.g ?_ | refine Ob.e ?_ | refine Ob.m ?_ | refine Ob.mk (Nat.le_of_ble_eq_true rfl) ?_ | refine JoinVC.on ?_ | refine Nils.mk (fun h => ?_) ?_ | refine Val.t ?_ | refine Val.d ?_ | refine Mm.mk ?_ | (refine Br.mk (fun h => ?_) (fun h => ?_) <;> first | (exfalso; omega; done) | (exfalso; simp at h; done) | skip))
        repeat refine Mm.mk ?_
        refine Ob.mk (by rw [eb120]; simp only [List.length_cons, List.length_nil]; omega) ?_
        repeat' ((conv => whnf); first | rw [hsn] | refine Rng.g ?_ | refine Ob.g ?_ | refine Ob.e ?_ | refine Ob.m ?_ | refine Ob.mk (Nat.le_of_ble_eq_true rfl) ?_ | refine JoinVC.on ?_ | refine Nils.mk (fun h => ?_) ?_ | refine Val.t ?_ | refine Val.d ?_ | refine Mm.mk ?_ | (refine Br.mk (fun h => ?_) (fun h => ?_) <;> first | (exfalso; omega; done) | (exfalso; simp at h; done) | skip))
        repeat refine Mm.mk ?_
        conv => whnf
        refine EndVC.mk _ rfl _ _ (AcR.ok he hs hM' hn) ?_
        refine ⟨[some 0, none, some 2, none, none, none, some 1, some 3, some 8, some 5], rfl, rfl, ?_, ?_⟩ <;> repeat' (first | exact trivial | exact rfl | exact Iff.rfl | apply And.intro)
        all_goals first
          | exact hsn
          | omega
          | rw [hl]
  · have he : actE S a = 5 := by unfold actE; rw [if_neg (by omega), if_neg (by omega), if_neg (by omega), if_pos (.inl hi)]
    rw [getR, if_neg hi] at c63
    refine spec_of pMix (O := [(9, ([], [⟨0, [], []⟩, ⟨1, [], []⟩, ⟨2, [], []⟩, ⟨3, [], []⟩, ⟨4, [], []⟩, ⟨5, [], []⟩, ⟨6, [], []⟩, ⟨7, [], []⟩, ⟨8, [], []⟩, ⟨9, [], [10]⟩, ⟨10, [], []⟩, ⟨11, [0], []⟩, ⟨12, [], []⟩, ⟨13, [], []⟩, ⟨14, [], []⟩]))]) Try.func58 (c := bodyOf Try.f58) rfl (by kernel_rfl) (by kernel_rfl) Try.ntmps58 (res := [.tmp 4, .tmp 5]) (by kernel_rfl) ?_
    repeat' ((conv => whnf); first | refine Rng.g ?_ | refine Ob.g ?_ | refine Ob.e ?_ | refine Ob.m ?_ | refine Ob.mk (Nat.le_of_ble_eq_true rfl) ?_ | refine JoinVC.on ?_ | refine Nils.mk (fun h => ?_) ?_ | refine Val.t ?_ | refine Val.d ?_ | refine Mm.mk ?_ | (refine Br.mk (fun h => ?_) (fun h => ?_) <;> first | (exfalso; omega; done) | (exfalso; simp at h; done) | skip))
    conv => whnf
    first | refine CallVC.mk [0, 1, 2, 3, 4, 5] _ _ _ rfl rfl rfl (c63) (fun r m' h' => ?_) | refine CallVC0.same [0, 1, 2, 3, 4, 5] _ _ _ rfl rfl rfl rfl (c63) (fun r m' h' => (by obtain ⟨rfl, rfl⟩ := h'; rfl)) (fun r m' h' => ?_) | (refine CallVC0.rows [0, 1, 2, 3, 4, 5] _ _ _ rfl rfl rfl ?_ (c63) (fun r m' h' => (by obtain ⟨rfl, rfl⟩ := h'; rfl)) (fun r m' h' => ?_); · (repeat' ((conv => whnf); first | exact trivial | exact rfl | exact Nat.le_refl _ | apply And.intro)))
    obtain ⟨rfl, rfl⟩ := h'
    conv => whnf
    repeat' ((conv => whnf); first | refine Rng.g ?_ | refine Ob.g ?_ | refine Ob.e ?_ | refine Ob.m ?_ | refine Ob.mk (Nat.le_of_ble_eq_true rfl) ?_ | refine JoinVC.on ?_ | refine Nils.mk (fun h => ?_) ?_ | refine Val.t ?_ | refine Val.d ?_ | refine Mm.mk ?_ | (refine Br.mk (fun h => ?_) (fun h => ?_) <;> first | (exfalso; omega; done) | (exfalso; simp at h; done) | skip))
    repeat refine Mm.mk ?_
    conv => whnf
    refine EndVC.mk _ rfl _ _ (AcR.err hM he (by decide)) ?_
    refine ⟨[some 0, none, some 2, none, none, none, some 1, some 3, some 4, some 5], rfl, rfl, ?_, ?_⟩ <;> repeat' (first | exact trivial | exact rfl | exact Iff.rfl | apply And.intro)
theorem s59 (S : Sho) (ms : List MS) (hS : ShOK S) (hM : MsOK ms S.be) (a : Act2) (hk : a.kd = 5) : HSpec Try.prog 59 [.one (.ptr 0 0), a.x] (shM S ms) (AcR S a) := by
  have c63 := s63 S ms a.plate
  have hl := flA_len S.fl
  have hnb := hS.nb
  by_cases hi : inP S a.plate
  · rw [getR, if_pos hi] at c63
    have g6 := pl_6 S.pl a.plate.toNat
    have hil : a.plate.toNat < S.pl.length := by unfold inP at hi; omega
    by_cases hf : a.flaw < 0 ∨ (S.fl.length : Int) ≤ a.flaw
    · have he : actE S a = 5 := by unfold actE; rw [if_neg (by omega), if_neg (by omega), if_neg (by omega), if_pos (.inr ⟨hk, hf⟩)]
      refine spec_of pMix (O := [(6, ([10], [⟨0, [], []⟩, ⟨1, [], []⟩, ⟨2, [], []⟩, ⟨3, [], []⟩, ⟨4, [], []⟩, ⟨5, [], []⟩, ⟨6, [], []⟩, ⟨7, [], []⟩, ⟨8, [], []⟩, ⟨9, [], []⟩, ⟨10, [], []⟩, ⟨11, [9], []⟩, ⟨12, [], []⟩]))]) Try.func59 (c := bodyOf Try.f59) rfl (by kernel_rfl) (by kernel_rfl) Try.ntmps59 (res := [.tmp 4, .tmp 5]) (by kernel_rfl) ?_
      repeat' ((conv => whnf); first | refine Rng.g ?_ | refine Ob.g ?_ | refine Ob.e ?_ | refine Ob.m ?_ | refine Ob.mk (Nat.le_of_ble_eq_true rfl) ?_ | refine JoinVC.on ?_ | refine Nils.mk (fun h => ?_) ?_ | refine Val.t ?_ | refine Val.d ?_ | refine Mm.mk ?_ | (refine Br.mk (fun h => ?_) (fun h => ?_) <;> first | (exfalso; omega; done) | (exfalso; simp at h; done) | skip))
      conv => whnf
      first | refine CallVC.mk [0, 1, 2, 3, 4, 5] _ _ _ rfl rfl rfl (c63) (fun r m' h' => ?_) | refine CallVC0.same [0, 1, 2, 3, 4, 5] _ _ _ rfl rfl rfl rfl (c63) (fun r m' h' => (by obtain ⟨rfl, rfl⟩ := h'; rfl)) (fun r m' h' => ?_) | (refine CallVC0.rows [0, 1, 2, 3, 4, 5] _ _ _ rfl rfl rfl ?_ (c63) (fun r m' h' => (by obtain ⟨rfl, rfl⟩ := h'; rfl)) (fun r m' h' => ?_); · (repeat' ((conv => whnf); first | exact trivial | exact rfl | exact Nat.le_refl _ | apply And.intro)))
      obtain ⟨rfl, rfl⟩ := h'
      conv => whnf
      repeat' ((conv => whnf); first | refine Rng.g ?_ | refine Ob.g ?_ | refine Ob.e ?_ | refine Ob.m ?_ | refine Ob.mk (Nat.le_of_ble_eq_true rfl) ?_ | refine JoinVC.on ?_ | refine Nils.mk (fun h => ?_) ?_ | refine Val.t ?_ | refine Val.d ?_ | refine Mm.mk ?_ | (refine Br.mk (fun h => ?_) (fun h => ?_) <;> first | (exfalso; omega; done) | (exfalso; simp at h; done) | skip))
      all_goals
        repeat refine Mm.mk ?_
        conv => whnf
        refine EndVC.mk _ rfl _ _ (AcR.err hM he (by decide)) ?_
        refine ⟨[some 0, none, some 2, none, none, none, some 1, some 3, some 4, some 5], rfl, rfl, ?_, ?_⟩ <;> repeat' (first | exact trivial | exact rfl | exact Iff.rfl | apply And.intro)
    have hgo : ¬ (¬ inP S a.plate ∨ (a.kd = 5 ∧ (a.flaw < 0 ∨ (S.fl.length : Int) ≤ a.flaw))) := by rintro (h | h); exact h hi; exact hf h.2
    by_cases hr : (S.p a.plate).ret = true
    · have he : actE S a = 10 := by unfold actE; rw [if_neg (by omega), if_neg (by omega), if_neg (by omega), if_neg hgo, if_pos hr]
      rw [show (S.pl.getD a.plate.toNat p0).ret = true from hr] at g6
      refine spec_of pMix (O := [(6, ([10], [⟨0, [], []⟩, ⟨1, [], []⟩, ⟨2, [], []⟩, ⟨3, [], []⟩, ⟨4, [], []⟩, ⟨5, [], []⟩, ⟨6, [], []⟩, ⟨7, [], []⟩, ⟨8, [], []⟩, ⟨9, [], []⟩, ⟨10, [], []⟩, ⟨11, [9], []⟩, ⟨12, [], []⟩]))]) Try.func59 (c := bodyOf Try.f59) rfl (by kernel_rfl) (by kernel_rfl) Try.ntmps59 (res := [.tmp 4, .tmp 5]) (by kernel_rfl) ?_
      repeat' ((conv => whnf); first | refine Rng.g ?_ | refine Ob.g ?_ | refine Ob.e ?_ | refine Ob.m ?_ | refine Ob.mk (Nat.le_of_ble_eq_true rfl) ?_ | refine JoinVC.on ?_ | refine Nils.mk (fun h => ?_) ?_ | refine Val.t ?_ | refine Val.d ?_ | refine Mm.mk ?_ | (refine Br.mk (fun h => ?_) (fun h => ?_) <;> first | (exfalso; omega; done) | (exfalso; simp at h; done) | skip))
      conv => whnf
      first | refine CallVC.mk [0, 1, 2, 3, 4, 5] _ _ _ rfl rfl rfl (c63) (fun r m' h' => ?_) | refine CallVC0.same [0, 1, 2, 3, 4, 5] _ _ _ rfl rfl rfl rfl (c63) (fun r m' h' => (by obtain ⟨rfl, rfl⟩ := h'; rfl)) (fun r m' h' => ?_) | (refine CallVC0.rows [0, 1, 2, 3, 4, 5] _ _ _ rfl rfl rfl ?_ (c63) (fun r m' h' => (by obtain ⟨rfl, rfl⟩ := h'; rfl)) (fun r m' h' => ?_); · (repeat' ((conv => whnf); first | exact trivial | exact rfl | exact Nat.le_refl _ | apply And.intro)))
      obtain ⟨rfl, rfl⟩ := h'
      conv => whnf
      repeat' ((conv => whnf); first | rw [g6] | refine Rng.g ?_ | refine Ob.g ?_ | refine Ob.e ?_ | refine Ob.m ?_ | refine Ob.mk (Nat.le_of_ble_eq_true rfl) ?_ | refine JoinVC.on ?_ | refine Nils.mk (fun h => ?_) ?_ | refine Val.t ?_ | refine Val.d ?_ | refine Mm.mk ?_ | (refine Br.mk (fun h => ?_) (fun h => ?_) <;> first | (exfalso; omega; done) | (exfalso; simp at h; done) | skip))
      repeat refine Mm.mk ?_
      conv => whnf
      refine EndVC.mk _ rfl _ _ (AcR.err hM he (by decide)) ?_
      refine ⟨[some 0, none, some 2, none, none, none, some 1, some 3, some 4, some 5], rfl, rfl, ?_, ?_⟩ <;> repeat' (first | exact trivial | exact rfl | exact Iff.rfl | apply And.intro)
    · have hr' : (S.pl.getD a.plate.toNat p0).ret = false := Bool.eq_false_iff.2 hr
      rw [hr'] at g6
      have hm := hM.2 a.plate.toNat (by omega)
      have hmm : a.flaw ∈ (ms.getD a.plate.toNat ms0).ks ↔ a.flaw ∈ S.b a.plate := hm.mem a.flaw
      by_cases hb : a.flaw ∈ S.b a.plate
      · have he : actE S a = 0 := by unfold actE; rw [if_neg (by omega), if_neg (by omega), if_neg (by omega), if_neg hgo, if_neg hr, if_neg (by omega), if_pos hk, if_pos hb]
        have hs : actS S a = { S with be := S.be.set a.plate.toNat ((S.b a.plate).filter fun x => decide (x ≠ a.flaw)) } := by unfold actS; rw [if_neg (by omega), if_neg (by omega), if_neg (by omega), if_neg (by omega), if_pos hk]
        have hn : actN S a = 0 := by unfold actN; rw [if_neg (by omega), if_neg (by omega), if_neg (by omega)]
        have hM' := hM.setI a.plate.toNat (hm.del a.flaw)
        have hb' := hmm.2 hb
        refine spec_of pMix (O := [(6, ([10], [⟨0, [], []⟩, ⟨1, [], []⟩, ⟨2, [], []⟩, ⟨3, [], []⟩, ⟨4, [], []⟩, ⟨5, [], []⟩, ⟨6, [], []⟩, ⟨7, [], []⟩, ⟨8, [], []⟩, ⟨9, [], []⟩, ⟨10, [], []⟩, ⟨11, [9], []⟩, ⟨12, [], []⟩]))]) Try.func59 (c := bodyOf Try.f59) rfl (by kernel_rfl) (by kernel_rfl) Try.ntmps59 (res := [.tmp 4, .tmp 5]) (by kernel_rfl) ?_
        repeat' ((conv => whnf); first | refine Rng.g ?_ | refine Ob.g ?_ | refine Ob.e ?_ | refine Ob.m ?_ | refine Ob.mk (Nat.le_of_ble_eq_true rfl) ?_ | refine JoinVC.on ?_ | refine Nils.mk (fun h => ?_) ?_ | refine Val.t ?_ | refine Val.d ?_ | refine Mm.mk ?_ | (refine Br.mk (fun h => ?_) (fun h => ?_) <;> first | (exfalso; omega; done) | (exfalso; simp at h; done) | skip))
        conv => whnf
        first | refine CallVC.mk [0, 1, 2, 3, 4, 5] _ _ _ rfl rfl rfl (c63) (fun r m' h' => ?_) | refine CallVC0.same [0, 1, 2, 3, 4, 5] _ _ _ rfl rfl rfl rfl (c63) (fun r m' h' => (by obtain ⟨rfl, rfl⟩ := h'; rfl)) (fun r m' h' => ?_) | (refine CallVC0.rows [0, 1, 2, 3, 4, 5] _ _ _ rfl rfl rfl ?_ (c63) (fun r m' h' => (by obtain ⟨rfl, rfl⟩ := h'; rfl)) (fun r m' h' => ?_); · (repeat' ((conv => whnf); first | exact trivial | exact rfl | exact Nat.le_refl _ | apply And.intro)))
        obtain ⟨rfl, rfl⟩ := h'
        conv => whnf
        repeat' ((conv => whnf); first | rw [g6] | refine Rng.g ?_ | refine Ob.g ?_ | refine Ob.e ?_ | refine Ob.m ?_ | refine Ob.mk (Nat.le_of_ble_eq_true rfl) ?_ | refine JoinVC.on ?_ | refine Nils.mk (fun h => ?_) ?_ | refine Val.t ?_ | refine Val.d ?_ | refine Mm.mk ?_ | (refine Br.mk (fun h => ?_) (fun h => ?_) <;> first | (exfalso; omega; done) | (exfalso; simp at h; done) | skip))
        · exact absurd hb' h
        repeat' ((conv => whnf); first | refine Rng.g ?_ | refine Ob.g ?_ | refine Ob.e ?_ | refine Ob.m ?_ | refine Ob.mk (Nat.le_of_ble_eq_true rfl) ?_ | refine JoinVC.on ?_ | refine Nils.mk (fun h => ?_) ?_ | refine Val.t ?_ | refine Val.d ?_ | refine Mm.mk ?_ | (refine Br.mk (fun h => ?_) (fun h => ?_) <;> first | (exfalso; omega; done) | (exfalso; simp at h; done) | skip))
        repeat refine Mm.mk ?_
        conv => whnf
        refine EndVC.mk _ rfl _ _ (AcR.ok he hs hM' hn) ?_
        refine ⟨[some 0, none, some 2, none, none, none, some 1, some 3, some 4, some 5], rfl, rfl, ?_, ?_⟩ <;> repeat' (first | exact trivial | exact rfl | exact Iff.rfl | apply And.intro)
      · have he : actE S a = 19 := by unfold actE; rw [if_neg (by omega), if_neg (by omega), if_neg (by omega), if_neg hgo, if_neg hr, if_neg (by omega), if_pos hk, if_neg hb]
        have hb' := fun h => hb (hmm.1 h)
        refine spec_of pMix (O := [(6, ([10], [⟨0, [], []⟩, ⟨1, [], []⟩, ⟨2, [], []⟩, ⟨3, [], []⟩, ⟨4, [], []⟩, ⟨5, [], []⟩, ⟨6, [], []⟩, ⟨7, [], []⟩, ⟨8, [], []⟩, ⟨9, [], []⟩, ⟨10, [], []⟩, ⟨11, [9], []⟩, ⟨12, [], []⟩]))]) Try.func59 (c := bodyOf Try.f59) rfl (by kernel_rfl) (by kernel_rfl) Try.ntmps59 (res := [.tmp 4, .tmp 5]) (by kernel_rfl) ?_
        repeat' ((conv => whnf); first | refine Rng.g ?_ | refine Ob.g ?_ | refine Ob.e ?_ | refine Ob.m ?_ | refine Ob.mk (Nat.le_of_ble_eq_true rfl) ?_ | refine JoinVC.on ?_ | refine Nils.mk (fun h => ?_) ?_ | refine Val.t ?_ | refine Val.d ?_ | refine Mm.mk ?_ | (refine Br.mk (fun h => ?_) (fun h => ?_) <;> first | (exfalso; omega; done) | (exfalso; simp at h; done) | skip))
        conv => whnf
        first | refine CallVC.mk [0, 1, 2, 3, 4, 5] _ _ _ rfl rfl rfl (c63) (fun r m' h' => ?_) | refine CallVC0.same [0, 1, 2, 3, 4, 5] _ _ _ rfl rfl rfl rfl (c63) (fun r m' h' => (by obtain ⟨rfl, rfl⟩ := h'; rfl)) (fun r m' h' => ?_) | (refine CallVC0.rows [0, 1, 2, 3, 4, 5] _ _ _ rfl rfl rfl ?_ (c63) (fun r m' h' => (by obtain ⟨rfl, rfl⟩ := h'; rfl)) (fun r m' h' => ?_); · (repeat' ((conv => whnf); first | exact trivial | exact rfl | exact Nat.le_refl _ | apply And.intro)))
        obtain ⟨rfl, rfl⟩ := h'
        conv => whnf
        repeat' ((conv => whnf); first | rw [g6] | refine Rng.g ?_ | refine Ob.g ?_ | refine Ob.e ?_ | refine Ob.m ?_ | refine Ob.mk (Nat.le_of_ble_eq_true rfl) ?_ | refine JoinVC.on ?_ | refine Nils.mk (fun h => ?_) ?_ | refine Val.t ?_ | refine Val.d ?_ | refine Mm.mk ?_ | (refine Br.mk (fun h => ?_) (fun h => ?_) <;> first | (exfalso; omega; done) | (exfalso; simp at h; done) | skip))
        rotate_left
        · exact absurd hb' h
        repeat refine Mm.mk ?_
        conv => whnf
        refine EndVC.mk _ rfl _ _ (AcR.err hM he (by decide)) ?_
        refine ⟨[some 0, none, some 2, none, none, none, some 1, some 3, some 4, some 5], rfl, rfl, ?_, ?_⟩ <;> repeat' (first | exact trivial | exact rfl | exact Iff.rfl | apply And.intro)
  · have he : actE S a = 5 := by unfold actE; rw [if_neg (by omega), if_neg (by omega), if_neg (by omega), if_pos (.inl hi)]
    rw [getR, if_neg hi] at c63
    refine spec_of pMix (O := [(6, ([10], [⟨0, [], []⟩, ⟨1, [], []⟩, ⟨2, [], []⟩, ⟨3, [], []⟩, ⟨4, [], []⟩, ⟨5, [], []⟩, ⟨6, [], []⟩, ⟨7, [], []⟩, ⟨8, [], []⟩, ⟨9, [], []⟩, ⟨10, [], []⟩, ⟨11, [9], []⟩, ⟨12, [], []⟩]))]) Try.func59 (c := bodyOf Try.f59) rfl (by kernel_rfl) (by kernel_rfl) Try.ntmps59 (res := [.tmp 4, .tmp 5]) (by kernel_rfl) ?_
    repeat' ((conv => whnf); first | refine Rng.g ?_ | refine Ob.g ?_ | refine Ob.e ?_ | refine Ob.m ?_ | refine Ob.mk (Nat.le_of_ble_eq_true rfl) ?_ | refine JoinVC.on ?_ | refine Nils.mk (fun h => ?_) ?_ | refine Val.t ?_ | refine Val.d ?_ | refine Mm.mk ?_ | (refine Br.mk (fun h => ?_) (fun h => ?_) <;> first | (exfalso; omega; done) | (exfalso; simp at h; done) | skip))
    conv => whnf
    first | refine CallVC.mk [0, 1, 2, 3, 4, 5] _ _ _ rfl rfl rfl (c63) (fun r m' h' => ?_) | refine CallVC0.same [0, 1, 2, 3, 4, 5] _ _ _ rfl rfl rfl rfl (c63) (fun r m' h' => (by obtain ⟨rfl, rfl⟩ := h'; rfl)) (fun r m' h' => ?_) | (refine CallVC0.rows [0, 1, 2, 3, 4, 5] _ _ _ rfl rfl rfl ?_ (c63) (fun r m' h' => (by obtain ⟨rfl, rfl⟩ := h'; rfl)) (fun r m' h' => ?_); · (repeat' ((conv => whnf); first | exact trivial | exact rfl | exact Nat.le_refl _ | apply And.intro)))
    obtain ⟨rfl, rfl⟩ := h'
    conv => whnf
    repeat' ((conv => whnf); first | refine Rng.g ?_ | refine Ob.g ?_ | refine Ob.e ?_ | refine Ob.m ?_ | refine Ob.mk (Nat.le_of_ble_eq_true rfl) ?_ | refine JoinVC.on ?_ | refine Nils.mk (fun h => ?_) ?_ | refine Val.t ?_ | refine Val.d ?_ | refine Mm.mk ?_ | (refine Br.mk (fun h => ?_) (fun h => ?_) <;> first | (exfalso; omega; done) | (exfalso; simp at h; done) | skip))
    repeat refine Mm.mk ?_
    conv => whnf
    refine EndVC.mk _ rfl _ _ (AcR.err hM he (by decide)) ?_
    refine ⟨[some 0, none, some 2, none, none, none, some 1, some 3, some 4, some 5], rfl, rfl, ?_, ?_⟩ <;> repeat' (first | exact trivial | exact rfl | exact Iff.rfl | apply And.intro)
end Go.Sx

namespace Go.Sx
open Go Go.Proofs
set_option maxRecDepth 10000
set_option maxHeartbeats 8000000
/-! ### A growth -/
theorem herE_0 {S : Sho} {a : Act2} (hS : ShOK S) (h : herE S a = 0) : inP S a.plate ∧ inT S a.bath ∧ (S.p a.plate).ret = false ∧ S.pl.length < 256 ∧ (S.p a.plate).kd ≤ 2 ∧ (S.p a.plate).grown < capP S.r (S.p a.plate).kd := by
  unfold herE at h
  split at h
  · cases h
  rename_i h1
  split at h
  · cases h
  rename_i h2
  split at h
  · cases h
  rename_i h3
  have hi : inP S a.plate := Classical.byContradiction fun hc => h1 (.inl hc)
  have hi' := hi
  unfold inP at hi'
  have hp := hS.pl a.plate.toNat (by omega)
  have hr : (S.p a.plate).ret = false := Bool.eq_false_iff.2 h2
  have hk := hp.kd
  have hg := hp.grown
  have h5 : roomP S.r (S.p a.plate) = max 0 (capP S.r (S.p a.plate).kd - (S.p a.plate).grown) := by unfold roomP; rw [hr]; rfl
  have h6 : (S.p a.plate).grown < capP S.r (S.p a.plate).kd := by omega
  refine ⟨hi, ⟨by omega, by omega⟩, hr, by omega, ?_, h6⟩
  have hk : 0 ≤ (S.p a.plate).kd ∧ (S.p a.plate).kd ≤ 3 := hk
  have hg : 0 ≤ (S.p a.plate).grown := hg.1
  rcases (show (S.p a.plate).kd ≤ 2 ∨ (S.p a.plate).kd = 3 by omega) with h | h
  · exact h
  · rw [h] at h6
    have : capP S.r 3 = 0 := rfl
    omega
theorem getD_set {α : Type} (l : List α) (i j : Nat) (a d : α) : (l.set i a).getD j d = if i = j ∧ j < l.length then a else l.getD j d := by
  rw [List.getD_eq_getElem?_getD, List.getD_eq_getElem?_getD, List.getElem?_set]
  by_cases h : i = j
  · subst h
    by_cases h2 : i < l.length
    · simp [h2]
    · simp [h2]
  · simp [h]
theorem getD_app {α : Type} (l : List α) (i : Nat) (a d : α) : (l ++ [a]).getD i d = if i < l.length then l.getD i d else if i = l.length then a else d := by
  rw [List.getD_eq_getElem?_getD, List.getD_eq_getElem?_getD]
  by_cases h : i < l.length
  · rw [if_pos h, List.getElem?_append_left h]
  · rw [if_neg h]
    by_cases h2 : i = l.length
    · subst h2; simp
    · rw [if_neg h2, List.getElem?_append_right (by omega), List.getElem?_eq_none (by simp; omega)]; rfl
theorem nodup_le {α : Type} [DecidableEq α] : ∀ (l m : List α), l.Nodup → (∀ x ∈ l, x ∈ m) → l.length ≤ m.length
  | [], _, _, _ => Nat.zero_le _
  | x :: l, m, h, hs => by
    obtain ⟨h1, h2⟩ := List.nodup_cons.1 h
    have hx := hs x (.head _)
    have := nodup_le l (m.erase x) h2 (fun y hy => (List.mem_erase_of_ne (by rintro rfl; exact h1 hy)).2 (hs y (.tail _ hy)))
    rw [List.length_erase_of_mem hx] at this
    have hp : 0 < m.length := List.length_pos_of_mem hx
    simp
    omega
theorem es_uniq : ∀ {es : List (Int × Nat)}, (es.map (·.1)).Nodup → ∀ {k : Int} {b b' : Nat}, (k, b) ∈ es → (k, b') ∈ es → b = b'
  | [], _, k, b, b', h, _ => by simp at h
  | e :: es, hn, k, b, b', h1, h2 => by
    simp only [List.map_cons, List.nodup_cons] at hn
    rcases List.mem_cons.1 h1 with q1 | q1 <;> rcases List.mem_cons.1 h2 with q2 | q2
    · rw [← q1] at q2; cases q2; rfl
    · exact (hn.1 (List.mem_map.2 ⟨_, q2, by rw [← q1]⟩)).elim
    · exact (hn.1 (List.mem_map.2 ⟨_, q1, by rw [← q2]⟩)).elim
    · exact es_uniq hn.2 q1 q2
theorem es_uniq2 : ∀ {es : List (Int × Nat)}, (es.map (·.2)).Nodup → ∀ {k k' : Int} {b : Nat}, (k, b) ∈ es → (k', b) ∈ es → k = k'
  | [], _, k, b, b', h, _ => by simp at h
  | e :: es, hn, k, k', b, h1, h2 => by
    simp only [List.map_cons, List.nodup_cons] at hn
    rcases List.mem_cons.1 h1 with q1 | q1 <;> rcases List.mem_cons.1 h2 with q2 | q2
    · rw [← q1] at q2; cases q2; rfl
    · exact (hn.1 (List.mem_map.2 ⟨_, q2, by rw [← q1]⟩)).elim
    · exact (hn.1 (List.mem_map.2 ⟨_, q1, by rw [← q2]⟩)).elim
    · exact es_uniq2 hn.2 q1 q2
/-- A set that is being copied. -/
structure CopyI (m : MS) (seen : List Nat) (m' : MS) : Prop where
  sub : ∀ b ∈ seen, ∃ k, (k, b) ∈ m.es
  nds : seen.Nodup
  ks : ∀ k, k ∈ m'.ks ↔ ∃ b ∈ seen, (k, b) ∈ m.es
  nd : m'.ks.Nodup
  st : ∀ e ∈ m'.es, e.2 < m'.c
@[reducible] def mE (c : Nat) : MS := ⟨[], c⟩
theorem CopyI.nil (m : MS) (c : Nat) : CopyI m [] ⟨[], c⟩ := ⟨fun b hb => by simp at hb, by simp, fun k => by simp [MS.ks], by simp [MS.ks], fun e he => by simp at he⟩
theorem CopyI.len {m : MS} {seen : List Nat} {m' : MS} (h : CopyI m seen m') : seen.length ≤ m.es.length := by
  have := nodup_le seen (m.es.map (·.2)) h.nds (fun b hb => by
    obtain ⟨k, hk⟩ := h.sub b hb
    exact List.mem_map.2 ⟨_, hk, rfl⟩)
  simpa using this
theorem CopyI.step {m : MS} {seen : List Nat} {m' : MS} (h : CopyI m seen m') (hn : m.ks.Nodup) (hs : (m.es.map (·.2)).Nodup) {k : Int} {b : Nat} (hk : (k, b) ∈ m.es) (hb : b ∉ seen) : CopyI m (seen ++ [b]) (m'.put k) := by
  have hkn : k ∉ m'.ks := fun hc => by
    obtain ⟨b', h1, h2⟩ := (h.ks k).1 hc
    exact hb (es_uniq hn hk h2 ▸ h1)
  have e : m'.put k = ⟨m'.es ++ [(k, m'.c)], m'.c + 1⟩ := by unfold MS.put; rw [if_neg hkn]
  have ek : (m'.put k).ks = m'.ks ++ [k] := by rw [e]; simp [MS.ks]
  refine ⟨fun b' hb' => ?_, ?_, fun k' => ?_, ?_, fun q hq => ?_⟩
  · rcases List.mem_append.1 hb' with h1 | h1
    · exact h.sub b' h1
    · rw [List.mem_singleton.1 h1]; exact ⟨k, hk⟩
  · exact List.nodup_append.2 ⟨h.nds, by simp, fun x hx y hy => by simp at hy; subst hy; rintro rfl; exact hb hx⟩
  · rw [ek, List.mem_append, List.mem_singleton, h.ks]
    constructor
    · rintro (⟨b', h1, h2⟩ | rfl)
      · exact ⟨b', List.mem_append_left _ h1, h2⟩
      · exact ⟨b, by simp, hk⟩
    · rintro ⟨b', h1, h2⟩
      rcases List.mem_append.1 h1 with h1 | h1
      · exact .inl ⟨b', h1, h2⟩
      · obtain rfl := List.mem_singleton.1 h1
        exact .inr (es_uniq2 hs h2 hk)
  · rw [ek]
    exact List.nodup_append.2 ⟨h.nd, by simp, fun x hx y hy => by simp at hy; subst hy; rintro rfl; exact hkn hx⟩
  · rw [e] at hq ⊢
    simp only [List.mem_append, List.mem_singleton] at hq
    rcases hq with hq | rfl
    · exact Nat.lt_succ_of_lt (h.st q hq)
    · exact Nat.lt_succ_self _
theorem CopyI.done {m : MS} {seen : List Nat} {m' : MS} {l : List Int} (h : CopyI m seen m') (hm : SetOK m l) (ho : ∀ e ∈ m.es, e.2 ∈ seen) : SetOK m' l := by
  refine ⟨fun k => ?_, h.nd, h.st⟩
  rw [h.ks, ← hm.mem]
  constructor
  · rintro ⟨b, _, h2⟩
    exact List.mem_map.2 ⟨_, h2, rfl⟩
  · intro hk
    obtain ⟨e, he, rfl⟩ := List.mem_map.1 hk
    exact ⟨e.2, ho e he, he⟩
theorem s57 (S : Sho) (ms : List MS) (hS : ShOK S) (hM : MsOK ms S.be) (a : Act2) (ha : GroOK a) (hk : a.kd = 3) : HSpec Try.prog 57 [.one (.ptr 0 0), a.x] (shM S ms) (AcR S a) := by
  have c62 := s62 S ms hS a ha
  have hA : actE S a = groE S a := by unfold actE; rw [if_neg (by omega), if_neg (by omega), if_pos hk]
  by_cases h1 : herE S a = 0
  rotate_left
  · have he : actE S a = herE S a := by rw [hA, groE, if_pos h1]
    refine spec_of pMix (O := [(7, ([14], [⟨0, [], []⟩, ⟨1, [], []⟩, ⟨3, [], []⟩, ⟨4, [], []⟩, ⟨5, [], []⟩, ⟨6, [], []⟩, ⟨7, [], []⟩, ⟨8, [], []⟩, ⟨9, [], []⟩, ⟨10, [], []⟩, ⟨11, [], []⟩, ⟨12, [], []⟩, ⟨2, [3, 4, 5, 6, 7, 8, 9, 10, 11, 12], []⟩, ⟨13, [3, 4, 5, 6, 7, 8, 9], []⟩, ⟨14, [], []⟩, ⟨15, [3, 4, 5, 6, 7, 8, 9], []⟩, ⟨16, [], []⟩, ⟨17, [], []⟩])), (8, ([], [⟨0, [], []⟩, ⟨1, [], []⟩, ⟨2, [], []⟩, ⟨3, [], []⟩, ⟨4, [], []⟩, ⟨5, [], []⟩, ⟨6, [], []⟩, ⟨7, [], []⟩, ⟨8, [], []⟩, ⟨9, [], []⟩, ⟨10, [], []⟩, ⟨11, [], []⟩, ⟨12, [], []⟩, ⟨13, [], []⟩, ⟨14, [], []⟩, ⟨15, [], []⟩, ⟨16, [], []⟩, ⟨17, [], []⟩, ⟨18, [], []⟩, ⟨19, [], []⟩, ⟨20, [], []⟩, ⟨21, [], []⟩, ⟨22, [], []⟩, ⟨23, [], []⟩, ⟨24, [], []⟩, ⟨25, [], []⟩, ⟨26, [1, 2, 14, 15, 16, 21, 22, 23], []⟩, ⟨27, [], []⟩, ⟨28, [], []⟩, ⟨29, [2, 21, 22, 23], []⟩, ⟨30, [], []⟩, ⟨31, [], []⟩, ⟨32, [], []⟩]))]) Try.func57 (c := bodyOf Try.f57) rfl (by kernel_rfl) (by kernel_rfl) Try.ntmps57 (res := [.tmp 4, .tmp 5]) (by kernel_rfl) ?_
    repeat' ((conv => whnf); first | refine Rng.g ?_ | refine Ob.g ?_ | refine Ob.e ?_ | refine Ob.m ?_ | refine Ob.mk (Nat.le_of_ble_eq_true rfl) ?_ | refine JoinVC.on ?_ | refine Nils.mk (fun h => ?_) ?_ | refine Val.t ?_ | refine Val.d ?_ | refine Mm.mk ?_ | (refine Br.mk (fun h => ?_) (fun h => ?_) <;> first | (exfalso; omega; done) | (exfalso; simp at h; done) | skip))
    conv => whnf
    first | refine CallVC.mk [0, 1, 2, 3, 4, 5] _ _ _ rfl rfl rfl (c62) (fun r m' h' => ?_) | refine CallVC0.same [0, 1, 2, 3, 4, 5] _ _ _ rfl rfl rfl rfl (c62) (fun r m' h' => (by obtain ⟨rfl, rfl⟩ := h'; rfl)) (fun r m' h' => ?_) | (refine CallVC0.rows [0, 1, 2, 3, 4, 5] _ _ _ rfl rfl rfl ?_ (c62) (fun r m' h' => (by obtain ⟨rfl, rfl⟩ := h'; rfl)) (fun r m' h' => ?_); · (repeat' ((conv => whnf); first | exact trivial | exact rfl | exact Nat.le_refl _ | apply And.intro)))
    obtain ⟨rfl, rfl⟩ := h'
    conv => whnf
    repeat' ((conv => whnf); first | refine Rng.g ?_ | refine Ob.g ?_ | refine Ob.e ?_ | refine Ob.m ?_ | refine Ob.mk (Nat.le_of_ble_eq_true rfl) ?_ | refine JoinVC.on ?_ | refine Nils.mk (fun h => ?_) ?_ | refine Val.t ?_ | refine Val.d ?_ | refine Mm.mk ?_ | (refine Br.mk (fun h => ?_) (fun h => ?_) <;> first | (exfalso; omega; done) | (exfalso; simp at h; done) | skip))
    repeat refine Mm.mk ?_
    conv => whnf
    refine EndVC.mk _ rfl _ _ (AcR.err hM he h1) ?_
    refine ⟨[some 0, none, some 2, none, none, none, some 1, some 3, some 4, some 5], rfl, rfl, ?_, ?_⟩ <;> repeat' (first | exact trivial | exact rfl | exact Iff.rfl | apply And.intro)
  obtain ⟨hi, hb, hret, h256, hkd, hcap⟩ := herE_0 hS h1
  have c65 := s65 S ms hS a ha hi hb hkd
  rw [h1] at c62
  by_cases h2 : layE S a = 0
  rotate_left
  · have he : actE S a = layE S a := by rw [hA, groE, if_neg (by omega)]
    rw [if_neg h2] at c65
    refine spec_of pMix (O := [(7, ([14], [⟨0, [], []⟩, ⟨1, [], []⟩, ⟨3, [], []⟩, ⟨4, [], []⟩, ⟨5, [], []⟩, ⟨6, [], []⟩, ⟨7, [], []⟩, ⟨8, [], []⟩, ⟨9, [], []⟩, ⟨10, [], []⟩, ⟨11, [], []⟩, ⟨12, [], []⟩, ⟨2, [3, 4, 5, 6, 7, 8, 9, 10, 11, 12], []⟩, ⟨13, [3, 4, 5, 6, 7, 8, 9], []⟩, ⟨14, [], []⟩, ⟨15, [3, 4, 5, 6, 7, 8, 9], []⟩, ⟨16, [], []⟩, ⟨17, [], []⟩])), (8, ([], [⟨0, [], []⟩, ⟨1, [], []⟩, ⟨2, [], []⟩, ⟨3, [], []⟩, ⟨4, [], []⟩, ⟨5, [], []⟩, ⟨6, [], []⟩, ⟨7, [], []⟩, ⟨8, [], []⟩, ⟨9, [], []⟩, ⟨10, [], []⟩, ⟨11, [], []⟩, ⟨12, [], []⟩, ⟨13, [], []⟩, ⟨14, [], []⟩, ⟨15, [], []⟩, ⟨16, [], []⟩, ⟨17, [], []⟩, ⟨18, [], []⟩, ⟨19, [], []⟩, ⟨20, [], []⟩, ⟨21, [], []⟩, ⟨22, [], []⟩, ⟨23, [], []⟩, ⟨24, [], []⟩, ⟨25, [], []⟩, ⟨26, [1, 2, 14, 15, 16, 21, 22, 23], []⟩, ⟨27, [], []⟩, ⟨28, [], []⟩, ⟨29, [2, 21, 22, 23], []⟩, ⟨30, [], []⟩, ⟨31, [], []⟩, ⟨32, [], []⟩]))]) Try.func57 (c := bodyOf Try.f57) rfl (by kernel_rfl) (by kernel_rfl) Try.ntmps57 (res := [.tmp 4, .tmp 5]) (by kernel_rfl) ?_
    repeat' ((conv => whnf); first | refine Rng.g ?_ | refine Ob.g ?_ | refine Ob.e ?_ | refine Ob.m ?_ | refine Ob.mk (Nat.le_of_ble_eq_true rfl) ?_ | refine JoinVC.on ?_ | refine Nils.mk (fun h => ?_) ?_ | refine Val.t ?_ | refine Val.d ?_ | refine Mm.mk ?_ | (refine Br.mk (fun h => ?_) (fun h => ?_) <;> first | (exfalso; omega; done) | (exfalso; simp at h; done) | skip))
    conv => whnf
    first | refine CallVC.mk [0, 1, 2, 3, 4, 5] _ _ _ rfl rfl rfl (c62) (fun r m' h' => ?_) | refine CallVC0.same [0, 1, 2, 3, 4, 5] _ _ _ rfl rfl rfl rfl (c62) (fun r m' h' => (by obtain ⟨rfl, rfl⟩ := h'; rfl)) (fun r m' h' => ?_) | (refine CallVC0.rows [0, 1, 2, 3, 4, 5] _ _ _ rfl rfl rfl ?_ (c62) (fun r m' h' => (by obtain ⟨rfl, rfl⟩ := h'; rfl)) (fun r m' h' => ?_); · (repeat' ((conv => whnf); first | exact trivial | exact rfl | exact Nat.le_refl _ | apply And.intro)))
    obtain ⟨rfl, rfl⟩ := h'
    conv => whnf
    repeat' ((conv => whnf); first | refine Rng.g ?_ | refine Ob.g ?_ | refine Ob.e ?_ | refine Ob.m ?_ | refine Ob.mk (Nat.le_of_ble_eq_true rfl) ?_ | refine JoinVC.on ?_ | refine Nils.mk (fun h => ?_) ?_ | refine Val.t ?_ | refine Val.d ?_ | refine Mm.mk ?_ | (refine Br.mk (fun h => ?_) (fun h => ?_) <;> first | (exfalso; omega; done) | (exfalso; simp at h; done) | skip))
    conv => whnf
    first | refine CallVC.mk [0, 1, 2, 3, 4, 5] _ _ _ rfl rfl rfl (c65) (fun r m' h' => ?_) | refine CallVC0.same [0, 1, 2, 3, 4, 5] _ _ _ rfl rfl rfl rfl (c65) (fun r m' h' => (by obtain ⟨rfl, rfl⟩ := h'; rfl)) (fun r m' h' => ?_) | (refine CallVC0.rows [0, 1, 2, 3, 4, 5] _ _ _ rfl rfl rfl ?_ (c65) (fun r m' h' => (by obtain ⟨rfl, rfl⟩ := h'; rfl)) (fun r m' h' => ?_); · (repeat' ((conv => whnf); first | exact trivial | exact rfl | exact Nat.le_refl _ | apply And.intro)))
    obtain ⟨rfl, rfl⟩ := h'
    conv => whnf
    repeat' ((conv => whnf); first | refine Rng.g ?_ | refine Ob.g ?_ | refine Ob.e ?_ | refine Ob.m ?_ | refine Ob.mk (Nat.le_of_ble_eq_true rfl) ?_ | refine JoinVC.on ?_ | refine Nils.mk (fun h => ?_) ?_ | refine Val.t ?_ | refine Val.d ?_ | refine Mm.mk ?_ | (refine Br.mk (fun h => ?_) (fun h => ?_) <;> first | (exfalso; omega; done) | (exfalso; simp at h; done) | skip))
    repeat refine Mm.mk ?_
    conv => whnf
    refine EndVC.mk _ rfl _ _ (AcR.err hM he h2) ?_
    refine ⟨[some 0, none, some 2, none, none, none, some 1, some 3, some 4, some 5], rfl, rfl, ?_, ?_⟩ <;> repeat' (first | exact trivial | exact rfl | exact Iff.rfl | apply And.intro)
  have he : actE S a = 0 := by rw [hA, groE, if_neg (by omega), h2]
  rw [if_pos h2, h2] at c65
  have c63 := s63 S ms a.plate
  rw [getR, if_pos hi] at c63
  have c64 := s64 S ms hS a ha hb
  have hB := thkB S hS a ha hi hb
  obtain ⟨b1, b2, b3, b4⟩ := hB
  have hb' := hb
  have hi' := hi
  obtain ⟨hb1, hb2⟩ := hb'
  unfold inP at hi'
  obtain ⟨hi1, hi2⟩ := hi'
  have lt := tkA_len S.tk
  have htk := hS.tk a.bath.toNat (by omega)
  have hp := hS.pl a.plate.toNat (by omega)
  have hkd0 : 0 ≤ (S.p a.plate).kd := hp.kd.1
  have hst : 0 ≤ (S.t a.bath).st ∧ (S.t a.bath).st ≤ 1099511627776 := htk.1
  have hld : 0 ≤ (S.t a.bath).ld ∧ (S.t a.bath).ld + (S.t a.bath).st ≤ 1099511627776 := htk.2.2.1
  have hch : 0 ≤ (S.t a.bath).ch ∧ (S.t a.bath).ch ≤ 2199023255552 * (S.ac.length : Int) := htk.2.2.2
  have hac := hS.na
  have hg1 := mulB ha.s0 ha.s1
  have hg2 := mulB ha.cur ha.sec
  have hchg : 0 ≤ chgM a ∧ chgM a ≤ 2199023255552 := by unfold chgM; omega
  have t0 : rI (tkA S.tk) a.bath.toNat 0 = (S.t a.bath).st := tk_0 S.tk a.bath.toNat
  have t2 : rI (tkA S.tk) a.bath.toNat ((0 + 1 + 1)) = (S.t a.bath).ch := tk_2 S.tk a.bath.toNat
  have t3 : rI (tkA S.tk) a.bath.toNat ((0 + 1 + 1 + 1)) = (S.t a.bath).ld := tk_3 S.tk a.bath.toNat
  have g0 : rI (plA S.pl) a.plate.toNat 0 = (S.p a.plate).kd := pl_0 S.pl a.plate.toNat
  have g2 : rI (plA S.pl) a.plate.toNat ((0 + 1 + 1)) = (S.p a.plate).cut := pl_2 S.pl a.plate.toNat
  have g3 : rI (plA S.pl) a.plate.toNat ((0 + 1 + 1 + 1)) = (S.p a.plate).area := pl_3 S.pl a.plate.toNat
  have hbl : a.bath.toNat < S.tk.length := by omega
  let x1 : Tk := ⟨(S.t a.bath).st - allM S a, (S.t a.bath).yd, (S.t a.bath).ch, (S.t a.bath).ld⟩
  let x2 : Tk := ⟨(S.t a.bath).st - allM S a, (S.t a.bath).yd, (S.t a.bath).ch, (S.t a.bath).ld + allM S a⟩
  have u0 : updRow (tkA S.tk) a.bath.toNat 0 [.int ((S.t a.bath).st - allM S a)] = tkA (S.tk.set a.bath.toNat x1) := A_upd tkC S.tk a.bath.toNat tk0 hbl rfl
  have e1 : (S.tk.set a.bath.toNat x1).getD a.bath.toNat tk0 = x1 := by rw [getD_set, if_pos ⟨rfl, hbl⟩]
  have e2 : (S.tk.set a.bath.toNat x2).getD a.bath.toNat tk0 = x2 := by rw [getD_set, if_pos ⟨rfl, hbl⟩]
  have u1 : updRow (tkA (S.tk.set a.bath.toNat x1)) a.bath.toNat ((0 + 1 + 1 + 1)) [.int ((S.t a.bath).ld + allM S a)] = tkA (S.tk.set a.bath.toNat x2) := by
    have := A_upd tkC (S.tk.set a.bath.toNat x1) a.bath.toNat tk0 (by rw [List.length_set]; exact hbl) (f := (0 + 1 + 1 + 1)) (cs := [.int ((S.t a.bath).ld + allM S a)]) (p := x2) (by rw [e1]; rfl)
    rwa [List.set_set] at this
  have u2 : updRow (tkA (S.tk.set a.bath.toNat x2)) a.bath.toNat ((0 + 1 + 1)) [.int ((S.t a.bath).ch + chgM a)] = tkA (S.tk.set a.bath.toNat (newT S a)) := by
    have := A_upd tkC (S.tk.set a.bath.toNat x2) a.bath.toNat tk0 (by rw [List.length_set]; exact hbl) (f := (0 + 1 + 1)) (cs := [.int ((S.t a.bath).ch + chgM a)]) (p := newT S a) (by rw [e2]; rfl)
    rwa [List.set_set] at this
  have l1 : (tkA (S.tk.set a.bath.toNat x1)).length = S.tk.length := by rw [tkA_len, List.length_set]
  have l2 : (tkA (S.tk.set a.bath.toNat x2)).length = S.tk.length := by rw [tkA_len, List.length_set]
  have l3 : (tkA (S.tk.set a.bath.toNat (newT S a))).length = S.tk.length := by rw [tkA_len, List.length_set]
  have c87 := s87 { S with tk := S.tk.set a.bath.toNat (newT S a) } ms (show S.pl.length ≤ 256 by omega) ((S.p a.plate).kd + 1) a.plate (S.p a.plate).cut (S.p a.plate).area (thkM S a)
  refine spec_of pMix (O := [(7, ([14], [⟨0, [], []⟩, ⟨1, [], []⟩, ⟨3, [], []⟩, ⟨4, [], []⟩, ⟨5, [], []⟩, ⟨6, [], []⟩, ⟨7, [], []⟩, ⟨8, [], []⟩, ⟨9, [], []⟩, ⟨10, [], []⟩, ⟨11, [], []⟩, ⟨12, [], []⟩, ⟨2, [3, 4, 5, 6, 7, 8, 9, 10, 11, 12], []⟩, ⟨13, [3, 4, 5, 6, 7, 8, 9], []⟩, ⟨14, [], []⟩, ⟨15, [3, 4, 5, 6, 7, 8, 9], []⟩, ⟨16, [], []⟩, ⟨17, [], []⟩])), (8, ([], [⟨0, [], []⟩, ⟨1, [], []⟩, ⟨2, [], []⟩, ⟨3, [], []⟩, ⟨4, [], []⟩, ⟨5, [], []⟩, ⟨6, [], []⟩, ⟨7, [], []⟩, ⟨8, [], []⟩, ⟨9, [], []⟩, ⟨10, [], []⟩, ⟨11, [], []⟩, ⟨12, [], []⟩, ⟨13, [], []⟩, ⟨14, [], []⟩, ⟨15, [], []⟩, ⟨16, [], []⟩, ⟨17, [], []⟩, ⟨18, [], []⟩, ⟨19, [], []⟩, ⟨20, [], []⟩, ⟨21, [], []⟩, ⟨22, [], []⟩, ⟨23, [], []⟩, ⟨24, [], []⟩, ⟨25, [], []⟩, ⟨26, [1, 2, 14, 15, 16, 21, 22, 23], []⟩, ⟨27, [], []⟩, ⟨28, [], []⟩, ⟨29, [2, 21, 22, 23], []⟩, ⟨30, [], []⟩, ⟨31, [], []⟩, ⟨32, [], []⟩]))]) Try.func57 (c := bodyOf Try.f57) rfl (by kernel_rfl) (by kernel_rfl) Try.ntmps57 (res := [.tmp 4, .tmp 5]) (by kernel_rfl) ?_
  repeat' ((conv => whnf); first | refine Rng.g ?_ | refine Ob.g ?_ | refine Ob.e ?_ | refine Ob.m ?_ | refine Ob.mk (Nat.le_of_ble_eq_true rfl) ?_ | refine JoinVC.on ?_ | refine Nils.mk (fun h => ?_) ?_ | refine Val.t ?_ | refine Val.d ?_ | refine Mm.mk ?_ | (refine Br.mk (fun h => ?_) (fun h => ?_) <;> first | (exfalso; omega; done) | (exfalso; simp at h; done) | skip))
  conv => whnf
  first | refine CallVC.mk [0, 1, 2, 3, 4, 5] _ _ _ rfl rfl rfl (c62) (fun r m' h' => ?_) | refine CallVC0.same [0, 1, 2, 3, 4, 5] _ _ _ rfl rfl rfl rfl (c62) (fun r m' h' => (by obtain ⟨rfl, rfl⟩ := h'; rfl)) (fun r m' h' => ?_) | (refine CallVC0.rows [0, 1, 2, 3, 4, 5] _ _ _ rfl rfl rfl ?_ (c62) (fun r m' h' => (by obtain ⟨rfl, rfl⟩ := h'; rfl)) (fun r m' h' => ?_); · (repeat' ((conv => whnf); first | exact trivial | exact rfl | exact Nat.le_refl _ | apply And.intro)))
  obtain ⟨rfl, rfl⟩ := h'
  conv => whnf
  repeat' ((conv => whnf); first | refine Rng.g ?_ | refine Ob.g ?_ | refine Ob.e ?_ | refine Ob.m ?_ | refine Ob.mk (Nat.le_of_ble_eq_true rfl) ?_ | refine JoinVC.on ?_ | refine Nils.mk (fun h => ?_) ?_ | refine Val.t ?_ | refine Val.d ?_ | refine Mm.mk ?_ | (refine Br.mk (fun h => ?_) (fun h => ?_) <;> first | (exfalso; omega; done) | (exfalso; simp at h; done) | skip))
  conv => whnf
  first | refine CallVC.mk [0, 1, 2, 3, 4, 5] _ _ _ rfl rfl rfl (c65) (fun r m' h' => ?_) | refine CallVC0.same [0, 1, 2, 3, 4, 5] _ _ _ rfl rfl rfl rfl (c65) (fun r m' h' => (by obtain ⟨rfl, rfl⟩ := h'; rfl)) (fun r m' h' => ?_) | (refine CallVC0.rows [0, 1, 2, 3, 4, 5] _ _ _ rfl rfl rfl ?_ (c65) (fun r m' h' => (by obtain ⟨rfl, rfl⟩ := h'; rfl)) (fun r m' h' => ?_); · (repeat' ((conv => whnf); first | exact trivial | exact rfl | exact Nat.le_refl _ | apply And.intro)))
  obtain ⟨rfl, rfl⟩ := h'
  conv => whnf
  repeat' ((conv => whnf); first | refine Rng.g ?_ | refine Ob.g ?_ | refine Ob.e ?_ | refine Ob.m ?_ | refine Ob.mk (Nat.le_of_ble_eq_true rfl) ?_ | refine JoinVC.on ?_ | refine Nils.mk (fun h => ?_) ?_ | refine Val.t ?_ | refine Val.d ?_ | refine Mm.mk ?_ | (refine Br.mk (fun h => ?_) (fun h => ?_) <;> first | (exfalso; omega; done) | (exfalso; simp at h; done) | skip))
  conv => whnf
  first | refine CallVC.mk [0, 1, 2, 3, 4, 5] _ _ _ rfl rfl rfl (c64) (fun r m' h' => ?_) | refine CallVC0.same [0, 1, 2, 3, 4, 5] _ _ _ rfl rfl rfl rfl (c64) (fun r m' h' => (by obtain ⟨rfl, rfl⟩ := h'; rfl)) (fun r m' h' => ?_) | (refine CallVC0.rows [0, 1, 2, 3, 4, 5] _ _ _ rfl rfl rfl ?_ (c64) (fun r m' h' => (by obtain ⟨rfl, rfl⟩ := h'; rfl)) (fun r m' h' => ?_); · (repeat' ((conv => whnf); first | exact trivial | exact rfl | exact Nat.le_refl _ | apply And.intro)))
  obtain ⟨rfl, rfl⟩ := h'
  conv => whnf
  repeat' ((conv => whnf); first | refine Rng.g ?_ | refine Ob.g ?_ | refine Ob.e ?_ | refine Ob.m ?_ | refine Ob.mk (Nat.le_of_ble_eq_true rfl) ?_ | refine JoinVC.on ?_ | refine Nils.mk (fun h => ?_) ?_ | refine Val.t ?_ | refine Val.d ?_ | refine Mm.mk ?_ | (refine Br.mk (fun h => ?_) (fun h => ?_) <;> first | (exfalso; omega; done) | (exfalso; simp at h; done) | skip))
  conv => whnf
  first | refine CallVC.mk [0, 1, 2, 3, 4, 5] _ _ _ rfl rfl rfl (c63) (fun r m' h' => ?_) | refine CallVC0.same [0, 1, 2, 3, 4, 5] _ _ _ rfl rfl rfl rfl (c63) (fun r m' h' => (by obtain ⟨rfl, rfl⟩ := h'; rfl)) (fun r m' h' => ?_) | (refine CallVC0.rows [0, 1, 2, 3, 4, 5] _ _ _ rfl rfl rfl ?_ (c63) (fun r m' h' => (by obtain ⟨rfl, rfl⟩ := h'; rfl)) (fun r m' h' => ?_); · (repeat' ((conv => whnf); first | exact trivial | exact rfl | exact Nat.le_refl _ | apply And.intro)))
  obtain ⟨rfl, rfl⟩ := h'
  conv => whnf
  repeat' ((conv => whnf); first | rw [u0] | rw [u1] | rw [u2] | rw [t0] | rw [t2] | rw [t3] | rw [g0] | rw [g2] | rw [g3] | refine Rng.g ?_ | refine Ob.g ?_ | refine Ob.e ?_ | refine Ob.m ?_ | refine Ob.mk (Nat.le_of_ble_eq_true rfl) ?_ | refine JoinVC.on ?_ | refine Nils.mk (fun h => ?_) ?_ | refine Val.t ?_ | refine Val.d ?_ | refine Mm.mk ?_ | (refine Br.mk (fun h => ?_) (fun h => ?_) <;> first | (exfalso; omega; done) | (exfalso; simp at h; done) | skip))
  conv => whnf
  refine CallVC.mk [0, 1, 2, 3, 4, 5] _ _ _ rfl rfl rfl (c87) (fun r m' h' => ?_)
  obtain ⟨c, rfl, rfl⟩ := h'
  conv => whnf
  repeat' ((conv => whnf); first | refine Rng.g ?_ | refine Ob.g ?_ | refine Ob.e ?_ | refine Ob.m ?_ | refine Ob.mk (Nat.le_of_ble_eq_true rfl) ?_ | refine JoinVC.on ?_ | refine Nils.mk (fun h => ?_) ?_ | refine Val.t ?_ | refine Val.d ?_ | refine Mm.mk ?_ | (refine Br.mk (fun h => ?_) (fun h => ?_) <;> first | (exfalso; omega; done) | (exfalso; simp at h; done) | skip))
  have hml : ms.length = S.pl.length := by rw [hM.1, hS.nb]
  have hm := hM.2 a.plate.toNat (by rw [hS.nb]; omega)
  have hX : ∀ m', ((ms ++ [mE c]).set S.pl.length m').getD a.plate.toNat ms0 = ms.getD a.plate.toNat ms0 := fun m' => by
    rw [getD_set, if_neg (by omega), getD_app, if_pos (by omega)]
  have hY : ∀ m', ((ms ++ [mE c]).set S.pl.length m').getD S.pl.length ms0 = m' := fun m' => by
    rw [getD_set, if_pos ⟨rfl, by simp [hml]⟩]
  have hZ : ∀ m' m'', ((ms ++ [mE c]).set S.pl.length m').set S.pl.length m'' = (ms ++ [mE c]).set S.pl.length m'' := fun m' m'' => List.set_set ..
  have hW : (ms ++ [mE c]) = (ms ++ [mE c]).set S.pl.length (mE c) := by
    rw [← hml, List.set_append_right _ _ (Nat.le_refl _)]; simp
  have hV : (ms ++ [mE c]).getD a.plate.toNat ms0 = ms.getD a.plate.toNat ms0 := by rw [getD_app, if_pos (by omega)]
  generalize hmm : ms.getD a.plate.toNat ms0 = m at *
  refine LoopVC.mk (fun n st => ∃ (seen : List Nat) (m' : MS) (cur : Option (Int × Nat × Nat)), CopyI m seen m' ∧ n = m.es.length - seen.length ∧ st = ⟨6, envA 135 [(0, .x (.one (.ptr 0 0))), (11, .x (.one (.pel 2 a.plate.toNat 0))), (12, .x (.one (.pel 2 S.pl.length 0))), (99, .x (.one (.ptr 9 0)))], [some (bSh 8 3 4 5 S.r), none, some (bFa (S.pl ++ [newP S a]) ((ms ++ [mE c]).set S.pl.length m')), some (bTk (S.tk.set a.bath.toNat (newT S a))), some (bFl S.fl), some (bAc S.ac), none, none, some (bPr (S.pl.length + 1)), some (.mit 2 a.plate.toNat m.c seen cur)]⟩) _ _ ⟨[], mE c, none, CopyI.nil m c, rfl, rfl⟩ ?_ ?_
  · refine ⟨[some 0, none, some 2, some 3, some 4, some 5, none, none, some 8, some 9], rfl, rfl, ?_, ?_⟩ <;> repeat' (first | exact trivial | exact rfl | exact Iff.rfl | apply And.intro)
    all_goals first
      | exact hW
      | exact congrArg MS.c hV
  rintro n _ ⟨seen, m', cur, hI, hn, rfl⟩
  have hX' := hX m'
  have hY' := hY m'
  have hnk : m.ks.Nodup := hm.nd
  repeat' ((conv => whnf); first | rw [hX'] | refine Rng.g ?_ | refine Ob.g ?_ | refine Ob.e ?_ | refine Ob.m ?_ | refine Ob.mk (Nat.le_of_ble_eq_true rfl) ?_ | refine JoinVC.on ?_ | refine Nils.mk (fun h => ?_) ?_ | refine Val.t ?_ | refine Val.d ?_ | refine Mm.mk ?_ | (refine Br.mk (fun h => ?_) (fun h => ?_) <;> first | (exfalso; omega; done) | (exfalso; simp at h; done) | skip))
  refine NextVC.mk ⟨hm.st, Nat.le_refl _⟩ (fun ho => ?_) (fun hs k b hkb hbs => ?_)
  rotate_left
  · have hI' := hI.step hnk hs hkb hbs
    repeat' ((conv => whnf); first | rw [hX'] | refine Rng.g ?_ | refine Ob.g ?_ | refine Ob.e ?_ | refine Ob.m ?_ | refine Ob.mk (Nat.le_of_ble_eq_true rfl) ?_ | refine JoinVC.on ?_ | refine Nils.mk (fun h => ?_) ?_ | refine Val.t ?_ | refine Val.d ?_ | refine Mm.mk ?_ | (refine Br.mk (fun h => ?_) (fun h => ?_) <;> first | (exfalso; omega; done) | (exfalso; simp at h; done) | skip))
    refine Back.mk (m.es.length - (seen ++ [b]).length) _ (by have := hI'.len; simp at this ⊢; omega) ⟨seen ++ [b], m'.put k, some (k, b, m.c), hI', rfl, rfl⟩ ?_
    refine ⟨[some 0, none, some 2, some 3, some 4, some 5, none, none, some 8, some 9], rfl, rfl, ?_, ?_⟩ <;> repeat' (first | exact trivial | exact rfl | exact Iff.rfl | apply And.intro)
    rw [hY']
    exact hZ m' _
  have hSO := hI.done hm ho
  have hG : (S.pl ++ [newP S a]).getD a.plate.toNat p0 = S.p a.plate := by rw [getD_app, if_pos (by omega)]; rfl
  have g5 : rI (plA (S.pl ++ [newP S a])) a.plate.toNat ((0 + 1 + 1 + 1 + 1 + 1)) = (S.p a.plate).grown := by rw [pl_5, hG]
  have hgb : 0 ≤ (S.p a.plate).grown ∧ (S.p a.plate).grown ≤ 16 := hp.grown
  have hpl : a.plate.toNat < (S.pl ++ [newP S a]).length := by simp; omega
  let y1 : Pl := ⟨(S.p a.plate).kd, (S.p a.plate).pa, (S.p a.plate).cut, (S.p a.plate).area, (S.p a.plate).thick, (S.p a.plate).grown + 1, (S.p a.plate).ret⟩
  have w1 : updRow (plA (S.pl ++ [newP S a])) a.plate.toNat ((0 + 1 + 1 + 1 + 1 + 1)) [.int ((S.p a.plate).grown + 1)] = plA ((S.pl ++ [newP S a]).set a.plate.toNat y1) := A_upd plC _ a.plate.toNat p0 hpl (by rw [hG]; rfl)
  have hG1 : ((S.pl ++ [newP S a]).set a.plate.toNat y1).getD a.plate.toNat p0 = y1 := by rw [getD_set, if_pos ⟨rfl, hpl⟩]
  have g0' : rI (plA ((S.pl ++ [newP S a]).set a.plate.toNat y1)) a.plate.toNat 0 = (S.p a.plate).kd := by rw [pl_0, hG1]
  have w2 : updRow (plA ((S.pl ++ [newP S a]).set a.plate.toNat y1)) a.plate.toNat ((0 + 1 + 1 + 1 + 1 + 1 + 1)) [.bool true] = plA ((S.pl ++ [newP S a]).set a.plate.toNat ⟨(S.p a.plate).kd, (S.p a.plate).pa, (S.p a.plate).cut, (S.p a.plate).area, (S.p a.plate).thick, (S.p a.plate).grown + 1, true⟩) := by
    have := A_upd plC ((S.pl ++ [newP S a]).set a.plate.toNat y1) a.plate.toNat p0 (by rw [List.length_set]; exact hpl) (f := (0 + 1 + 1 + 1 + 1 + 1 + 1)) (cs := [.bool true]) (p := ⟨(S.p a.plate).kd, (S.p a.plate).pa, (S.p a.plate).cut, (S.p a.plate).area, (S.p a.plate).thick, (S.p a.plate).grown + 1, true⟩) (by rw [hG1]; rfl)
    rwa [List.set_set] at this
  repeat' ((conv => whnf); first | rw [g5] | rw [w1] | rw [g0'] | rw [w2] | refine Rng.g ?_ | refine Ob.g ?_ | refine Ob.e ?_ | refine Ob.m ?_ | refine Ob.mk (Nat.le_of_ble_eq_true rfl) ?_ | refine JoinVC.on ?_ | refine Nils.mk (fun h => ?_) ?_ | refine Val.t ?_ | refine Val.d ?_ | refine Mm.mk ?_ | (refine Br.mk (fun h => ?_) (fun h => ?_) <;> first | (exfalso; omega; done) | (exfalso; simp at h; done) | skip))
  all_goals
    have hsP : ∀ y, oldP (S.p a.plate) = y → actS S a = { S with pl := (S.pl ++ [newP S a]).set a.plate.toNat y, be := S.be ++ [S.b a.plate], tk := S.tk.set a.bath.toNat (newT S a) } := fun y hy => by
      rw [← hy]; unfold actS; rw [if_neg (by omega), if_neg (by omega), if_pos hk]
    have hn : actN S a = ((S.pl.length + 1 : Nat) : Int) - 1 := by unfold actN; rw [if_pos (.inr hk)]; omega
    have hM' : MsOK ((ms ++ [mE c]).set S.pl.length m') (S.be ++ [S.b a.plate]) := by
      have := (hM.snoc c).setI S.pl.length hSO
      rw [← hS.nb] at this ⊢
      rwa [List.set_append_right _ _ (Nat.le_refl _), Nat.sub_self] at this
  · have hs := hsP ⟨(S.p a.plate).kd, (S.p a.plate).pa, (S.p a.plate).cut, (S.p a.plate).area, (S.p a.plate).thick, (S.p a.plate).grown + 1, true⟩ (by unfold oldP; rw [decide_eq_true h])
    repeat refine Mm.mk ?_
    conv => whnf
    refine EndVC.mk _ rfl _ _ (AcR.ok he hs hM' hn) ?_
    refine ⟨[some 0, none, some 2, none, none, none, some 8, some 3, some 4, some 5], rfl, rfl, ?_, ?_⟩ <;> repeat' (first | exact trivial | exact rfl | exact Iff.rfl | apply And.intro)
    simp
  · have hs := hsP y1 (by unfold oldP; rw [decide_eq_false h, ← hret])
    repeat refine Mm.mk ?_
    conv => whnf
    refine EndVC.mk _ rfl _ _ (AcR.ok he hs hM' hn) ?_
    refine ⟨[some 0, none, some 2, none, none, none, some 8, some 3, some 4, some 5], rfl, rfl, ?_, ?_⟩ <;> repeat' (first | exact trivial | exact rfl | exact Iff.rfl | apply And.intro)
    simp
end Go.Sx

namespace Go.Sx
open Go Go.Proofs
set_option maxRecDepth 10000
set_option maxHeartbeats 8000000
/-! ### An act -/
theorem actT_r (S : Sho) (a : Act2) : (actT S a).r = S.r := by unfold actT actS; (repeat' split) <;> rfl
theorem actT_ac (S : Sho) (a : Act2) : (actT S a).ac = S.ac := by unfold actT actS; (repeat' split) <;> rfl
theorem ActOK.kd {a : Act2} (h : ActOK a) : 1 ≤ a.kd ∧ a.kd ≤ 6 := by unfold ActOK at h; omega
theorem ActOK.gro {a : Act2} (h : ActOK a) (hk : a.kd = 3) : GroOK a := by
  unfold ActOK at h
  rcases h with h | h | h | h | h | h
  · omega
  · omega
  · exact ⟨h.2.1, h.2.2.1, h.2.2.2.1, h.2.2.2.2⟩
  · omega
  · omega
  · omega
def DoR (S : Sho) (a : Act2) (r : AV) (m' : List (Option Blk)) : Prop := ∃ ms', MsOK ms' (doS S a).be ∧ r = .tup [I (doN S a), I (doE S a)] ∧ m' = shO (doS S a) ms'
theorem DoR.ok {S : Sho} {a : Act2} {ms : List MS} (hE : doE S a = actE S a) (h0 : actE S a = 0) (hM : MsOK ms (actT S a).be) : DoR S a (.tup [I (actN S a), I 0]) (shO { actT S a with r := S.r, ac := S.ac ++ [a] } ms) := by
  have h1 : actT S a = actS S a := if_pos h0
  have h2 : doS S a = { actS S a with ac := S.ac ++ [a] } := if_pos (hE.trans h0)
  have h3 := actT_r S a
  rw [h1] at h3 hM
  refine ⟨ms, by rw [h2]; exact hM, by rw [doN, if_pos (hE.trans h0), hE, h0], ?_⟩
  rw [h2, h1, ← h3]
theorem DoR.err {S : Sho} {a : Act2} {ms : List MS} (hE : doE S a = actE S a) (h0 : actE S a ≠ 0) (hM : MsOK ms (actT S a).be) : DoR S a (.tup [I 0, I (actE S a)]) (shO { actT S a with r := S.r, ac := S.ac } ms) := by
  have h1 : actT S a = S := if_neg h0
  have h2 : doS S a = S := if_neg (by rw [hE]; exact h0)
  rw [h1] at hM ⊢
  exact ⟨ms, by rw [h2]; exact hM, by rw [doN, if_neg (by rw [hE]; exact h0), hE], by rw [h2]⟩
theorem s21_1 (S : Sho) (ms : List MS) (a : Act2) (ha : ActOK a) (hn : S.ac.length < 1000) (hk : a.kd = 1) (c : HSpec Try.prog 55 [.one (.ptr 0 0), a.x] (shM S ms) (AcR S a)) : HSpec Try.prog 21 [.one (.ptr 0 0), a.x] (shM S ms) (DoR S a) := by
  have hl := acA_len S.ac
  have c53 := s53 S ms
  have c54 := s54 a
  have hsn := acA_snoc S.ac a
  have hE : doE S a = actE S a := by unfold doE; rw [if_neg (by omega), if_pos ha]
  have hk' : a.kd.toNat = 1 := by omega
  refine spec_of pMix (O := [(10, ([], [⟨0, [], []⟩, ⟨1, [], []⟩, ⟨2, [], []⟩, ⟨3, [], []⟩, ⟨4, [], []⟩, ⟨5, [], [6]⟩, ⟨6, [], []⟩, ⟨7, [0], []⟩, ⟨8, [], []⟩, ⟨9, [], []⟩, ⟨10, [], []⟩]))]) Try.func21 (c := bodyOf Try.f21) rfl (by kernel_rfl) (by kernel_rfl) Try.ntmps21 (res := [.tmp 4, .tmp 5]) (by kernel_rfl) ?_
  repeat' ((conv => whnf); first | refine Rng.g ?_ | refine Ob.g ?_ | refine Ob.e ?_ | refine Ob.m ?_ | refine Ob.mk (Nat.le_of_ble_eq_true rfl) ?_ | refine JoinVC.on ?_ | refine Nils.mk (fun h => ?_) ?_ | refine Val.t ?_ | refine Val.d ?_ | refine Mm.mk ?_ | (refine Br.mk (fun h => ?_) (fun h => ?_) <;> first | (exfalso; omega; done) | (exfalso; simp at h; done) | skip))
  conv => whnf
  first | refine CallVC.mk [0, 1, 2, 3, 4, 5] _ _ _ rfl rfl rfl (c53) (fun r m' h' => ?_) | refine CallVC0.same [0, 1, 2, 3, 4, 5] _ _ _ rfl rfl rfl rfl (c53) (fun r m' h' => (by obtain ⟨rfl, rfl⟩ := h'; rfl)) (fun r m' h' => ?_) | (refine CallVC0.rows [0, 1, 2, 3, 4, 5] _ _ _ rfl rfl rfl ?_ (c53) (fun r m' h' => (by obtain ⟨rfl, rfl⟩ := h'; rfl)) (fun r m' h' => ?_); · (repeat' ((conv => whnf); first | exact trivial | exact rfl | exact Nat.le_refl _ | apply And.intro)))
  obtain ⟨rfl, rfl⟩ := h'
  conv => whnf
  repeat' ((conv => whnf); first | refine Rng.g ?_ | refine Ob.g ?_ | refine Ob.e ?_ | refine Ob.m ?_ | refine Ob.mk (Nat.le_of_ble_eq_true rfl) ?_ | refine JoinVC.on ?_ | refine Nils.mk (fun h => ?_) ?_ | refine Val.t ?_ | refine Val.d ?_ | refine Mm.mk ?_ | refine CallVC.pure rfl (c54) ?_ | refine CallVC0.pure rfl (c54) ?_ | (refine Br.mk (fun h => ?_) (fun h => ?_) <;> first | (exfalso; omega; done) | (exfalso; simp at h; done) | skip))
  · exact absurd ha h
  rw [hk']
  repeat' ((conv => whnf); first | refine Rng.g ?_ | refine Ob.g ?_ | refine Ob.e ?_ | refine Ob.m ?_ | refine Ob.mk (Nat.le_of_ble_eq_true rfl) ?_ | refine JoinVC.on ?_ | refine Nils.mk (fun h => ?_) ?_ | refine Val.t ?_ | refine Val.d ?_ | refine Mm.mk ?_ | (refine Br.mk (fun h => ?_) (fun h => ?_) <;> first | (exfalso; omega; done) | (exfalso; simp at h; done) | skip))
  conv => whnf
  first | refine CallVC.mk [0, 1, 2, 3, 4, 5] _ _ _ rfl rfl rfl (c) (fun r m' h' => ?_) | refine CallVC0.same [0, 1, 2, 3, 4, 5] _ _ _ rfl rfl rfl rfl (c) (fun r m' h' => (by obtain ⟨ms', hM', rfl, rfl⟩ := h'; rfl)) (fun r m' h' => ?_) | (refine CallVC0.rows [0, 1, 2, 3, 4, 5] _ _ _ rfl rfl rfl ?_ (c) (fun r m' h' => (by obtain ⟨ms', hM', rfl, rfl⟩ := h'; rfl)) (fun r m' h' => ?_); · (repeat' ((conv => whnf); first | exact trivial | exact rfl | exact Nat.le_refl _ | apply And.intro)))
  obtain ⟨ms', hM', rfl, rfl⟩ := h'
  conv => whnf
  rw [actT_r, actT_ac]
  by_cases h0 : actE S a = 0
  · rw [if_pos h0, h0]
    repeat' ((conv => whnf); first | refine Rng.g ?_ | refine Ob.g ?_ | refine Ob.e ?_ | refine Ob.m ?_ | refine Ob.mk (Nat.le_of_ble_eq_true rfl) ?_ | refine JoinVC.on ?_ | refine Nils.mk (fun h => ?_) ?_ | refine Val.t ?_ | refine Val.d ?_ | refine Mm.mk ?_ | (refine Br.mk (fun h => ?_) (fun h => ?_) <;> first | (exfalso; omega; done) | (exfalso; simp at h; done) | skip))
    repeat refine Mm.mk ?_
    refine Ob.mk (by rw [eb43]; simp only [List.length_cons, List.length_nil]; omega) ?_
    have hl2 := acA_len (S.ac ++ [a])
    rw [List.length_append, List.length_singleton] at hl2
    repeat' ((conv => whnf); first | rw [hsn] | refine Rng.g ?_ | refine Ob.g ?_ | refine Ob.e ?_ | refine Ob.m ?_ | refine Ob.mk (Nat.le_of_ble_eq_true rfl) ?_ | refine JoinVC.on ?_ | refine Nils.mk (fun h => ?_) ?_ | refine Val.t ?_ | refine Val.d ?_ | refine Mm.mk ?_ | (refine Br.mk (fun h => ?_) (fun h => ?_) <;> first | (exfalso; omega; done) | (exfalso; simp at h; done) | skip))
    repeat refine Mm.mk ?_
    conv => whnf
    refine EndVC.mk _ rfl _ _ (DoR.ok hE h0 hM') ?_
    refine ⟨[some 0, none, some 2, none, none, none, some 8, some 9, some 10, some 13], rfl, rfl, ?_, ?_⟩ <;> repeat' (first | exact trivial | exact rfl | exact Iff.rfl | apply And.intro)
    all_goals first
      | exact hsn
      | omega
  · rw [if_neg h0]
    repeat' ((conv => whnf); first | refine Rng.g ?_ | refine Ob.g ?_ | refine Ob.e ?_ | refine Ob.m ?_ | refine Ob.mk (Nat.le_of_ble_eq_true rfl) ?_ | refine JoinVC.on ?_ | refine Nils.mk (fun h => ?_) ?_ | refine Val.t ?_ | refine Val.d ?_ | refine Mm.mk ?_ | (refine Br.mk (fun h => ?_) (fun h => ?_) <;> first | (exfalso; omega; done) | (exfalso; simp at h; done) | skip))
    repeat refine Mm.mk ?_
    conv => whnf
    refine EndVC.mk _ rfl _ _ (DoR.err hE h0 hM') ?_
    refine ⟨[some 0, none, some 2, none, none, none, some 8, some 9, some 10, some 11], rfl, rfl, ?_, ?_⟩ <;> repeat' (first | exact trivial | exact rfl | exact Iff.rfl | apply And.intro)
theorem s21_2 (S : Sho) (ms : List MS) (a : Act2) (ha : ActOK a) (hn : S.ac.length < 1000) (hk : a.kd = 2) (c : HSpec Try.prog 56 [.one (.ptr 0 0), a.x] (shM S ms) (AcR S a)) : HSpec Try.prog 21 [.one (.ptr 0 0), a.x] (shM S ms) (DoR S a) := by
  have hl := acA_len S.ac
  have c53 := s53 S ms
  have c54 := s54 a
  have hsn := acA_snoc S.ac a
  have hE : doE S a = actE S a := by unfold doE; rw [if_neg (by omega), if_pos ha]
  have hk' : a.kd.toNat = 2 := by omega
  refine spec_of pMix (O := [(10, ([], [⟨0, [], []⟩, ⟨1, [], []⟩, ⟨2, [], []⟩, ⟨3, [], []⟩, ⟨4, [], []⟩, ⟨5, [], [6]⟩, ⟨6, [], []⟩, ⟨7, [0], []⟩, ⟨8, [], []⟩, ⟨9, [], []⟩, ⟨10, [], []⟩]))]) Try.func21 (c := bodyOf Try.f21) rfl (by kernel_rfl) (by kernel_rfl) Try.ntmps21 (res := [.tmp 4, .tmp 5]) (by kernel_rfl) ?_
  repeat' ((conv => whnf); first | refine Rng.g ?_ | refine Ob.g ?_ | refine Ob.e ?_ | refine Ob.m ?_ | refine Ob.mk (Nat.le_of_ble_eq_true rfl) ?_ | refine JoinVC.on ?_ | refine Nils.mk (fun h => ?_) ?_ | refine Val.t ?_ | refine Val.d ?_ | refine Mm.mk ?_ | (refine Br.mk (fun h => ?_) (fun h => ?_) <;> first | (exfalso; omega; done) | (exfalso; simp at h; done) | skip))
  conv => whnf
  first | refine CallVC.mk [0, 1, 2, 3, 4, 5] _ _ _ rfl rfl rfl (c53) (fun r m' h' => ?_) | refine CallVC0.same [0, 1, 2, 3, 4, 5] _ _ _ rfl rfl rfl rfl (c53) (fun r m' h' => (by obtain ⟨rfl, rfl⟩ := h'; rfl)) (fun r m' h' => ?_) | (refine CallVC0.rows [0, 1, 2, 3, 4, 5] _ _ _ rfl rfl rfl ?_ (c53) (fun r m' h' => (by obtain ⟨rfl, rfl⟩ := h'; rfl)) (fun r m' h' => ?_); · (repeat' ((conv => whnf); first | exact trivial | exact rfl | exact Nat.le_refl _ | apply And.intro)))
  obtain ⟨rfl, rfl⟩ := h'
  conv => whnf
  repeat' ((conv => whnf); first | refine Rng.g ?_ | refine Ob.g ?_ | refine Ob.e ?_ | refine Ob.m ?_ | refine Ob.mk (Nat.le_of_ble_eq_true rfl) ?_ | refine JoinVC.on ?_ | refine Nils.mk (fun h => ?_) ?_ | refine Val.t ?_ | refine Val.d ?_ | refine Mm.mk ?_ | refine CallVC.pure rfl (c54) ?_ | refine CallVC0.pure rfl (c54) ?_ | (refine Br.mk (fun h => ?_) (fun h => ?_) <;> first | (exfalso; omega; done) | (exfalso; simp at h; done) | skip))
  · exact absurd ha h
  rw [hk']
  repeat' ((conv => whnf); first | refine Rng.g ?_ | refine Ob.g ?_ | refine Ob.e ?_ | refine Ob.m ?_ | refine Ob.mk (Nat.le_of_ble_eq_true rfl) ?_ | refine JoinVC.on ?_ | refine Nils.mk (fun h => ?_) ?_ | refine Val.t ?_ | refine Val.d ?_ | refine Mm.mk ?_ | (refine Br.mk (fun h => ?_) (fun h => ?_) <;> first | (exfalso; omega; done) | (exfalso; simp at h; done) | skip))
  conv => whnf
  first | refine CallVC.mk [0, 1, 2, 3, 4, 5] _ _ _ rfl rfl rfl (c) (fun r m' h' => ?_) | refine CallVC0.same [0, 1, 2, 3, 4, 5] _ _ _ rfl rfl rfl rfl (c) (fun r m' h' => (by obtain ⟨ms', hM', rfl, rfl⟩ := h'; rfl)) (fun r m' h' => ?_) | (refine CallVC0.rows [0, 1, 2, 3, 4, 5] _ _ _ rfl rfl rfl ?_ (c) (fun r m' h' => (by obtain ⟨ms', hM', rfl, rfl⟩ := h'; rfl)) (fun r m' h' => ?_); · (repeat' ((conv => whnf); first | exact trivial | exact rfl | exact Nat.le_refl _ | apply And.intro)))
  obtain ⟨ms', hM', rfl, rfl⟩ := h'
  conv => whnf
  rw [actT_r, actT_ac]
  by_cases h0 : actE S a = 0
  · rw [if_pos h0, h0]
    repeat' ((conv => whnf); first | refine Rng.g ?_ | refine Ob.g ?_ | refine Ob.e ?_ | refine Ob.m ?_ | refine Ob.mk (Nat.le_of_ble_eq_true rfl) ?_ | refine JoinVC.on ?_ | refine Nils.mk (fun h => ?_) ?_ | refine Val.t ?_ | refine Val.d ?_ | refine Mm.mk ?_ | (refine Br.mk (fun h => ?_) (fun h => ?_) <;> first | (exfalso; omega; done) | (exfalso; simp at h; done) | skip))
    repeat refine Mm.mk ?_
    refine Ob.mk (by rw [eb43]; simp only [List.length_cons, List.length_nil]; omega) ?_
    have hl2 := acA_len (S.ac ++ [a])
    rw [List.length_append, List.length_singleton] at hl2
    repeat' ((conv => whnf); first | rw [hsn] | refine Rng.g ?_ | refine Ob.g ?_ | refine Ob.e ?_ | refine Ob.m ?_ | refine Ob.mk (Nat.le_of_ble_eq_true rfl) ?_ | refine JoinVC.on ?_ | refine Nils.mk (fun h => ?_) ?_ | refine Val.t ?_ | refine Val.d ?_ | refine Mm.mk ?_ | (refine Br.mk (fun h => ?_) (fun h => ?_) <;> first | (exfalso; omega; done) | (exfalso; simp at h; done) | skip))
    repeat refine Mm.mk ?_
    conv => whnf
    refine EndVC.mk _ rfl _ _ (DoR.ok hE h0 hM') ?_
    refine ⟨[some 0, none, some 2, none, none, none, some 8, some 9, some 10, some 13], rfl, rfl, ?_, ?_⟩ <;> repeat' (first | exact trivial | exact rfl | exact Iff.rfl | apply And.intro)
    all_goals first
      | exact hsn
      | omega
  · rw [if_neg h0]
    repeat' ((conv => whnf); first | refine Rng.g ?_ | refine Ob.g ?_ | refine Ob.e ?_ | refine Ob.m ?_ | refine Ob.mk (Nat.le_of_ble_eq_true rfl) ?_ | refine JoinVC.on ?_ | refine Nils.mk (fun h => ?_) ?_ | refine Val.t ?_ | refine Val.d ?_ | refine Mm.mk ?_ | (refine Br.mk (fun h => ?_) (fun h => ?_) <;> first | (exfalso; omega; done) | (exfalso; simp at h; done) | skip))
    repeat refine Mm.mk ?_
    conv => whnf
    refine EndVC.mk _ rfl _ _ (DoR.err hE h0 hM') ?_
    refine ⟨[some 0, none, some 2, none, none, none, some 8, some 9, some 10, some 11], rfl, rfl, ?_, ?_⟩ <;> repeat' (first | exact trivial | exact rfl | exact Iff.rfl | apply And.intro)
theorem s21_3 (S : Sho) (ms : List MS) (a : Act2) (ha : ActOK a) (hn : S.ac.length < 1000) (hk : a.kd = 3) (c : HSpec Try.prog 57 [.one (.ptr 0 0), a.x] (shM S ms) (AcR S a)) : HSpec Try.prog 21 [.one (.ptr 0 0), a.x] (shM S ms) (DoR S a) := by
  have hl := acA_len S.ac
  have c53 := s53 S ms
  have c54 := s54 a
  have hsn := acA_snoc S.ac a
  have hE : doE S a = actE S a := by unfold doE; rw [if_neg (by omega), if_pos ha]
  have hk' : a.kd.toNat = 3 := by omega
  refine spec_of pMix (O := [(10, ([], [⟨0, [], []⟩, ⟨1, [], []⟩, ⟨2, [], []⟩, ⟨3, [], []⟩, ⟨4, [], []⟩, ⟨5, [], [6]⟩, ⟨6, [], []⟩, ⟨7, [0], []⟩, ⟨8, [], []⟩, ⟨9, [], []⟩, ⟨10, [], []⟩]))]) Try.func21 (c := bodyOf Try.f21) rfl (by kernel_rfl) (by kernel_rfl) Try.ntmps21 (res := [.tmp 4, .tmp 5]) (by kernel_rfl) ?_
  repeat' ((conv => whnf); first | refine Rng.g ?_ | refine Ob.g ?_ | refine Ob.e ?_ | refine Ob.m ?_ | refine Ob.mk (Nat.le_of_ble_eq_true rfl) ?_ | refine JoinVC.on ?_ | refine Nils.mk (fun h => ?_) ?_ | refine Val.t ?_ | refine Val.d ?_ | refine Mm.mk ?_ | (refine Br.mk (fun h => ?_) (fun h => ?_) <;> first | (exfalso; omega; done) | (exfalso; simp at h; done) | skip))
  conv => whnf
  first | refine CallVC.mk [0, 1, 2, 3, 4, 5] _ _ _ rfl rfl rfl (c53) (fun r m' h' => ?_) | refine CallVC0.same [0, 1, 2, 3, 4, 5] _ _ _ rfl rfl rfl rfl (c53) (fun r m' h' => (by obtain ⟨rfl, rfl⟩ := h'; rfl)) (fun r m' h' => ?_) | (refine CallVC0.rows [0, 1, 2, 3, 4, 5] _ _ _ rfl rfl rfl ?_ (c53) (fun r m' h' => (by obtain ⟨rfl, rfl⟩ := h'; rfl)) (fun r m' h' => ?_); · (repeat' ((conv => whnf); first | exact trivial | exact rfl | exact Nat.le_refl _ | apply And.intro)))
  obtain ⟨rfl, rfl⟩ := h'
  conv => whnf
  repeat' ((conv => whnf); first | refine Rng.g ?_ | refine Ob.g ?_ | refine Ob.e ?_ | refine Ob.m ?_ | refine Ob.mk (Nat.le_of_ble_eq_true rfl) ?_ | refine JoinVC.on ?_ | refine Nils.mk (fun h => ?_) ?_ | refine Val.t ?_ | refine Val.d ?_ | refine Mm.mk ?_ | refine CallVC.pure rfl (c54) ?_ | refine CallVC0.pure rfl (c54) ?_ | (refine Br.mk (fun h => ?_) (fun h => ?_) <;> first | (exfalso; omega; done) | (exfalso; simp at h; done) | skip))
  · exact absurd ha h
  rw [hk']
  repeat' ((conv => whnf); first | refine Rng.g ?_ | refine Ob.g ?_ | refine Ob.e ?_ | refine Ob.m ?_ | refine Ob.mk (Nat.le_of_ble_eq_true rfl) ?_ | refine JoinVC.on ?_ | refine Nils.mk (fun h => ?_) ?_ | refine Val.t ?_ | refine Val.d ?_ | refine Mm.mk ?_ | (refine Br.mk (fun h => ?_) (fun h => ?_) <;> first | (exfalso; omega; done) | (exfalso; simp at h; done) | skip))
  conv => whnf
  first | refine CallVC.mk [0, 1, 2, 3, 4, 5] _ _ _ rfl rfl rfl (c) (fun r m' h' => ?_) | refine CallVC0.same [0, 1, 2, 3, 4, 5] _ _ _ rfl rfl rfl rfl (c) (fun r m' h' => (by obtain ⟨ms', hM', rfl, rfl⟩ := h'; rfl)) (fun r m' h' => ?_) | (refine CallVC0.rows [0, 1, 2, 3, 4, 5] _ _ _ rfl rfl rfl ?_ (c) (fun r m' h' => (by obtain ⟨ms', hM', rfl, rfl⟩ := h'; rfl)) (fun r m' h' => ?_); · (repeat' ((conv => whnf); first | exact trivial | exact rfl | exact Nat.le_refl _ | apply And.intro)))
  obtain ⟨ms', hM', rfl, rfl⟩ := h'
  conv => whnf
  rw [actT_r, actT_ac]
  by_cases h0 : actE S a = 0
  · rw [if_pos h0, h0]
    repeat' ((conv => whnf); first | refine Rng.g ?_ | refine Ob.g ?_ | refine Ob.e ?_ | refine Ob.m ?_ | refine Ob.mk (Nat.le_of_ble_eq_true rfl) ?_ | refine JoinVC.on ?_ | refine Nils.mk (fun h => ?_) ?_ | refine Val.t ?_ | refine Val.d ?_ | refine Mm.mk ?_ | (refine Br.mk (fun h => ?_) (fun h => ?_) <;> first | (exfalso; omega; done) | (exfalso; simp at h; done) | skip))
    repeat refine Mm.mk ?_
    refine Ob.mk (by rw [eb43]; simp only [List.length_cons, List.length_nil]; omega) ?_
    have hl2 := acA_len (S.ac ++ [a])
    rw [List.length_append, List.length_singleton] at hl2
    repeat' ((conv => whnf); first | rw [hsn] | refine Rng.g ?_ | refine Ob.g ?_ | refine Ob.e ?_ | refine Ob.m ?_ | refine Ob.mk (Nat.le_of_ble_eq_true rfl) ?_ | refine JoinVC.on ?_ | refine Nils.mk (fun h => ?_) ?_ | refine Val.t ?_ | refine Val.d ?_ | refine Mm.mk ?_ | (refine Br.mk (fun h => ?_) (fun h => ?_) <;> first | (exfalso; omega; done) | (exfalso; simp at h; done) | skip))
    repeat refine Mm.mk ?_
    conv => whnf
    refine EndVC.mk _ rfl _ _ (DoR.ok hE h0 hM') ?_
    refine ⟨[some 0, none, some 2, none, none, none, some 8, some 9, some 10, some 13], rfl, rfl, ?_, ?_⟩ <;> repeat' (first | exact trivial | exact rfl | exact Iff.rfl | apply And.intro)
    all_goals first
      | exact hsn
      | omega
  · rw [if_neg h0]
    repeat' ((conv => whnf); first | refine Rng.g ?_ | refine Ob.g ?_ | refine Ob.e ?_ | refine Ob.m ?_ | refine Ob.mk (Nat.le_of_ble_eq_true rfl) ?_ | refine JoinVC.on ?_ | refine Nils.mk (fun h => ?_) ?_ | refine Val.t ?_ | refine Val.d ?_ | refine Mm.mk ?_ | (refine Br.mk (fun h => ?_) (fun h => ?_) <;> first | (exfalso; omega; done) | (exfalso; simp at h; done) | skip))
    repeat refine Mm.mk ?_
    conv => whnf
    refine EndVC.mk _ rfl _ _ (DoR.err hE h0 hM') ?_
    refine ⟨[some 0, none, some 2, none, none, none, some 8, some 9, some 10, some 11], rfl, rfl, ?_, ?_⟩ <;> repeat' (first | exact trivial | exact rfl | exact Iff.rfl | apply And.intro)
theorem s21_4 (S : Sho) (ms : List MS) (a : Act2) (ha : ActOK a) (hn : S.ac.length < 1000) (hk : a.kd = 4) (c : HSpec Try.prog 58 [.one (.ptr 0 0), a.x] (shM S ms) (AcR S a)) : HSpec Try.prog 21 [.one (.ptr 0 0), a.x] (shM S ms) (DoR S a) := by
  have hl := acA_len S.ac
  have c53 := s53 S ms
  have c54 := s54 a
  have hsn := acA_snoc S.ac a
  have hE : doE S a = actE S a := by unfold doE; rw [if_neg (by omega), if_pos ha]
  have hk' : a.kd.toNat = 4 := by omega
  refine spec_of pMix (O := [(10, ([], [⟨0, [], []⟩, ⟨1, [], []⟩, ⟨2, [], []⟩, ⟨3, [], []⟩, ⟨4, [], []⟩, ⟨5, [], [6]⟩, ⟨6, [], []⟩, ⟨7, [0], []⟩, ⟨8, [], []⟩, ⟨9, [], []⟩, ⟨10, [], []⟩]))]) Try.func21 (c := bodyOf Try.f21) rfl (by kernel_rfl) (by kernel_rfl) Try.ntmps21 (res := [.tmp 4, .tmp 5]) (by kernel_rfl) ?_
  repeat' ((conv => whnf); first | refine Rng.g ?_ | refine Ob.g ?_ | refine Ob.e ?_ | refine Ob.m ?_ | refine Ob.mk (Nat.le_of_ble_eq_true rfl) ?_ | refine JoinVC.on ?_ | refine Nils.mk (fun h => ?_) ?_ | refine Val.t ?_ | refine Val.d ?_ | refine Mm.mk ?_ | (refine Br.mk (fun h => ?_) (fun h => ?_) <;> first | (exfalso; omega; done) | (exfalso; simp at h; done) | skip))
  conv => whnf
  first | refine CallVC.mk [0, 1, 2, 3, 4, 5] _ _ _ rfl rfl rfl (c53) (fun r m' h' => ?_) | refine CallVC0.same [0, 1, 2, 3, 4, 5] _ _ _ rfl rfl rfl rfl (c53) (fun r m' h' => (by obtain ⟨rfl, rfl⟩ := h'; rfl)) (fun r m' h' => ?_) | (refine CallVC0.rows [0, 1, 2, 3, 4, 5] _ _ _ rfl rfl rfl ?_ (c53) (fun r m' h' => (by obtain ⟨rfl, rfl⟩ := h'; rfl)) (fun r m' h' => ?_); · (repeat' ((conv => whnf); first | exact trivial | exact rfl | exact Nat.le_refl _ | apply And.intro)))
  obtain ⟨rfl, rfl⟩ := h'
  conv => whnf
  repeat' ((conv => whnf); first | refine Rng.g ?_ | refine Ob.g ?_ | refine Ob.e ?_ | refine Ob.m ?_ | refine Ob.mk (Nat.le_of_ble_eq_true rfl) ?_ | refine JoinVC.on ?_ | refine Nils.mk (fun h => ?_) ?_ | refine Val.t ?_ | refine Val.d ?_ | refine Mm.mk ?_ | refine CallVC.pure rfl (c54) ?_ | refine CallVC0.pure rfl (c54) ?_ | (refine Br.mk (fun h => ?_) (fun h => ?_) <;> first | (exfalso; omega; done) | (exfalso; simp at h; done) | skip))
  · exact absurd ha h
  rw [hk']
  repeat' ((conv => whnf); first | refine Rng.g ?_ | refine Ob.g ?_ | refine Ob.e ?_ | refine Ob.m ?_ | refine Ob.mk (Nat.le_of_ble_eq_true rfl) ?_ | refine JoinVC.on ?_ | refine Nils.mk (fun h => ?_) ?_ | refine Val.t ?_ | refine Val.d ?_ | refine Mm.mk ?_ | (refine Br.mk (fun h => ?_) (fun h => ?_) <;> first | (exfalso; omega; done) | (exfalso; simp at h; done) | skip))
  conv => whnf
  first | refine CallVC.mk [0, 1, 2, 3, 4, 5] _ _ _ rfl rfl rfl (c) (fun r m' h' => ?_) | refine CallVC0.same [0, 1, 2, 3, 4, 5] _ _ _ rfl rfl rfl rfl (c) (fun r m' h' => (by obtain ⟨ms', hM', rfl, rfl⟩ := h'; rfl)) (fun r m' h' => ?_) | (refine CallVC0.rows [0, 1, 2, 3, 4, 5] _ _ _ rfl rfl rfl ?_ (c) (fun r m' h' => (by obtain ⟨ms', hM', rfl, rfl⟩ := h'; rfl)) (fun r m' h' => ?_); · (repeat' ((conv => whnf); first | exact trivial | exact rfl | exact Nat.le_refl _ | apply And.intro)))
  obtain ⟨ms', hM', rfl, rfl⟩ := h'
  conv => whnf
  rw [actT_r, actT_ac]
  by_cases h0 : actE S a = 0
  · rw [if_pos h0, h0]
    repeat' ((conv => whnf); first | refine Rng.g ?_ | refine Ob.g ?_ | refine Ob.e ?_ | refine Ob.m ?_ | refine Ob.mk (Nat.le_of_ble_eq_true rfl) ?_ | refine JoinVC.on ?_ | refine Nils.mk (fun h => ?_) ?_ | refine Val.t ?_ | refine Val.d ?_ | refine Mm.mk ?_ | (refine Br.mk (fun h => ?_) (fun h => ?_) <;> first | (exfalso; omega; done) | (exfalso; simp at h; done) | skip))
    repeat refine Mm.mk ?_
    refine Ob.mk (by rw [eb43]; simp only [List.length_cons, List.length_nil]; omega) ?_
    have hl2 := acA_len (S.ac ++ [a])
    rw [List.length_append, List.length_singleton] at hl2
    repeat' ((conv => whnf); first | rw [hsn] | refine Rng.g ?_ | refine Ob.g ?_ | refine Ob.e ?_ | refine Ob.m ?_ | refine Ob.mk (Nat.le_of_ble_eq_true rfl) ?_ | refine JoinVC.on ?_ | refine Nils.mk (fun h => ?_) ?_ | refine Val.t ?_ | refine Val.d ?_ | refine Mm.mk ?_ | (refine Br.mk (fun h => ?_) (fun h => ?_) <;> first | (exfalso; omega; done) | (exfalso; simp at h; done) | skip))
    repeat refine Mm.mk ?_
    conv => whnf
    refine EndVC.mk _ rfl _ _ (DoR.ok hE h0 hM') ?_
    refine ⟨[some 0, none, some 2, none, none, none, some 8, some 9, some 10, some 13], rfl, rfl, ?_, ?_⟩ <;> repeat' (first | exact trivial | exact rfl | exact Iff.rfl | apply And.intro)
    all_goals first
      | exact hsn
      | omega
  · rw [if_neg h0]
    repeat' ((conv => whnf); first | refine Rng.g ?_ | refine Ob.g ?_ | refine Ob.e ?_ | refine Ob.m ?_ | refine Ob.mk (Nat.le_of_ble_eq_true rfl) ?_ | refine JoinVC.on ?_ | refine Nils.mk (fun h => ?_) ?_ | refine Val.t ?_ | refine Val.d ?_ | refine Mm.mk ?_ | (refine Br.mk (fun h => ?_) (fun h => ?_) <;> first | (exfalso; omega; done) | (exfalso; simp at h; done) | skip))
    repeat refine Mm.mk ?_
    conv => whnf
    refine EndVC.mk _ rfl _ _ (DoR.err hE h0 hM') ?_
    refine ⟨[some 0, none, some 2, none, none, none, some 8, some 9, some 10, some 11], rfl, rfl, ?_, ?_⟩ <;> repeat' (first | exact trivial | exact rfl | exact Iff.rfl | apply And.intro)
theorem s21_5 (S : Sho) (ms : List MS) (a : Act2) (ha : ActOK a) (hn : S.ac.length < 1000) (hk : a.kd = 5) (c : HSpec Try.prog 59 [.one (.ptr 0 0), a.x] (shM S ms) (AcR S a)) : HSpec Try.prog 21 [.one (.ptr 0 0), a.x] (shM S ms) (DoR S a) := by
  have hl := acA_len S.ac
  have c53 := s53 S ms
  have c54 := s54 a
  have hsn := acA_snoc S.ac a
  have hE : doE S a = actE S a := by unfold doE; rw [if_neg (by omega), if_pos ha]
  have hk' : a.kd.toNat = 5 := by omega
  refine spec_of pMix (O := [(10, ([], [⟨0, [], []⟩, ⟨1, [], []⟩, ⟨2, [], []⟩, ⟨3, [], []⟩, ⟨4, [], []⟩, ⟨5, [], [6]⟩, ⟨6, [], []⟩, ⟨7, [0], []⟩, ⟨8, [], []⟩, ⟨9, [], []⟩, ⟨10, [], []⟩]))]) Try.func21 (c := bodyOf Try.f21) rfl (by kernel_rfl) (by kernel_rfl) Try.ntmps21 (res := [.tmp 4, .tmp 5]) (by kernel_rfl) ?_
  repeat' ((conv => whnf); first | refine Rng.g ?_ | refine Ob.g ?_ | refine Ob.e ?_ | refine Ob.m ?_ | refine Ob.mk (Nat.le_of_ble_eq_true rfl) ?_ | refine JoinVC.on ?_ | refine Nils.mk (fun h => ?_) ?_ | refine Val.t ?_ | refine Val.d ?_ | refine Mm.mk ?_ | (refine Br.mk (fun h => ?_) (fun h => ?_) <;> first | (exfalso; omega; done) | (exfalso; simp at h; done) | skip))
  conv => whnf
  first | refine CallVC.mk [0, 1, 2, 3, 4, 5] _ _ _ rfl rfl rfl (c53) (fun r m' h' => ?_) | refine CallVC0.same [0, 1, 2, 3, 4, 5] _ _ _ rfl rfl rfl rfl (c53) (fun r m' h' => (by obtain ⟨rfl, rfl⟩ := h'; rfl)) (fun r m' h' => ?_) | (refine CallVC0.rows [0, 1, 2, 3, 4, 5] _ _ _ rfl rfl rfl ?_ (c53) (fun r m' h' => (by obtain ⟨rfl, rfl⟩ := h'; rfl)) (fun r m' h' => ?_); · (repeat' ((conv => whnf); first | exact trivial | exact rfl | exact Nat.le_refl _ | apply And.intro)))
  obtain ⟨rfl, rfl⟩ := h'
  conv => whnf
  repeat' ((conv => whnf); first | refine Rng.g ?_ | refine Ob.g ?_ | refine Ob.e ?_ | refine Ob.m ?_ | refine Ob.mk (Nat.le_of_ble_eq_true rfl) ?_ | refine JoinVC.on ?_ | refine Nils.mk (fun h => ?_) ?_ | refine Val.t ?_ | refine Val.d ?_ | refine Mm.mk ?_ | refine CallVC.pure rfl (c54) ?_ | refine CallVC0.pure rfl (c54) ?_ | (refine Br.mk (fun h => ?_) (fun h => ?_) <;> first | (exfalso; omega; done) | (exfalso; simp at h; done) | skip))
  · exact absurd ha h
  rw [hk']
  repeat' ((conv => whnf); first | refine Rng.g ?_ | refine Ob.g ?_ | refine Ob.e ?_ | refine Ob.m ?_ | refine Ob.mk (Nat.le_of_ble_eq_true rfl) ?_ | refine JoinVC.on ?_ | refine Nils.mk (fun h => ?_) ?_ | refine Val.t ?_ | refine Val.d ?_ | refine Mm.mk ?_ | (refine Br.mk (fun h => ?_) (fun h => ?_) <;> first | (exfalso; omega; done) | (exfalso; simp at h; done) | skip))
  conv => whnf
  first | refine CallVC.mk [0, 1, 2, 3, 4, 5] _ _ _ rfl rfl rfl (c) (fun r m' h' => ?_) | refine CallVC0.same [0, 1, 2, 3, 4, 5] _ _ _ rfl rfl rfl rfl (c) (fun r m' h' => (by obtain ⟨ms', hM', rfl, rfl⟩ := h'; rfl)) (fun r m' h' => ?_) | (refine CallVC0.rows [0, 1, 2, 3, 4, 5] _ _ _ rfl rfl rfl ?_ (c) (fun r m' h' => (by obtain ⟨ms', hM', rfl, rfl⟩ := h'; rfl)) (fun r m' h' => ?_); · (repeat' ((conv => whnf); first | exact trivial | exact rfl | exact Nat.le_refl _ | apply And.intro)))
  obtain ⟨ms', hM', rfl, rfl⟩ := h'
  conv => whnf
  rw [actT_r, actT_ac]
  by_cases h0 : actE S a = 0
  · rw [if_pos h0, h0]
    repeat' ((conv => whnf); first | refine Rng.g ?_ | refine Ob.g ?_ | refine Ob.e ?_ | refine Ob.m ?_ | refine Ob.mk (Nat.le_of_ble_eq_true rfl) ?_ | refine JoinVC.on ?_ | refine Nils.mk (fun h => ?_) ?_ | refine Val.t ?_ | refine Val.d ?_ | refine Mm.mk ?_ | (refine Br.mk (fun h => ?_) (fun h => ?_) <;> first | (exfalso; omega; done) | (exfalso; simp at h; done) | skip))
    repeat refine Mm.mk ?_
    refine Ob.mk (by rw [eb43]; simp only [List.length_cons, List.length_nil]; omega) ?_
    have hl2 := acA_len (S.ac ++ [a])
    rw [List.length_append, List.length_singleton] at hl2
    repeat' ((conv => whnf); first | rw [hsn] | refine Rng.g ?_ | refine Ob.g ?_ | refine Ob.e ?_ | refine Ob.m ?_ | refine Ob.mk (Nat.le_of_ble_eq_true rfl) ?_ | refine JoinVC.on ?_ | refine Nils.mk (fun h => ?_) ?_ | refine Val.t ?_ | refine Val.d ?_ | refine Mm.mk ?_ | (refine Br.mk (fun h => ?_) (fun h => ?_) <;> first | (exfalso; omega; done) | (exfalso; simp at h; done) | skip))
    repeat refine Mm.mk ?_
    conv => whnf
    refine EndVC.mk _ rfl _ _ (DoR.ok hE h0 hM') ?_
    refine ⟨[some 0, none, some 2, none, none, none, some 8, some 9, some 10, some 13], rfl, rfl, ?_, ?_⟩ <;> repeat' (first | exact trivial | exact rfl | exact Iff.rfl | apply And.intro)
    all_goals first
      | exact hsn
      | omega
  · rw [if_neg h0]
    repeat' ((conv => whnf); first | refine Rng.g ?_ | refine Ob.g ?_ | refine Ob.e ?_ | refine Ob.m ?_ | refine Ob.mk (Nat.le_of_ble_eq_true rfl) ?_ | refine JoinVC.on ?_ | refine Nils.mk (fun h => ?_) ?_ | refine Val.t ?_ | refine Val.d ?_ | refine Mm.mk ?_ | (refine Br.mk (fun h => ?_) (fun h => ?_) <;> first | (exfalso; omega; done) | (exfalso; simp at h; done) | skip))
    repeat refine Mm.mk ?_
    conv => whnf
    refine EndVC.mk _ rfl _ _ (DoR.err hE h0 hM') ?_
    refine ⟨[some 0, none, some 2, none, none, none, some 8, some 9, some 10, some 11], rfl, rfl, ?_, ?_⟩ <;> repeat' (first | exact trivial | exact rfl | exact Iff.rfl | apply And.intro)
theorem s21_6 (S : Sho) (ms : List MS) (a : Act2) (ha : ActOK a) (hn : S.ac.length < 1000) (hk : a.kd = 6) (c : HSpec Try.prog 60 [.one (.ptr 0 0), a.x] (shM S ms) (AcR S a)) : HSpec Try.prog 21 [.one (.ptr 0 0), a.x] (shM S ms) (DoR S a) := by
  have hl := acA_len S.ac
  have c53 := s53 S ms
  have c54 := s54 a
  have hsn := acA_snoc S.ac a
  have hE : doE S a = actE S a := by unfold doE; rw [if_neg (by omega), if_pos ha]
  have hk' : a.kd.toNat = 6 := by omega
  refine spec_of pMix (O := [(10, ([], [⟨0, [], []⟩, ⟨1, [], []⟩, ⟨2, [], []⟩, ⟨3, [], []⟩, ⟨4, [], []⟩, ⟨5, [], [6]⟩, ⟨6, [], []⟩, ⟨7, [0], []⟩, ⟨8, [], []⟩, ⟨9, [], []⟩, ⟨10, [], []⟩]))]) Try.func21 (c := bodyOf Try.f21) rfl (by kernel_rfl) (by kernel_rfl) Try.ntmps21 (res := [.tmp 4, .tmp 5]) (by kernel_rfl) ?_
  repeat' ((conv => whnf); first | refine Rng.g ?_ | refine Ob.g ?_ | refine Ob.e ?_ | refine Ob.m ?_ | refine Ob.mk (Nat.le_of_ble_eq_true rfl) ?_ | refine JoinVC.on ?_ | refine Nils.mk (fun h => ?_) ?_ | refine Val.t ?_ | refine Val.d ?_ | refine Mm.mk ?_ | (refine Br.mk (fun h => ?_) (fun h => ?_) <;> first | (exfalso; omega; done) | (exfalso; simp at h; done) | skip))
  conv => whnf
  first | refine CallVC.mk [0, 1, 2, 3, 4, 5] _ _ _ rfl rfl rfl (c53) (fun r m' h' => ?_) | refine CallVC0.same [0, 1, 2, 3, 4, 5] _ _ _ rfl rfl rfl rfl (c53) (fun r m' h' => (by obtain ⟨rfl, rfl⟩ := h'; rfl)) (fun r m' h' => ?_) | (refine CallVC0.rows [0, 1, 2, 3, 4, 5] _ _ _ rfl rfl rfl ?_ (c53) (fun r m' h' => (by obtain ⟨rfl, rfl⟩ := h'; rfl)) (fun r m' h' => ?_); · (repeat' ((conv => whnf); first | exact trivial | exact rfl | exact Nat.le_refl _ | apply And.intro)))
  obtain ⟨rfl, rfl⟩ := h'
  conv => whnf
  repeat' ((conv => whnf); first | refine Rng.g ?_ | refine Ob.g ?_ | refine Ob.e ?_ | refine Ob.m ?_ | refine Ob.mk (Nat.le_of_ble_eq_true rfl) ?_ | refine JoinVC.on ?_ | refine Nils.mk (fun h => ?_) ?_ | refine Val.t ?_ | refine Val.d ?_ | refine Mm.mk ?_ | refine CallVC.pure rfl (c54) ?_ | refine CallVC0.pure rfl (c54) ?_ | (refine Br.mk (fun h => ?_) (fun h => ?_) <;> first | (exfalso; omega; done) | (exfalso; simp at h; done) | skip))
  · exact absurd ha h
  rw [hk']
  repeat' ((conv => whnf); first | refine Rng.g ?_ | refine Ob.g ?_ | refine Ob.e ?_ | refine Ob.m ?_ | refine Ob.mk (Nat.le_of_ble_eq_true rfl) ?_ | refine JoinVC.on ?_ | refine Nils.mk (fun h => ?_) ?_ | refine Val.t ?_ | refine Val.d ?_ | refine Mm.mk ?_ | (refine Br.mk (fun h => ?_) (fun h => ?_) <;> first | (exfalso; omega; done) | (exfalso; simp at h; done) | skip))
  conv => whnf
  first | refine CallVC.mk [0, 1, 2, 3, 4, 5] _ _ _ rfl rfl rfl (c) (fun r m' h' => ?_) | refine CallVC0.same [0, 1, 2, 3, 4, 5] _ _ _ rfl rfl rfl rfl (c) (fun r m' h' => (by obtain ⟨ms', hM', rfl, rfl⟩ := h'; rfl)) (fun r m' h' => ?_) | (refine CallVC0.rows [0, 1, 2, 3, 4, 5] _ _ _ rfl rfl rfl ?_ (c) (fun r m' h' => (by obtain ⟨ms', hM', rfl, rfl⟩ := h'; rfl)) (fun r m' h' => ?_); · (repeat' ((conv => whnf); first | exact trivial | exact rfl | exact Nat.le_refl _ | apply And.intro)))
  obtain ⟨ms', hM', rfl, rfl⟩ := h'
  conv => whnf
  rw [actT_r, actT_ac]
  by_cases h0 : actE S a = 0
  · rw [if_pos h0, h0]
    repeat' ((conv => whnf); first | refine Rng.g ?_ | refine Ob.g ?_ | refine Ob.e ?_ | refine Ob.m ?_ | refine Ob.mk (Nat.le_of_ble_eq_true rfl) ?_ | refine JoinVC.on ?_ | refine Nils.mk (fun h => ?_) ?_ | refine Val.t ?_ | refine Val.d ?_ | refine Mm.mk ?_ | (refine Br.mk (fun h => ?_) (fun h => ?_) <;> first | (exfalso; omega; done) | (exfalso; simp at h; done) | skip))
    repeat refine Mm.mk ?_
    refine Ob.mk (by rw [eb43]; simp only [List.length_cons, List.length_nil]; omega) ?_
    have hl2 := acA_len (S.ac ++ [a])
    rw [List.length_append, List.length_singleton] at hl2
    repeat' ((conv => whnf); first | rw [hsn] | refine Rng.g ?_ | refine Ob.g ?_ | refine Ob.e ?_ | refine Ob.m ?_ | refine Ob.mk (Nat.le_of_ble_eq_true rfl) ?_ | refine JoinVC.on ?_ | refine Nils.mk (fun h => ?_) ?_ | refine Val.t ?_ | refine Val.d ?_ | refine Mm.mk ?_ | (refine Br.mk (fun h => ?_) (fun h => ?_) <;> first | (exfalso; omega; done) | (exfalso; simp at h; done) | skip))
    repeat refine Mm.mk ?_
    conv => whnf
    refine EndVC.mk _ rfl _ _ (DoR.ok hE h0 hM') ?_
    refine ⟨[some 0, none, some 2, none, none, none, some 8, some 9, some 10, some 13], rfl, rfl, ?_, ?_⟩ <;> repeat' (first | exact trivial | exact rfl | exact Iff.rfl | apply And.intro)
    all_goals first
      | exact hsn
      | omega
  · rw [if_neg h0]
    repeat' ((conv => whnf); first | refine Rng.g ?_ | refine Ob.g ?_ | refine Ob.e ?_ | refine Ob.m ?_ | refine Ob.mk (Nat.le_of_ble_eq_true rfl) ?_ | refine JoinVC.on ?_ | refine Nils.mk (fun h => ?_) ?_ | refine Val.t ?_ | refine Val.d ?_ | refine Mm.mk ?_ | (refine Br.mk (fun h => ?_) (fun h => ?_) <;> first | (exfalso; omega; done) | (exfalso; simp at h; done) | skip))
    repeat refine Mm.mk ?_
    conv => whnf
    refine EndVC.mk _ rfl _ _ (DoR.err hE h0 hM') ?_
    refine ⟨[some 0, none, some 2, none, none, none, some 8, some 9, some 10, some 11], rfl, rfl, ?_, ?_⟩ <;> repeat' (first | exact trivial | exact rfl | exact Iff.rfl | apply And.intro)
theorem DoR.no {S : Sho} {a : Act2} {ms : List MS} {e : Int} (hE : doE S a = e) (h0 : e ≠ 0) (hM : MsOK ms S.be) : DoR S a (.tup [I 0, I e]) (shO S ms) := by
  subst hE
  have h2 : doS S a = S := if_neg h0
  exact ⟨ms, by rw [h2]; exact hM, by rw [doN, if_neg h0], by rw [h2]⟩
theorem s21 (S : Sho) (ms : List MS) (hS : ShOK S) (hM : MsOK ms S.be) (a : Act2) : HSpec Try.prog 21 [.one (.ptr 0 0), a.x] (shM S ms) (DoR S a) := by
  have hl := acA_len S.ac
  by_cases hn : 1000 ≤ S.ac.length
  · have hE : doE S a = 6 := by unfold doE; rw [if_pos hn]
    have c53 := s53 S ms
    refine spec_of pMix (O := [(10, ([], [⟨0, [], []⟩, ⟨1, [], []⟩, ⟨2, [], []⟩, ⟨3, [], []⟩, ⟨4, [], []⟩, ⟨5, [], [6]⟩, ⟨6, [], []⟩, ⟨7, [0], []⟩, ⟨8, [], []⟩, ⟨9, [], []⟩, ⟨10, [], []⟩]))]) Try.func21 (c := bodyOf Try.f21) rfl (by kernel_rfl) (by kernel_rfl) Try.ntmps21 (res := [.tmp 4, .tmp 5]) (by kernel_rfl) ?_
    repeat' ((conv => whnf); first | refine Rng.g ?_ | refine Ob.g ?_ | refine Ob.e ?_ | refine Ob.m ?_ | refine Ob.mk (Nat.le_of_ble_eq_true rfl) ?_ | refine JoinVC.on ?_ | refine Nils.mk (fun h => ?_) ?_ | refine Val.t ?_ | refine Val.d ?_ | refine Mm.mk ?_ | (refine Br.mk (fun h => ?_) (fun h => ?_) <;> first | (exfalso; omega; done) | (exfalso; simp at h; done) | skip))
    conv => whnf
    first | refine CallVC.mk [0, 1, 2, 3, 4, 5] _ _ _ rfl rfl rfl (c53) (fun r m' h' => ?_) | refine CallVC0.same [0, 1, 2, 3, 4, 5] _ _ _ rfl rfl rfl rfl (c53) (fun r m' h' => (by obtain ⟨rfl, rfl⟩ := h'; rfl)) (fun r m' h' => ?_) | (refine CallVC0.rows [0, 1, 2, 3, 4, 5] _ _ _ rfl rfl rfl ?_ (c53) (fun r m' h' => (by obtain ⟨rfl, rfl⟩ := h'; rfl)) (fun r m' h' => ?_); · (repeat' ((conv => whnf); first | exact trivial | exact rfl | exact Nat.le_refl _ | apply And.intro)))
    obtain ⟨rfl, rfl⟩ := h'
    conv => whnf
    repeat' ((conv => whnf); first | refine Rng.g ?_ | refine Ob.g ?_ | refine Ob.e ?_ | refine Ob.m ?_ | refine Ob.mk (Nat.le_of_ble_eq_true rfl) ?_ | refine JoinVC.on ?_ | refine Nils.mk (fun h => ?_) ?_ | refine Val.t ?_ | refine Val.d ?_ | refine Mm.mk ?_ | (refine Br.mk (fun h => ?_) (fun h => ?_) <;> first | (exfalso; omega; done) | (exfalso; simp at h; done) | skip))
    repeat refine Mm.mk ?_
    conv => whnf
    refine EndVC.mk _ rfl _ _ (DoR.no hE (by decide) hM) ?_
    refine ⟨[some 0, none, some 2, none, none, none, some 1, some 3, some 4, some 5], rfl, rfl, ?_, ?_⟩ <;> repeat' (first | exact trivial | exact rfl | exact Iff.rfl | apply And.intro)
  by_cases ha : ActOK a
  · have hn' : S.ac.length < 1000 := by omega
    have hk := ha.kd
    rcases (show a.kd = 1 ∨ a.kd = 2 ∨ a.kd = 3 ∨ a.kd = 4 ∨ a.kd = 5 ∨ a.kd = 6 by omega) with h | h | h | h | h | h
    · exact s21_1 S ms a ha hn' h (s55 S ms hM a h)
    · exact s21_2 S ms a ha hn' h (s56 S ms hM a h)
    · exact s21_3 S ms a ha hn' h (s57 S ms hS hM a (ha.gro h) h)
    · exact s21_4 S ms a ha hn' h (s58 S ms hS hM a h)
    · exact s21_5 S ms a ha hn' h (s59 S ms hS hM a h)
    · exact s21_6 S ms a ha hn' h (s60 S ms hM a h)
  · have hE : doE S a = 2 := by unfold doE; rw [if_neg hn, if_neg ha]
    have c53 := s53 S ms
    have c54 := s54 a
    refine spec_of pMix (O := [(10, ([], [⟨0, [], []⟩, ⟨1, [], []⟩, ⟨2, [], []⟩, ⟨3, [], []⟩, ⟨4, [], []⟩, ⟨5, [], [6]⟩, ⟨6, [], []⟩, ⟨7, [0], []⟩, ⟨8, [], []⟩, ⟨9, [], []⟩, ⟨10, [], []⟩]))]) Try.func21 (c := bodyOf Try.f21) rfl (by kernel_rfl) (by kernel_rfl) Try.ntmps21 (res := [.tmp 4, .tmp 5]) (by kernel_rfl) ?_
    repeat' ((conv => whnf); first | refine Rng.g ?_ | refine Ob.g ?_ | refine Ob.e ?_ | refine Ob.m ?_ | refine Ob.mk (Nat.le_of_ble_eq_true rfl) ?_ | refine JoinVC.on ?_ | refine Nils.mk (fun h => ?_) ?_ | refine Val.t ?_ | refine Val.d ?_ | refine Mm.mk ?_ | (refine Br.mk (fun h => ?_) (fun h => ?_) <;> first | (exfalso; omega; done) | (exfalso; simp at h; done) | skip))
    conv => whnf
    first | refine CallVC.mk [0, 1, 2, 3, 4, 5] _ _ _ rfl rfl rfl (c53) (fun r m' h' => ?_) | refine CallVC0.same [0, 1, 2, 3, 4, 5] _ _ _ rfl rfl rfl rfl (c53) (fun r m' h' => (by obtain ⟨rfl, rfl⟩ := h'; rfl)) (fun r m' h' => ?_) | (refine CallVC0.rows [0, 1, 2, 3, 4, 5] _ _ _ rfl rfl rfl ?_ (c53) (fun r m' h' => (by obtain ⟨rfl, rfl⟩ := h'; rfl)) (fun r m' h' => ?_); · (repeat' ((conv => whnf); first | exact trivial | exact rfl | exact Nat.le_refl _ | apply And.intro)))
    obtain ⟨rfl, rfl⟩ := h'
    conv => whnf
    repeat' ((conv => whnf); first | refine Rng.g ?_ | refine Ob.g ?_ | refine Ob.e ?_ | refine Ob.m ?_ | refine Ob.mk (Nat.le_of_ble_eq_true rfl) ?_ | refine JoinVC.on ?_ | refine Nils.mk (fun h => ?_) ?_ | refine Val.t ?_ | refine Val.d ?_ | refine Mm.mk ?_ | refine CallVC.pure rfl (c54) ?_ | refine CallVC0.pure rfl (c54) ?_ | (refine Br.mk (fun h => ?_) (fun h => ?_) <;> first | (exfalso; omega; done) | (exfalso; simp at h; done) | skip))
    · repeat refine Mm.mk ?_
      conv => whnf
      refine EndVC.mk _ rfl _ _ (DoR.no hE (by decide) hM) ?_
      refine ⟨[some 0, none, some 2, none, none, none, some 1, some 3, some 4, some 5], rfl, rfl, ?_, ?_⟩ <;> repeat' (first | exact trivial | exact rfl | exact Iff.rfl | apply And.intro)
    · exact absurd (Classical.not_not.1 ‹¬¬ActOK a›) ha
end Go.Sx

namespace Go.Sx
open Go Go.Proofs
set_option maxRecDepth 10000
set_option maxHeartbeats 4000000
/-! ### What holds stays -/
theorem ShOK.doS {S : Sho} (hS : ShOK S) (a : Act2) : ShOK (doS S a) := by
  unfold Go.Sx.doS
  split
  case isFalse => exact hS
  rename_i hE
  unfold doE at hE
  split at hE
  · cases hE
  rename_i hn
  split at hE
  case isFalse => cases hE
  rename_i ha
  have hk := ha.kd
  have hnb := hS.nb
  have hna := hS.na
  have hnp := hS.np
  have hnt := hS.nt
  have hnf := hS.nf
  have tkS : ∀ i, i < S.tk.length → (0 ≤ (S.tk.getD i tk0).st ∧ (S.tk.getD i tk0).st ≤ 1099511627776) ∧ (1 ≤ (S.tk.getD i tk0).yd ∧ (S.tk.getD i tk0).yd ≤ 1000) ∧ (0 ≤ (S.tk.getD i tk0).ld ∧ (S.tk.getD i tk0).ld + (S.tk.getD i tk0).st ≤ 1099511627776) ∧ 0 ≤ (S.tk.getD i tk0).ch ∧ (S.tk.getD i tk0).ch ≤ 2199023255552 * ((S.ac ++ [a]).length : Int) := fun i hi => by
    obtain ⟨h1, h2, h3, h4⟩ := hS.tk i hi
    refine ⟨h1, h2, h3, h4.1, ?_⟩
    simp only [List.length_append, List.length_singleton]
    omega
  have hac : (S.ac ++ [a]).length ≤ 1000 := by simp only [List.length_append, List.length_singleton]; omega
  have plS : ∀ (S' : Sho) i, i < S.pl.length → PlOK S' i (S.pl.getD i p0) := fun S' i hi => by
    have h := hS.pl i hi
    exact ⟨h.kd, h.pa, h.area, h.grown⟩
  rcases (show a.kd = 1 ∨ a.kd = 2 ∨ a.kd = 3 ∨ a.kd = 4 ∨ a.kd = 5 ∨ a.kd = 6 by omega) with h | h | h | h | h | h
  · have hs : actS S a = { S with pl := S.pl ++ [⟨0, -1, a.cut, a.area, 0, 0, false⟩], be := S.be ++ [[]] } := by unfold actS; rw [if_pos h]
    have he : ¬ 256 ≤ S.pl.length := by
      unfold actE at hE
      rw [if_pos h] at hE
      intro hc
      rw [if_pos hc] at hE
      cases hE
    have hB : (0 ≤ a.cut ∧ a.cut ≤ 1099511627776) ∧ 1 ≤ a.area ∧ a.area ≤ 1048576 := by
      unfold ActOK at ha
      rcases ha with ha | ha | ha | ha | ha | ha
      · exact ha.2
      all_goals omega
    rw [hs]
    refine ⟨hS.r, ?_, ?_, hnt, hnf, hac, fun i hi => ?_, tkS, fun i hi => ?_⟩
    · simp [hnb]
    · simp; omega
    · dsimp only at hi ⊢
      simp only [List.length_append, List.length_singleton] at hi
      rw [getD_app]
      split
      · exact plS _ i ‹_›
      · rw [if_pos (by omega)]
        refine ⟨⟨?_, ?_⟩, ⟨?_, ?_⟩, hB.2, ?_, ?_⟩ <;> simp only [] <;> omega
    · dsimp only at hi ⊢
      simp only [List.length_append, List.length_singleton] at hi
      rw [getD_app]
      split
      · exact hS.be i ‹_›
      · rw [if_pos (by omega)]
        exact ⟨by simp, fun k hk => by simp at hk⟩
  · have hs : actS S a = { S with tk := S.tk ++ [⟨a.stock, a.yd, 0, 0⟩] } := by unfold actS; rw [if_neg (by omega), if_pos h]
    have he : ¬ 8 ≤ S.tk.length := by
      unfold actE at hE
      rw [if_neg (by omega), if_pos h] at hE
      intro hc
      rw [if_pos hc] at hE
      cases hE
    have hB : (0 ≤ a.stock ∧ a.stock ≤ 1099511627776) ∧ 1 ≤ a.yd ∧ a.yd ≤ 1000 := by
      unfold ActOK at ha
      rcases ha with ha | ha | ha | ha | ha | ha
      · omega
      · exact ha.2
      all_goals omega
    rw [hs]
    refine ⟨hS.r, hnb, hnp, ?_, hnf, hac, plS _, fun i hi => ?_, hS.be⟩
    · simp; omega
    · dsimp only at hi ⊢
      rw [List.length_append, List.length_singleton] at hi
      rw [getD_app]
      split
      · exact tkS i ‹_›
      · rw [if_pos (by omega)]
        exact ⟨hB.1, hB.2, ⟨Int.le_refl _, by simp only []; omega⟩, Int.le_refl _, by simp only [List.length_append, List.length_singleton]; omega⟩
  · have hs : actS S a = { S with pl := (S.pl ++ [newP S a]).set a.plate.toNat (oldP (S.p a.plate)), be := S.be ++ [S.b a.plate], tk := S.tk.set a.bath.toNat (newT S a) } := by unfold actS; rw [if_neg (by omega), if_neg (by omega), if_pos h]
    have hG : groE S a = 0 := by unfold actE at hE; rwa [if_neg (by omega), if_neg (by omega), if_pos h] at hE
    have h1 : herE S a = 0 := by
      unfold groE at hG
      split at hG
      · exact hG
      · exact Classical.byContradiction ‹_›
    have h2 : layE S a = 0 := by unfold groE at hG; rwa [if_neg (by omega)] at hG
    have hst : ¬ (S.t a.bath).st < allM S a := by
      unfold layE at h2
      split at h2
      · cases h2
      intro hc
      rw [if_pos hc] at h2
      cases h2
    obtain ⟨hi, hb, hret, h256, hkd, hcap⟩ := herE_0 hS h1
    have hg := ha.gro h
    have hgro := mulB hg.s0 hg.s1
    have hgr2 := mulB hg.cur hg.sec
    have hchg : 0 ≤ chgM a ∧ chgM a ≤ 2199023255552 := by unfold chgM; omega
    have hB := (thkB S hS a hg hi hb).2.1
    obtain ⟨hb1, hb2⟩ := hb
    unfold inP at hi
    obtain ⟨hi1, hi2⟩ := hi
    have hp : PlOK S a.plate.toNat (S.p a.plate) := hS.pl a.plate.toNat (by omega)
    have hk0 := hp.kd
    have har := hp.area
    have hg0 := hp.grown
    have hcl : capP S.r (S.p a.plate).kd ≤ 16 := by
      have := hS.r.mo
      have := hS.r.sp
      unfold capP
      split
      · omega
      split
      · omega
      split
      · omega
      omega
    obtain ⟨q1, q2, q3, q4⟩ := hS.tk a.bath.toNat (by omega)
    have hlen : ((S.pl ++ [newP S a]).set a.plate.toNat (oldP (S.p a.plate))).length = S.pl.length + 1 := by simp
    rw [hs]
    refine ⟨hS.r, by dsimp only; rw [hlen]; simp [hnb], by dsimp only; rw [hlen]; omega, by dsimp only; rw [List.length_set]; exact hnt, hnf, hac, fun i hi => ?_, fun i hi => ?_, fun i hi => ?_⟩
    · dsimp only at hi ⊢
      rw [hlen] at hi
      rw [getD_set]
      split
      · rename_i hq
        obtain ⟨rfl, _⟩ := hq
        exact ⟨hp.kd, hp.pa, hp.area, by simp only [oldP]; omega, by simp only [oldP]; omega⟩
      rw [getD_app]
      split
      · exact plS _ i ‹_›
      · rw [if_pos (by omega)]
        exact ⟨by simp only [newP]; omega, by simp only [newP]; omega, har, by simp only [newP]; omega⟩
    · dsimp only at hi ⊢
      rw [List.length_set] at hi
      rw [getD_set]
      split
      · rename_i hq
        obtain ⟨rfl, _⟩ := hq
        have e : ((S.ac ++ [a]).length : Int) = (S.ac.length : Int) + 1 := by simp
        rw [e]
        have hst' : ¬ (S.tk.getD a.bath.toNat tk0).st < allM S a := hst
        refine ⟨⟨?_, ?_⟩, q2, ⟨?_, ?_⟩, ?_, ?_⟩ <;> simp only [newT, Sho.t] <;> omega
      · exact tkS i hi
    · dsimp only at hi ⊢
      simp only [List.length_append, List.length_singleton] at hi
      rw [getD_app]
      split
      · exact hS.be i ‹_›
      · rw [if_pos (by omega)]
        exact hS.be a.plate.toNat (by omega)
  all_goals
    have hi : inP S a.plate := by
      unfold actE at hE
      rw [if_neg (by omega), if_neg (by omega), if_neg (by omega)] at hE
      exact Classical.byContradiction fun hc => by rw [if_pos (.inl hc)] at hE; cases hE
    unfold inP at hi
  · have hs : actS S a = { S with fl := S.fl ++ [(a.plate, a.place)], be := S.be.set a.plate.toNat (S.b a.plate ++ [(S.fl.length : Int)]) } := by unfold actS; rw [if_neg (by omega), if_neg (by omega), if_neg (by omega), if_pos h]
    have he : ¬ 64 ≤ S.fl.length := by
      unfold actE at hE
      rw [if_neg (by omega), if_neg (by omega), if_neg (by omega)] at hE
      split at hE
      · cases hE
      split at hE
      · cases hE
      intro hc
      rw [if_pos hc] at hE
      cases hE
    have hbe := hS.be a.plate.toNat (by omega)
    rw [hs]
    refine ⟨hS.r, by dsimp only; rw [List.length_set]; exact hnb, hnp, hnt, by simp; omega, hac, plS _, tkS, fun i hi => ?_⟩
    dsimp only at hi ⊢
    rw [List.length_set] at hi
    rw [getD_set, List.length_append, List.length_singleton]
    split
    · rename_i hq
      obtain ⟨rfl, _⟩ := hq
      refine ⟨List.nodup_append.2 ⟨hbe.1, by simp, fun x hx y hy => ?_⟩, fun k hk => ?_⟩
      · simp at hy
        have := (hbe.2 x hx).2
        omega
      · rcases List.mem_append.1 hk with h' | h'
        · have := hbe.2 k h'
          omega
        · simp at h'
          omega
    · refine ⟨(hS.be i hi).1, fun k hk => ?_⟩
      have := (hS.be i hi).2 k hk
      omega
  · have hs : actS S a = { S with be := S.be.set a.plate.toNat ((S.b a.plate).filter fun x => decide (x ≠ a.flaw)) } := by unfold actS; rw [if_neg (by omega), if_neg (by omega), if_neg (by omega), if_neg (by omega), if_pos h]
    have hbe := hS.be a.plate.toNat (by omega)
    rw [hs]
    refine ⟨hS.r, by dsimp only; rw [List.length_set]; exact hnb, hnp, hnt, hnf, hac, plS _, tkS, fun i hi => ?_⟩
    dsimp only at hi ⊢
    rw [List.length_set] at hi
    rw [getD_set]
    split
    · rename_i hq
      obtain ⟨rfl, _⟩ := hq
      exact ⟨hbe.1.sublist List.filter_sublist, fun k hk => hbe.2 k ((List.mem_filter.1 hk).1)⟩
    · exact hS.be i hi
  · have hs : actS S a = { S with pl := S.pl.set a.plate.toNat (retP (S.p a.plate)) } := by unfold actS; rw [if_neg (by omega), if_neg (by omega), if_neg (by omega), if_neg (by omega), if_neg (by omega)]
    rw [hs]
    refine ⟨hS.r, by dsimp only; rw [List.length_set]; exact hnb, by dsimp only; rw [List.length_set]; exact hnp, hnt, hnf, hac, fun i hi => ?_, tkS, hS.be⟩
    dsimp only at hi ⊢
    rw [List.length_set] at hi
    rw [getD_set]
    split
    · rename_i hq
      obtain ⟨rfl, _⟩ := hq
      have hp := hS.pl a.plate.toNat hi
      exact ⟨hp.kd, hp.pa, hp.area, hp.grown⟩
    · exact plS _ i hi
/-- A new shop. -/
@[reducible] def shop0 (r : Rcp) : Sho := ⟨r, [], [], [], [], []⟩
theorem ShOK.new {r : Rcp} (h : RcpOK r) : ShOK (shop0 r) := ⟨h, rfl, Nat.zero_le _, Nat.zero_le _, Nat.zero_le _, Nat.zero_le _, fun i hi => by simp at hi, fun i hi => by simp at hi, fun i hi => by simp at hi⟩
theorem MsOK.new : MsOK [] [] := ⟨rfl, fun i hi => by simp at hi⟩
end Go.Sx

namespace Go.Sx
open Go Go.Proofs
set_option maxRecDepth 10000
set_option maxHeartbeats 8000000
/-! ### A new shop -/
theorem s20 (r : Rcp) (h : RcpOK r) : HSpec Try.prog 20 [r.x] [] (fun v m' => v = .tup [.one (.ptr 0 0), I 0] ∧ m' = shK (shop0 r) []) := by
  have c := s47 r
  unfold rcpE at c
  rw [if_pos h] at c
  refine spec_of pMix (O := []) Try.func20 (c := bodyOf Try.f20) rfl (by kernel_rfl) (by kernel_rfl) Try.ntmps20 (res := [.tmp 2, .tmp 3]) (by kernel_rfl) ?_
  repeat' ((conv => whnf); first | refine Rng.g ?_ | refine Ob.g ?_ | refine Ob.e ?_ | refine Ob.m ?_ | refine Ob.mk (Nat.le_of_ble_eq_true rfl) ?_ | refine JoinVC.on ?_ | refine Nils.mk (fun h => ?_) ?_ | refine Val.t ?_ | refine Val.d ?_ | refine Mm.mk ?_ | refine CallVC.pure rfl (c) ?_ | refine CallVC0.pure rfl (c) ?_ | (refine Br.mk (fun h => ?_) (fun h => ?_) <;> first | (exfalso; omega; done) | (exfalso; simp at h; done) | skip))
  repeat refine Mm.mk ?_
  conv => whnf
  refine EndVC.mk _ rfl _ _ (⟨rfl, rfl⟩) ?_
  refine ⟨[some 1, none, some 99, none, none, none], rfl, rfl, ?_, ?_⟩ <;> repeat' (first | exact trivial | exact rfl | exact Iff.rfl | apply And.intro)
theorem s20_no (r : Rcp) (h : ¬ RcpOK r) : HSpec Try.prog 20 [r.x] [] (fun v m' => v = .tup [.one .nilp, I 2] ∧ m' = []) := by
  have c := s47 r
  unfold rcpE at c
  rw [if_neg h] at c
  refine spec_of pMix (O := []) Try.func20 (c := bodyOf Try.f20) rfl (by kernel_rfl) (by kernel_rfl) Try.ntmps20 (res := [.tmp 2, .tmp 3]) (by kernel_rfl) ?_
  repeat' ((conv => whnf); first | refine Rng.g ?_ | refine Ob.g ?_ | refine Ob.e ?_ | refine Ob.m ?_ | refine Ob.mk (Nat.le_of_ble_eq_true rfl) ?_ | refine JoinVC.on ?_ | refine Nils.mk (fun h => ?_) ?_ | refine Val.t ?_ | refine Val.d ?_ | refine Mm.mk ?_ | refine CallVC.pure rfl (c) ?_ | refine CallVC0.pure rfl (c) ?_ | (refine Br.mk (fun h => ?_) (fun h => ?_) <;> first | (exfalso; omega; done) | (exfalso; simp at h; done) | skip))
  repeat refine Mm.mk ?_
  conv => whnf
  refine EndVC.mk _ rfl _ _ (⟨rfl, rfl⟩) ?_
  refine ⟨[], rfl, rfl, ?_, ?_⟩ <;> repeat' (first | exact trivial | exact rfl | exact Iff.rfl | apply And.intro)
end Go.Sx

namespace Go.Sx
open Go Go.Proofs
set_option maxRecDepth 10000
set_option maxHeartbeats 8000000
theorem e88 : EntersF Try.prog 88 := enters_of Try.func88 (c := bodyOf Try.f88) (by kernel_rfl) rfl
/-! ### The line of a plate -/
def up (l : List Pl) : Nat → Int → List Int
  | 0, _ => []
  | n + 1, i => if 0 ≤ i then i :: up l n (l.getD i.toNat p0).pa else []
def Sho.up (S : Sho) (i : Int) : List Int := Go.Sx.up S.pl (i + 1).toNat i
theorem up_mono {S : Sho} (hS : ShOK S) : ∀ (n m : Nat) (i : Int), i < S.pl.length → i + 1 ≤ n → i + 1 ≤ m → up S.pl n i = up S.pl m i
  | 0, m, i, _, h1, _ => by
    cases m with
    | zero => rfl
    | succ m => unfold up; rw [if_neg (by omega)]
  | n + 1, 0, i, _, _, h2 => by unfold up; rw [if_neg (by omega)]
  | n + 1, m + 1, i, hi, h1, h2 => by
    unfold up
    by_cases h : 0 ≤ i
    · have := (hS.pl i.toNat (by omega)).pa
      rw [if_pos h, if_pos h, up_mono hS n m _ (by omega) (by omega) (by omega)]
    · rw [if_neg h, if_neg h]
theorem up_step {S : Sho} (hS : ShOK S) {i : Int} (hi : i < S.pl.length) (h : 0 ≤ i) : S.up i = i :: S.up (S.p i).pa := by
  have := (hS.pl i.toNat (by omega)).pa
  unfold Sho.up
  rw [show (i + 1).toNat = i.toNat + 1 by omega]
  conv => lhs; unfold up
  rw [if_pos h]
  unfold Sho.p
  refine congrArg (i :: ·) (up_mono hS _ _ _ ?_ ?_ ?_) <;> omega
theorem up_neg {S : Sho} {i : Int} (h : ¬ 0 ≤ i) : S.up i = [] := by
  unfold Sho.up
  rw [show (i + 1).toNat = 0 by omega]; rfl
theorem up_len (S : Sho) (i : Int) : (S.up i).length ≤ (i + 1).toNat := by
  unfold Sho.up
  generalize (i + 1).toNat = n
  induction n generalizing i with
  | zero => exact Nat.le_refl _
  | succ n ih =>
    unfold up
    split
    · exact Nat.succ_le_succ (ih _)
    · exact Nat.zero_le _
@[reducible] def rw (xs : List Int) : Blk := .row 3 false [.int .i64] (i64s xs)
theorem s69 (S : Sho) (ms : List MS) (i : Int) : HSpec Try.prog 69 [.one (.ptr 0 0), I i] (shM S ms) (fun r m' => r = .x (.one (.fn 88 [(7, 0), (6, 0)])) ∧ m' = shK S ms ++ [some (.box 29 [.ptr 0 0]), some (.box 3 [.int .i64 i])]) := by
  refine spec_of pMix (O := []) Try.func69 (c := bodyOf Try.f69) rfl (by kernel_rfl) (by kernel_rfl) Try.ntmps69 (res := [.tmp 4]) (by kernel_rfl) ?_
  repeat' ((conv => whnf); first | refine Rng.g ?_ | refine Ob.g ?_ | refine Ob.e ?_ | refine Ob.m ?_ | refine Ob.mk (Nat.le_of_ble_eq_true rfl) ?_ | refine JoinVC.on ?_ | refine Nils.mk (fun h => ?_) ?_ | refine Val.t ?_ | refine Val.d ?_ | refine Mm.mk ?_ | (refine Br.mk (fun h => ?_) (fun h => ?_) <;> first | (exfalso; omega; done) | (exfalso; simp at h; done) | skip))
  repeat refine Mm.mk ?_
  refine EndVC.mk _ rfl _ _ ⟨rfl, rfl⟩ ?_
  refine ⟨[some 0, some 1, some 2, some 3, some 4, some 5, some 6, some 7], rfl, rfl, ?_, ?_⟩ <;> repeat' (first | exact trivial | exact rfl | exact Iff.rfl | apply And.intro)
def cF : Code → Code
  | .seq a _ => a
  | c => c
def cS : Code → Code
  | .seq _ b => b
  | c => c
def cB : Code → Code
  | .block _ c => c
  | c => c
def cAs : Code → Code
  | .rangeFunc _ _ x _ => x
  | c => c
def cBo : Code → Code
  | .rangeFunc _ _ _ b => b
  | c => c
noncomputable def rf95 : Code := cB (cS (cF (cS (bodyOf Try.f95))))
theorem s95 (S : Sho) (ms : List MS) (hS : ShOK S) (i : Int) (h0i : 0 ≤ i) (hi : i < S.pl.length) : HSpec Try.prog 95 [.one .nils, .one (.fn 88 [(7, 0), (6, 0)])] (shM S ms ++ [.box 29 [.ptr 0 0], .box 3 [.int .i64 i]]) (fun r m' => r = .x (.one (.own 8)) ∧ m' = shK S ms ++ [none, none, some (rw (S.up i))]) := by
  have hl := plA_len S.pl
  have hnp := hS.np
  refine spec_of pMix (O := []) Try.func95 (c := bodyOf Try.f95) rfl (by kernel_rfl) (by kernel_rfl) Try.ntmps95 (res := [.tmp 4]) (by kernel_rfl) ?_
  repeat' ((conv => whnf); first | refine Rng.g ?_ | refine Ob.g ?_ | refine Ob.e ?_ | refine Ob.m ?_ | refine Ob.mk (Nat.le_of_ble_eq_true rfl) ?_ | refine JoinVC.on ?_ | refine Nils.mk (fun h => ?_) ?_ | refine Val.t ?_ | refine Val.d ?_ | refine Mm.mk ?_ | (refine Br.mk (fun h => ?_) (fun h => ?_) <;> first | (exfalso; omega; done) | (exfalso; simp at h; done) | skip))
  change RangeVC _ _ _ _ _
  refine RangeVC.mk e88 (isem_of_awp pMix [] Try.func88 (c := bodyOf Try.f88) rfl (by kernel_rfl) Try.ntmps88 (by kernel_rfl) ?_)
  repeat' ((conv => whnf); first | refine Rng.g ?_ | refine Ob.g ?_ | refine Ob.e ?_ | refine Ob.m ?_ | refine Ob.mk (Nat.le_of_ble_eq_true rfl) ?_ | refine JoinVC.on ?_ | refine Nils.mk (fun h => ?_) ?_ | refine Val.t ?_ | refine Val.d ?_ | refine Mm.mk ?_ | (refine Br.mk (fun h => ?_) (fun h => ?_) <;> first | (exfalso; omega; done) | (exfalso; simp at h; done) | skip))
  refine LoopVC.mk (fun n st => ∃ (j : Int) (xs : List Int), -1 ≤ j ∧ j < S.pl.length ∧ xs ++ S.up j = S.up i ∧ n = (j + 1).toNat ∧ st = ⟨10, envA 22 [(0, .x (.one (.yld 9))), (1, .x (.one (.ptr 7 0))), (2, .x (.one (.ptr 6 0)))], shK S ms ++ [some (.box 29 [.ptr 0 0]), some (.box 3 [.int .i64 j]), some (.box 34 [.own 10]), some (.loop [7] (cAs rf95) (cBo rf95) (envA 13 [(2, .x (.one (.ptr 8 0)))]) .ready), some (rw xs)]⟩) _ _ ⟨i, [], by omega, hi, rfl, rfl, rfl⟩ ?_ ?_
  · refine ⟨[some 0, some 1, some 2, some 3, some 4, some 5, some 6, some 7, some 8, some 9, none], rfl, rfl, ?_, ?_⟩ <;> repeat' (first | exact trivial | exact rfl | exact Iff.rfl | apply And.intro)
  rintro n _ ⟨j, xs, hj, hj', hx, hn, rfl⟩
  have lx := i64s_len xs
  have hxl : xs.length + (S.up j).length ≤ 256 := by
    have := congrArg List.length hx
    rw [List.length_append] at this
    have := up_len S i
    omega
  by_cases h0 : 0 ≤ j
  · have hu := up_step hS hj' h0
    have hpa := (hS.pl j.toNat (by omega)).pa
    have g1 : rI (plA S.pl) j.toNat ((0 + 1)) = (S.p j).pa := pl_1 S.pl j.toNat
    have hxs : xs.length + 1 ≤ 256 := by rw [hu] at hxl; simp only [List.length_cons] at hxl; omega
    have sn := i64s_snoc xs j
    repeat' ((conv => whnf); first | refine Rng.g ?_ | refine Ob.g ?_ | refine Ob.e ?_ | refine Ob.m ?_ | refine Ob.mk (Nat.le_of_ble_eq_true rfl) ?_ | refine JoinVC.on ?_ | refine Nils.mk (fun h => ?_) ?_ | refine Val.t ?_ | refine Val.d ?_ | refine Mm.mk ?_ | refine YieldVC.mk (rsem_of_awp pMix [] rfl (by kernel_rfl) ?_) | (refine Br.mk (fun h => ?_) (fun h => ?_) <;> first | (exfalso; omega; done) | (exfalso; simp at h; done) | skip))
    repeat refine Mm.mk ?_
    refine Ob.mk (by rw [eb3]; simp only [List.length_cons, List.length_nil]; omega) ?_
    repeat' ((conv => whnf); first | rw [g1] | refine Rng.g ?_ | refine Ob.g ?_ | refine Ob.e ?_ | refine Ob.m ?_ | refine Ob.mk (Nat.le_of_ble_eq_true rfl) ?_ | refine JoinVC.on ?_ | refine Nils.mk (fun h => ?_) ?_ | refine Val.t ?_ | refine Val.d ?_ | refine Mm.mk ?_ | (refine Br.mk (fun h => ?_) (fun h => ?_) <;> first | (exfalso; omega; done) | (exfalso; simp at h; done) | skip))
    refine Back.mk ((S.p j).pa + 1).toNat _ (by unfold Sho.p; omega) ⟨(S.p j).pa, xs ++ [j], by unfold Sho.p; omega, by unfold Sho.p; omega, by rw [← hx, hu, List.append_assoc]; rfl, rfl, rfl⟩ ?_
    refine ⟨[some 0, some 1, some 2, some 3, some 4, some 5, some 6, some 7, some 8, some 9, some 12], rfl, rfl, ?_, ?_⟩ <;> repeat' (first | exact trivial | exact rfl | exact Iff.rfl | apply And.intro)
    exact sn.symm
  · have hu := up_neg (S := S) h0
    rw [hu, List.append_nil] at hx
    subst hx
    repeat' ((conv => whnf); first | refine Rng.g ?_ | refine Ob.g ?_ | refine Ob.e ?_ | refine Ob.m ?_ | refine Ob.mk (Nat.le_of_ble_eq_true rfl) ?_ | refine JoinVC.on ?_ | refine Nils.mk (fun h => ?_) ?_ | refine Val.t ?_ | refine Val.d ?_ | refine Mm.mk ?_ | (refine Br.mk (fun h => ?_) (fun h => ?_) <;> first | (exfalso; omega; done) | (exfalso; simp at h; done) | skip))
    repeat refine Mm.mk ?_
    refine EndVC.mk _ rfl _ _ ⟨rfl, rfl⟩ ?_
    refine ⟨[some 0, some 1, some 2, some 3, some 4, some 5, none, none, some 10], rfl, rfl, ?_, ?_⟩ <;> repeat' (first | exact trivial | exact rfl | exact Iff.rfl | apply And.intro)
theorem s89 (S : Sho) (ms : List MS) (hS : ShOK S) (i : Int) (h0i : 0 ≤ i) (hi : i < S.pl.length) : HSpec Try.prog 89 [.one (.fn 88 [(7, 0), (6, 0)])] (shM S ms ++ [.box 29 [.ptr 0 0], .box 3 [.int .i64 i]]) (fun r m' => r = .x (.one (.own 8)) ∧ m' = shK S ms ++ [none, none, some (rw (S.up i))]) := by
  have c := s95 S ms hS i h0i hi
  refine spec_of pMix (O := []) Try.func89 (c := bodyOf Try.f89) rfl (by kernel_rfl) (by kernel_rfl) Try.ntmps89 (res := [.tmp 2]) (by kernel_rfl) ?_
  repeat' ((conv => whnf); first | refine Rng.g ?_ | refine Ob.g ?_ | refine Ob.e ?_ | refine Ob.m ?_ | refine Ob.mk (Nat.le_of_ble_eq_true rfl) ?_ | refine JoinVC.on ?_ | refine Nils.mk (fun h => ?_) ?_ | refine Val.t ?_ | refine Val.d ?_ | refine Mm.mk ?_ | (refine Br.mk (fun h => ?_) (fun h => ?_) <;> first | (exfalso; omega; done) | (exfalso; simp at h; done) | skip))
  conv => whnf
  first | refine CallVC.mk [0, 1, 2, 3, 4, 5, 6, 7] _ _ _ rfl rfl rfl (c) (fun r m' h' => ?_) | refine CallVC0.same [0, 1, 2, 3, 4, 5, 6, 7] _ _ _ rfl rfl rfl rfl (c) (fun r m' h' => (by obtain ⟨rfl, rfl⟩ := h'; rfl)) (fun r m' h' => ?_) | (refine CallVC0.rows [0, 1, 2, 3, 4, 5, 6, 7] _ _ _ rfl rfl rfl ?_ (c) (fun r m' h' => (by obtain ⟨rfl, rfl⟩ := h'; rfl)) (fun r m' h' => ?_); · (repeat' ((conv => whnf); first | exact trivial | exact rfl | exact Nat.le_refl _ | apply And.intro)))
  obtain ⟨rfl, rfl⟩ := h'
  conv => whnf
  repeat' ((conv => whnf); first | refine Rng.g ?_ | refine Ob.g ?_ | refine Ob.e ?_ | refine Ob.m ?_ | refine Ob.mk (Nat.le_of_ble_eq_true rfl) ?_ | refine JoinVC.on ?_ | refine Nils.mk (fun h => ?_) ?_ | refine Val.t ?_ | refine Val.d ?_ | refine Mm.mk ?_ | (refine Br.mk (fun h => ?_) (fun h => ?_) <;> first | (exfalso; omega; done) | (exfalso; simp at h; done) | skip))
  repeat refine Mm.mk ?_
  refine EndVC.mk _ rfl _ _ ⟨rfl, rfl⟩ ?_
  refine ⟨[some 0, some 1, some 2, some 3, some 4, some 5, none, none, some 8], rfl, rfl, ?_, ?_⟩ <;> repeat' (first | exact trivial | exact rfl | exact Iff.rfl | apply And.intro)
theorem i64s_upd' (xs : List Int) (i : Nat) (v : Int) (h : i < xs.length) : updRow (i64s xs) i 0 [.int v] = i64s (xs.set i v) := A_upd (fun x => [.int x]) xs i 0 h rfl
/-- A list that is being turned: i from both ends are done. -/
structure RevI (xs : List Int) (i : Nat) (ys : List Int) : Prop where
  len : ys.length = xs.length
  at' : ∀ k, k < xs.length → ys.getD k 0 = if k < i ∨ xs.length - i ≤ k then xs.getD (xs.length - 1 - k) 0 else xs.getD k 0
theorem RevI.zero (xs : List Int) : RevI xs 0 xs := ⟨rfl, fun k hk => by rw [if_neg (by omega)]⟩
theorem RevI.step {xs : List Int} {i : Nat} {ys : List Int} (h : RevI xs i ys) (hi : 2 * i + 1 < xs.length) : RevI xs (i + 1) ((ys.set i (ys.getD (xs.length - 1 - i) 0)).set (xs.length - 1 - i) (ys.getD i 0)) := by
  refine ⟨by simp [h.len], fun k hk => ?_⟩
  rw [getD_set, getD_set, List.length_set, h.len]
  by_cases h1 : xs.length - 1 - i = k
  · subst h1
    rw [if_pos ⟨rfl, hk⟩, if_pos (by omega), h.at' i (by omega), if_neg (by omega)]
    congr 1; omega
  · rw [if_neg (fun hc => h1 hc.1)]
    by_cases h2 : i = k
    · subst h2
      rw [if_pos ⟨rfl, hk⟩, if_pos (by omega), h.at' _ (by omega), if_neg (by omega)]
    · rw [if_neg (fun hc => h2 hc.1), h.at' k hk]
      by_cases h3 : k < i ∨ xs.length - i ≤ k
      · rw [if_pos h3, if_pos (by omega)]
      · rw [if_neg h3, if_neg (by omega)]
theorem RevI.done {xs : List Int} {i : Nat} {ys : List Int} (h : RevI xs i ys) (hi : xs.length ≤ 2 * i + 1) : ys = xs.reverse := by
  refine List.ext_getElem (by simp [h.len]) fun k h1 h2 => ?_
  have hk : k < xs.length := by rw [← h.len]; exact h1
  have := h.at' k hk
  rw [List.getD_eq_getElem?_getD, List.getElem?_eq_getElem h1] at this
  rw [List.getElem_reverse]
  refine Eq.trans this ?_
  split
  · rw [List.getD_eq_getElem?_getD, List.getElem?_eq_getElem (by omega)]; rfl
  · rw [List.getD_eq_getElem?_getD, List.getElem?_eq_getElem hk]
    have e : k = xs.length - 1 - k := by omega
    simp only [Option.getD_some]
    congr 1
theorem s90 (xs : List Int) (hl : xs.length ≤ 256) : HSpec Try.prog 90 [.one (.own 0)] [rw xs] (fun r m' => r = .tup [] ∧ m' = [some (rw xs.reverse)]) := by
  have lx := i64s_len xs
  refine spec_of pMix (O := [(3, ([], [⟨0, [], []⟩, ⟨1, [], []⟩, ⟨2, [], []⟩, ⟨3, [], []⟩, ⟨4, [], []⟩, ⟨5, [], []⟩, ⟨6, [], []⟩, ⟨7, [], []⟩, ⟨8, [], []⟩, ⟨9, [], []⟩, ⟨10, [], []⟩, ⟨11, [], []⟩, ⟨12, [], []⟩, ⟨13, [2, 3], []⟩, ⟨14, [], []⟩, ⟨15, [], []⟩]))]) Try.func90 (c := bodyOf Try.f90) rfl (by kernel_rfl) (by kernel_rfl) Try.ntmps90 (res := []) (by kernel_rfl) ?_
  repeat' ((conv => whnf); first | refine Rng.g ?_ | refine Ob.g ?_ | refine Ob.e ?_ | refine Ob.m ?_ | refine Ob.mk (Nat.le_of_ble_eq_true rfl) ?_ | refine JoinVC.on ?_ | refine Nils.mk (fun h => ?_) ?_ | refine Val.t ?_ | refine Val.d ?_ | refine Mm.mk ?_ | (refine Br.mk (fun h => ?_) (fun h => ?_) <;> first | (exfalso; omega; done) | (exfalso; simp at h; done) | skip))
  refine LoopVC.mk (fun n st => ∃ (i : Nat) (ys : List Int), RevI xs i ys ∧ 2 * i ≤ xs.length + 1 ∧ n = xs.length + 1 - i ∧ st = ⟨1, envA 28 [(0, .x (.one (.own 0))), (2, .int .i64 (i : Int)), (3, .int .i64 ((xs.length : Int) - 1 - i))], [some (rw ys)]⟩) _ _ ⟨0, xs, RevI.zero xs, by omega, rfl, rfl⟩ ?_ ?_
  · refine ⟨[some 0], rfl, rfl, ?_, ?_⟩ <;> repeat' (first | exact trivial | exact rfl | exact Iff.rfl | apply And.intro)
    rw [lx]; simp
  rintro n _ ⟨i, ys, hR, hi, hn, rfl⟩
  have ly := i64s_len ys
  have hlen := hR.len
  by_cases h : (i : Int) < (xs.length : Int) - 1 - i
  · have j0 : ((xs.length : Int) - 1 - i).toNat = xs.length - 1 - i := by omega
    have e1 : rI (i64s ys) ((xs.length : Int) - 1 - i).toNat 0 = ys.getD (xs.length - 1 - i) 0 := by rw [j0, i64s_get]
    have e2 : rI (i64s ys) (i : Int).toNat 0 = ys.getD i 0 := by rw [Int.toNat_natCast, i64s_get]
    have u1 : updRow (i64s ys) (i : Int).toNat 0 [.int (ys.getD (xs.length - 1 - i) 0)] = i64s (ys.set i (ys.getD (xs.length - 1 - i) 0)) := by rw [Int.toNat_natCast]; exact i64s_upd' _ _ _ (by omega)
    have u2 : updRow (i64s (ys.set i (ys.getD (xs.length - 1 - i) 0))) ((xs.length : Int) - 1 - i).toNat 0 [.int (ys.getD i 0)] = i64s ((ys.set i (ys.getD (xs.length - 1 - i) 0)).set (xs.length - 1 - i) (ys.getD i 0)) := by rw [j0]; exact i64s_upd' _ _ _ (by rw [List.length_set]; omega)
    have l1 : (i64s (ys.set i (ys.getD (xs.length - 1 - i) 0))).length = xs.length := by rw [i64s_len, List.length_set, hlen]
    repeat' ((conv => whnf); first | rw [e1] | rw [e2] | rw [u1] | rw [u2] | refine Rng.g ?_ | refine Ob.g ?_ | refine Ob.e ?_ | refine Ob.m ?_ | refine Ob.mk (Nat.le_of_ble_eq_true rfl) ?_ | refine JoinVC.on ?_ | refine Nils.mk (fun h => ?_) ?_ | refine Val.t ?_ | refine Val.d ?_ | refine Mm.mk ?_ | (refine Br.mk (fun h => ?_) (fun h => ?_) <;> first | (exfalso; omega; done) | (exfalso; simp at h; done) | skip))
    refine Back.mk (xs.length + 1 - (i + 1)) _ (by omega) ⟨i + 1, _, hR.step (by omega), by omega, rfl, rfl⟩ ?_
    refine ⟨[some 0], rfl, rfl, ?_, ?_⟩ <;> repeat' (first | exact trivial | exact rfl | exact Iff.rfl | apply And.intro)
    omega
  · rw [hR.done (by omega)]
    repeat' ((conv => whnf); first | refine Rng.g ?_ | refine Ob.g ?_ | refine Ob.e ?_ | refine Ob.m ?_ | refine Ob.mk (Nat.le_of_ble_eq_true rfl) ?_ | refine JoinVC.on ?_ | refine Nils.mk (fun h => ?_) ?_ | refine Val.t ?_ | refine Val.d ?_ | refine Mm.mk ?_ | (refine Br.mk (fun h => ?_) (fun h => ?_) <;> first | (exfalso; omega; done) | (exfalso; simp at h; done) | skip))
    repeat refine Mm.mk ?_
    refine EndVC.mk _ rfl _ _ ⟨rfl, rfl⟩ ?_
    refine ⟨[some 0], rfl, rfl, ?_, ?_⟩ <;> repeat' (first | exact trivial | exact rfl | exact Iff.rfl | apply And.intro)
theorem s76 (S : Sho) (ms : List MS) (hS : ShOK S) (i : Int) (h0i : 0 ≤ i) (hi : i < S.pl.length) : HSpec Try.prog 76 [.one (.ptr 0 0), I i] (shM S ms) (fun r m' => r = .x (.one (.own 6)) ∧ m' = shK S ms ++ [some (rw (S.up i).reverse)]) := by
  have c69 := s69 S ms i
  have c89 := s89 S ms hS i h0i hi
  have hl := up_len S i
  have hnp := hS.np
  have c90 := s90 (S.up i) (by omega)
  refine spec_of pMix (O := []) Try.func76 (c := bodyOf Try.f76) rfl (by kernel_rfl) (by kernel_rfl) Try.ntmps76 (res := [.tmp 4]) (by kernel_rfl) ?_
  repeat' ((conv => whnf); first | refine Rng.g ?_ | refine Ob.g ?_ | refine Ob.e ?_ | refine Ob.m ?_ | refine Ob.mk (Nat.le_of_ble_eq_true rfl) ?_ | refine JoinVC.on ?_ | refine Nils.mk (fun h => ?_) ?_ | refine Val.t ?_ | refine Val.d ?_ | refine Mm.mk ?_ | (refine Br.mk (fun h => ?_) (fun h => ?_) <;> first | (exfalso; omega; done) | (exfalso; simp at h; done) | skip))
  conv => whnf
  first | refine CallVC.mk [0, 1, 2, 3, 4, 5] _ _ _ rfl rfl rfl (c69) (fun r m' h' => ?_) | refine CallVC0.same [0, 1, 2, 3, 4, 5] _ _ _ rfl rfl rfl rfl (c69) (fun r m' h' => (by obtain ⟨rfl, rfl⟩ := h'; rfl)) (fun r m' h' => ?_) | (refine CallVC0.rows [0, 1, 2, 3, 4, 5] _ _ _ rfl rfl rfl ?_ (c69) (fun r m' h' => (by obtain ⟨rfl, rfl⟩ := h'; rfl)) (fun r m' h' => ?_); · (repeat' ((conv => whnf); first | exact trivial | exact rfl | exact Nat.le_refl _ | apply And.intro)))
  obtain ⟨rfl, rfl⟩ := h'
  conv => whnf
  repeat' ((conv => whnf); first | refine Rng.g ?_ | refine Ob.g ?_ | refine Ob.e ?_ | refine Ob.m ?_ | refine Ob.mk (Nat.le_of_ble_eq_true rfl) ?_ | refine JoinVC.on ?_ | refine Nils.mk (fun h => ?_) ?_ | refine Val.t ?_ | refine Val.d ?_ | refine Mm.mk ?_ | (refine Br.mk (fun h => ?_) (fun h => ?_) <;> first | (exfalso; omega; done) | (exfalso; simp at h; done) | skip))
  conv => whnf
  first | refine CallVC.mk [0, 1, 2, 3, 4, 5, 6, 7] _ _ _ rfl rfl rfl (c89) (fun r m' h' => ?_) | refine CallVC0.same [0, 1, 2, 3, 4, 5, 6, 7] _ _ _ rfl rfl rfl rfl (c89) (fun r m' h' => (by obtain ⟨rfl, rfl⟩ := h'; rfl)) (fun r m' h' => ?_) | (refine CallVC0.rows [0, 1, 2, 3, 4, 5, 6, 7] _ _ _ rfl rfl rfl ?_ (c89) (fun r m' h' => (by obtain ⟨rfl, rfl⟩ := h'; rfl)) (fun r m' h' => ?_); · (repeat' ((conv => whnf); first | exact trivial | exact rfl | exact Nat.le_refl _ | apply And.intro)))
  obtain ⟨rfl, rfl⟩ := h'
  conv => whnf
  repeat' ((conv => whnf); first | refine Rng.g ?_ | refine Ob.g ?_ | refine Ob.e ?_ | refine Ob.m ?_ | refine Ob.mk (Nat.le_of_ble_eq_true rfl) ?_ | refine JoinVC.on ?_ | refine Nils.mk (fun h => ?_) ?_ | refine Val.t ?_ | refine Val.d ?_ | refine Mm.mk ?_ | (refine Br.mk (fun h => ?_) (fun h => ?_) <;> first | (exfalso; omega; done) | (exfalso; simp at h; done) | skip))
  conv => whnf
  first | refine CallVC.mk [8] _ _ _ rfl rfl rfl (c90) (fun r m' h' => ?_) | refine CallVC0.same [8] _ _ _ rfl rfl rfl rfl (c90) (fun r m' h' => (by obtain ⟨rfl, rfl⟩ := h'; rfl)) (fun r m' h' => ?_) | (refine CallVC0.rows [8] _ _ _ rfl rfl rfl ?_ (c90) (fun r m' h' => (by obtain ⟨rfl, rfl⟩ := h'; rfl)) (fun r m' h' => ?_); · (repeat' ((conv => whnf); first | exact trivial | exact rfl | exact Nat.le_refl _ | apply And.intro)))
  obtain ⟨rfl, rfl⟩ := h'
  conv => whnf
  repeat' ((conv => whnf); first | refine Rng.g ?_ | refine Ob.g ?_ | refine Ob.e ?_ | refine Ob.m ?_ | refine Ob.mk (Nat.le_of_ble_eq_true rfl) ?_ | refine JoinVC.on ?_ | refine Nils.mk (fun h => ?_) ?_ | refine Val.t ?_ | refine Val.d ?_ | refine Mm.mk ?_ | (refine Br.mk (fun h => ?_) (fun h => ?_) <;> first | (exfalso; omega; done) | (exfalso; simp at h; done) | skip))
  repeat refine Mm.mk ?_
  refine EndVC.mk _ rfl _ _ ⟨rfl, rfl⟩ ?_
  refine ⟨[some 0, some 1, some 2, some 3, some 4, some 5, some 8], rfl, rfl, ?_, ?_⟩ <;> repeat' (first | exact trivial | exact rfl | exact Iff.rfl | apply And.intro)
end Go.Sx

namespace Go.Sx
open Go Go.Proofs
set_option maxRecDepth 10000
set_option maxHeartbeats 8000000
theorem s30_ok (S : Sho) (ms : List MS) (hS : ShOK S) (i : Int) (hi : inP S i) : HSpec Try.prog 30 [.one (.ptr 0 0), I i] (shM S ms) (fun r m' => r = .tup [.one (.lst false [.int .i64] (i64s (S.up i).reverse)), I 0] ∧ m' = shK S ms) := by
  have c53 := s53 S ms
  have c63 := s63 S ms i
  rw [getR, if_pos hi] at c63
  unfold inP at hi
  have c76 := s76 S ms hS i hi.1 hi.2
  refine spec_of pMix (O := []) Try.func30 (c := bodyOf Try.f30) rfl (by kernel_rfl) (by kernel_rfl) Try.ntmps30 (res := [.tmp 4, .tmp 5]) (by kernel_rfl) ?_
  repeat' ((conv => whnf); first | refine Rng.g ?_ | refine Ob.g ?_ | refine Ob.e ?_ | refine Ob.m ?_ | refine Ob.mk (Nat.le_of_ble_eq_true rfl) ?_ | refine JoinVC.on ?_ | refine Nils.mk (fun h => ?_) ?_ | refine Val.t ?_ | refine Val.d ?_ | refine Mm.mk ?_ | (refine Br.mk (fun h => ?_) (fun h => ?_) <;> first | (exfalso; omega; done) | (exfalso; simp at h; done) | skip))
  conv => whnf
  first | refine CallVC.mk [0, 1, 2, 3, 4, 5] _ _ _ rfl rfl rfl (c53) (fun r m' h' => ?_) | refine CallVC0.same [0, 1, 2, 3, 4, 5] _ _ _ rfl rfl rfl rfl (c53) (fun r m' h' => (by obtain ⟨rfl, rfl⟩ := h'; rfl)) (fun r m' h' => ?_) | (refine CallVC0.rows [0, 1, 2, 3, 4, 5] _ _ _ rfl rfl rfl ?_ (c53) (fun r m' h' => (by obtain ⟨rfl, rfl⟩ := h'; rfl)) (fun r m' h' => ?_); · (repeat' ((conv => whnf); first | exact trivial | exact rfl | exact Nat.le_refl _ | apply And.intro)))
  obtain ⟨rfl, rfl⟩ := h'
  conv => whnf
  repeat' ((conv => whnf); first | refine Rng.g ?_ | refine Ob.g ?_ | refine Ob.e ?_ | refine Ob.m ?_ | refine Ob.mk (Nat.le_of_ble_eq_true rfl) ?_ | refine JoinVC.on ?_ | refine Nils.mk (fun h => ?_) ?_ | refine Val.t ?_ | refine Val.d ?_ | refine Mm.mk ?_ | (refine Br.mk (fun h => ?_) (fun h => ?_) <;> first | (exfalso; omega; done) | (exfalso; simp at h; done) | skip))
  conv => whnf
  first | refine CallVC.mk [0, 1, 2, 3, 4, 5] _ _ _ rfl rfl rfl (c63) (fun r m' h' => ?_) | refine CallVC0.same [0, 1, 2, 3, 4, 5] _ _ _ rfl rfl rfl rfl (c63) (fun r m' h' => (by obtain ⟨rfl, rfl⟩ := h'; rfl)) (fun r m' h' => ?_) | (refine CallVC0.rows [0, 1, 2, 3, 4, 5] _ _ _ rfl rfl rfl ?_ (c63) (fun r m' h' => (by obtain ⟨rfl, rfl⟩ := h'; rfl)) (fun r m' h' => ?_); · (repeat' ((conv => whnf); first | exact trivial | exact rfl | exact Nat.le_refl _ | apply And.intro)))
  obtain ⟨rfl, rfl⟩ := h'
  conv => whnf
  repeat' ((conv => whnf); first | refine Rng.g ?_ | refine Ob.g ?_ | refine Ob.e ?_ | refine Ob.m ?_ | refine Ob.mk (Nat.le_of_ble_eq_true rfl) ?_ | refine JoinVC.on ?_ | refine Nils.mk (fun h => ?_) ?_ | refine Val.t ?_ | refine Val.d ?_ | refine Mm.mk ?_ | (refine Br.mk (fun h => ?_) (fun h => ?_) <;> first | (exfalso; omega; done) | (exfalso; simp at h; done) | skip))
  conv => whnf
  first | refine CallVC.mk [0, 1, 2, 3, 4, 5] _ _ _ rfl rfl rfl (c76) (fun r m' h' => ?_) | refine CallVC0.same [0, 1, 2, 3, 4, 5] _ _ _ rfl rfl rfl rfl (c76) (fun r m' h' => (by obtain ⟨rfl, rfl⟩ := h'; rfl)) (fun r m' h' => ?_) | (refine CallVC0.rows [0, 1, 2, 3, 4, 5] _ _ _ rfl rfl rfl ?_ (c76) (fun r m' h' => (by obtain ⟨rfl, rfl⟩ := h'; rfl)) (fun r m' h' => ?_); · (repeat' ((conv => whnf); first | exact trivial | exact rfl | exact Nat.le_refl _ | apply And.intro)))
  obtain ⟨rfl, rfl⟩ := h'
  conv => whnf
  repeat' ((conv => whnf); first | refine Rng.g ?_ | refine Ob.g ?_ | refine Ob.e ?_ | refine Ob.m ?_ | refine Ob.mk (Nat.le_of_ble_eq_true rfl) ?_ | refine JoinVC.on ?_ | refine Nils.mk (fun h => ?_) ?_ | refine Val.t ?_ | refine Val.d ?_ | refine Mm.mk ?_ | (refine Br.mk (fun h => ?_) (fun h => ?_) <;> first | (exfalso; omega; done) | (exfalso; simp at h; done) | skip))
  repeat refine Mm.mk ?_
  refine EndVC.mk _ rfl _ _ ⟨rfl, rfl⟩ ?_
  refine ⟨[some 0, some 1, some 2, some 3, some 4, some 5], rfl, rfl, ?_, ?_⟩ <;> repeat' (first | exact trivial | exact rfl | exact Iff.rfl | apply And.intro)
/-! ### Where a flaw was made, and who bears it -/
def inF (S : Sho) (i : Int) : Prop := 0 ≤ i ∧ i < (S.fl.length : Int)
instance (S : Sho) (i : Int) : Decidable (inF S i) := by unfold inF; infer_instance
def Sho.f (S : Sho) (i : Int) : Int × Int := S.fl.getD i.toNat (0, 0)
theorem s38 (S : Sho) (ms : List MS) (i : Int) : HSpec Try.prog 38 [.one (.ptr 0 0), I i] (shM S ms) (fun r m' => r = (if inF S i then .tup [I (S.f i).1, I (S.f i).2, I 0] else .tup [I 0, I 0, I 5]) ∧ m' = shK S ms) := by
  have c53 := s53 S ms
  have hl := flA_len S.fl
  by_cases hi : inF S i
  · rw [if_pos hi]
    unfold inF at hi
    have g0 := fl_0 S.fl i.toNat
    have g1 := fl_1 S.fl i.toNat
    refine spec_of pMix (O := []) Try.func38 (c := bodyOf Try.f38) rfl (by kernel_rfl) (by kernel_rfl) Try.ntmps38 (res := [.tmp 4, .tmp 5, .tmp 6]) (by kernel_rfl) ?_
    repeat' ((conv => whnf); first | refine Rng.g ?_ | refine Ob.g ?_ | refine Ob.e ?_ | refine Ob.m ?_ | refine Ob.mk (Nat.le_of_ble_eq_true rfl) ?_ | refine JoinVC.on ?_ | refine Nils.mk (fun h => ?_) ?_ | refine Val.t ?_ | refine Val.d ?_ | refine Mm.mk ?_ | (refine Br.mk (fun h => ?_) (fun h => ?_) <;> first | (exfalso; omega; done) | (exfalso; simp at h; done) | skip))
    conv => whnf
    first | refine CallVC.mk [0, 1, 2, 3, 4, 5] _ _ _ rfl rfl rfl (c53) (fun r m' h' => ?_) | refine CallVC0.same [0, 1, 2, 3, 4, 5] _ _ _ rfl rfl rfl rfl (c53) (fun r m' h' => (by obtain ⟨rfl, rfl⟩ := h'; rfl)) (fun r m' h' => ?_) | (refine CallVC0.rows [0, 1, 2, 3, 4, 5] _ _ _ rfl rfl rfl ?_ (c53) (fun r m' h' => (by obtain ⟨rfl, rfl⟩ := h'; rfl)) (fun r m' h' => ?_); · (repeat' ((conv => whnf); first | exact trivial | exact rfl | exact Nat.le_refl _ | apply And.intro)))
    obtain ⟨rfl, rfl⟩ := h'
    conv => whnf
    repeat' ((conv => whnf); first | rw [g0] | rw [g1] | refine Rng.g ?_ | refine Ob.g ?_ | refine Ob.e ?_ | refine Ob.m ?_ | refine Ob.mk (Nat.le_of_ble_eq_true rfl) ?_ | refine JoinVC.on ?_ | refine Nils.mk (fun h => ?_) ?_ | refine Val.t ?_ | refine Val.d ?_ | refine Mm.mk ?_ | (refine Br.mk (fun h => ?_) (fun h => ?_) <;> first | (exfalso; omega; done) | (exfalso; simp at h; done) | skip))
    repeat refine Mm.mk ?_
    refine EndVC.mk _ rfl _ _ ⟨rfl, rfl⟩ ?_
    refine ⟨[some 0, some 1, some 2, some 3, some 4, some 5], rfl, rfl, ?_, ?_⟩ <;> repeat' (first | exact trivial | exact rfl | exact Iff.rfl | apply And.intro)
  · rw [if_neg hi]
    unfold inF at hi
    refine spec_of pMix (O := []) Try.func38 (c := bodyOf Try.f38) rfl (by kernel_rfl) (by kernel_rfl) Try.ntmps38 (res := [.tmp 4, .tmp 5, .tmp 6]) (by kernel_rfl) ?_
    repeat' ((conv => whnf); first | refine Rng.g ?_ | refine Ob.g ?_ | refine Ob.e ?_ | refine Ob.m ?_ | refine Ob.mk (Nat.le_of_ble_eq_true rfl) ?_ | refine JoinVC.on ?_ | refine Nils.mk (fun h => ?_) ?_ | refine Val.t ?_ | refine Val.d ?_ | refine Mm.mk ?_ | (refine Br.mk (fun h => ?_) (fun h => ?_) <;> first | (exfalso; omega; done) | (exfalso; simp at h; done) | skip))
    conv => whnf
    first | refine CallVC.mk [0, 1, 2, 3, 4, 5] _ _ _ rfl rfl rfl (c53) (fun r m' h' => ?_) | refine CallVC0.same [0, 1, 2, 3, 4, 5] _ _ _ rfl rfl rfl rfl (c53) (fun r m' h' => (by obtain ⟨rfl, rfl⟩ := h'; rfl)) (fun r m' h' => ?_) | (refine CallVC0.rows [0, 1, 2, 3, 4, 5] _ _ _ rfl rfl rfl ?_ (c53) (fun r m' h' => (by obtain ⟨rfl, rfl⟩ := h'; rfl)) (fun r m' h' => ?_); · (repeat' ((conv => whnf); first | exact trivial | exact rfl | exact Nat.le_refl _ | apply And.intro)))
    obtain ⟨rfl, rfl⟩ := h'
    conv => whnf
    repeat' ((conv => whnf); first | refine Rng.g ?_ | refine Ob.g ?_ | refine Ob.e ?_ | refine Ob.m ?_ | refine Ob.mk (Nat.le_of_ble_eq_true rfl) ?_ | refine JoinVC.on ?_ | refine Nils.mk (fun h => ?_) ?_ | refine Val.t ?_ | refine Val.d ?_ | refine Mm.mk ?_ | (refine Br.mk (fun h => ?_) (fun h => ?_) <;> first | (exfalso; omega; done) | (exfalso; simp at h; done) | skip))
    all_goals
      repeat refine Mm.mk ?_
      refine EndVC.mk _ rfl _ _ ⟨rfl, rfl⟩ ?_
      refine ⟨[some 0, some 1, some 2, some 3, some 4, some 5], rfl, rfl, ?_, ?_⟩ <;> repeat' (first | exact trivial | exact rfl | exact Iff.rfl | apply And.intro)
def bear (be : List (List Int)) (f : Int) : Nat → List Int
  | 0 => []
  | i + 1 => bear be f i ++ (if f ∈ be.getD i [] then [(i : Int)] else [])
theorem bear_len (be : List (List Int)) (f : Int) : ∀ i, (bear be f i).length ≤ i
  | 0 => Nat.le_refl _
  | i + 1 => by
    have := bear_len be f i
    unfold bear
    rw [List.length_append]
    split <;> simp <;> omega
theorem s39_ok (S : Sho) (ms : List MS) (hS : ShOK S) (hM : MsOK ms S.be) (i : Int) (hi : inF S i) : HSpec Try.prog 39 [.one (.ptr 0 0), I i] (shM S ms) (fun r m' => r = .tup [.one (.lst false [.int .i64] (i64s (bear S.be i S.pl.length))), I 0] ∧ m' = shK S ms) := by
  have c38 := s38 S ms i
  rw [if_pos hi] at c38
  have hl := plA_len S.pl
  have hnp := hS.np
  refine spec_of pMix (O := []) Try.func39 (c := bodyOf Try.f39) rfl (by kernel_rfl) (by kernel_rfl) Try.ntmps39 (res := [.tmp 4, .tmp 5]) (by kernel_rfl) ?_
  repeat' ((conv => whnf); first | refine Rng.g ?_ | refine Ob.g ?_ | refine Ob.e ?_ | refine Ob.m ?_ | refine Ob.mk (Nat.le_of_ble_eq_true rfl) ?_ | refine JoinVC.on ?_ | refine Nils.mk (fun h => ?_) ?_ | refine Val.t ?_ | refine Val.d ?_ | refine Mm.mk ?_ | (refine Br.mk (fun h => ?_) (fun h => ?_) <;> first | (exfalso; omega; done) | (exfalso; simp at h; done) | skip))
  conv => whnf
  first | refine CallVC.mk [0, 1, 2, 3, 4, 5] _ _ _ rfl rfl rfl (c38) (fun r m' h' => ?_) | refine CallVC0.same [0, 1, 2, 3, 4, 5] _ _ _ rfl rfl rfl rfl (c38) (fun r m' h' => (by obtain ⟨rfl, rfl⟩ := h'; rfl)) (fun r m' h' => ?_) | (refine CallVC0.rows [0, 1, 2, 3, 4, 5] _ _ _ rfl rfl rfl ?_ (c38) (fun r m' h' => (by obtain ⟨rfl, rfl⟩ := h'; rfl)) (fun r m' h' => ?_); · (repeat' ((conv => whnf); first | exact trivial | exact rfl | exact Nat.le_refl _ | apply And.intro)))
  obtain ⟨rfl, rfl⟩ := h'
  conv => whnf
  repeat' ((conv => whnf); first | refine Rng.g ?_ | refine Ob.g ?_ | refine Ob.e ?_ | refine Ob.m ?_ | refine Ob.mk (Nat.le_of_ble_eq_true rfl) ?_ | refine JoinVC.on ?_ | refine Nils.mk (fun h => ?_) ?_ | refine Val.t ?_ | refine Val.d ?_ | refine Mm.mk ?_ | (refine Br.mk (fun h => ?_) (fun h => ?_) <;> first | (exfalso; omega; done) | (exfalso; simp at h; done) | skip))
  refine LoopVC.mk (fun n st => ∃ (k : Nat), k ≤ S.pl.length ∧ n = S.pl.length - k ∧ st = ⟨6, envA 50 [(0, .x (.one (.ptr 0 0))), (1, .x (I i)), (9, .x (.one (.own 6))), (27, .x (.one (.own 1))), (28, .int .i64 (S.pl.length : Int)), (29, .int .i64 (k : Int))], shK S ms ++ [some (rw (bear S.be i k))]⟩) _ _ ⟨0, Nat.zero_le _, rfl, rfl⟩ ?_ ?_
  · refine ⟨[some 0, some 1, some 2, some 3, some 4, some 5, none], rfl, rfl, ?_, ?_⟩ <;> repeat' (first | exact trivial | exact rfl | exact Iff.rfl | apply And.intro)
  rintro n _ ⟨k, hk, hn, rfl⟩
  by_cases h' : k < S.pl.length
  · have hm : i ∈ (ms.getD (k : Int).toNat ms0).ks ↔ i ∈ S.be.getD k [] := by rw [Int.toNat_natCast]; exact (hM.2 k (by rw [hS.nb]; exact h')).mem i
    have lb : (i64s (bear S.be i k)).length ≤ k := by rw [i64s_len]; exact bear_len _ _ _
    have sn := i64s_snoc (bear S.be i k) (k : Int)
    repeat' ((conv => whnf); first | refine Rng.g ?_ | refine Ob.g ?_ | refine Ob.e ?_ | refine Ob.m ?_ | refine Ob.mk (Nat.le_of_ble_eq_true rfl) ?_ | refine JoinVC.on ?_ | refine Nils.mk (fun h => ?_) ?_ | refine Val.t ?_ | refine Val.d ?_ | refine Mm.mk ?_ | (refine Br.mk (fun h => ?_) (fun h => ?_) <;> first | (exfalso; omega; done) | (exfalso; simp at h; done) | skip))
    · repeat refine Mm.mk ?_
      refine Ob.mk (by rw [eb3]; simp only [List.length_cons, List.length_nil]; omega) ?_
      repeat' ((conv => whnf); first | refine Rng.g ?_ | refine Ob.g ?_ | refine Ob.e ?_ | refine Ob.m ?_ | refine Ob.mk (Nat.le_of_ble_eq_true rfl) ?_ | refine JoinVC.on ?_ | refine Nils.mk (fun h => ?_) ?_ | refine Val.t ?_ | refine Val.d ?_ | refine Mm.mk ?_ | (refine Br.mk (fun h => ?_) (fun h => ?_) <;> first | (exfalso; omega; done) | (exfalso; simp at h; done) | skip))
      have hb : bear S.be i (k + 1) = bear S.be i k ++ [(k : Int)] := by rw [bear, if_pos (hm.1 h)]
      refine Back.mk (S.pl.length - (k + 1)) _ (by omega) ⟨k + 1, by omega, rfl, rfl⟩ ?_
      rw [hb]
      refine ⟨[some 0, some 1, some 2, some 3, some 4, some 5, some 9], rfl, rfl, ?_, ?_⟩ <;> repeat' (first | exact trivial | exact rfl | exact Iff.rfl | apply And.intro)
      exact sn.symm
    · have hb : bear S.be i (k + 1) = bear S.be i k := by rw [bear, if_neg (fun hc => h (hm.2 hc)), List.append_nil]
      refine Back.mk (S.pl.length - (k + 1)) _ (by omega) ⟨k + 1, by omega, rfl, rfl⟩ ?_
      rw [hb]
      refine ⟨[some 0, some 1, some 2, some 3, some 4, some 5, some 6], rfl, rfl, ?_, ?_⟩ <;> repeat' (first | exact trivial | exact rfl | exact Iff.rfl | apply And.intro)
  · obtain rfl : k = S.pl.length := by omega
    repeat' ((conv => whnf); first | refine Rng.g ?_ | refine Ob.g ?_ | refine Ob.e ?_ | refine Ob.m ?_ | refine Ob.mk (Nat.le_of_ble_eq_true rfl) ?_ | refine JoinVC.on ?_ | refine Nils.mk (fun h => ?_) ?_ | refine Val.t ?_ | refine Val.d ?_ | refine Mm.mk ?_ | (refine Br.mk (fun h => ?_) (fun h => ?_) <;> first | (exfalso; omega; done) | (exfalso; simp at h; done) | skip))
    repeat refine Mm.mk ?_
    refine EndVC.mk _ rfl _ _ ⟨rfl, rfl⟩ ?_
    refine ⟨[some 0, some 1, some 2, some 3, some 4, some 5], rfl, rfl, ?_, ?_⟩ <;> repeat' (first | exact trivial | exact rfl | exact Iff.rfl | apply And.intro)
end Go.Sx

namespace Go.Sx
open Go Go.Proofs
set_option maxRecDepth 10000
set_option maxHeartbeats 8000000
/-! ### What is needed -/
def lackI (a b c : Int) : Int := if a ≤ b then 0 else (a - b + c - 1) / c
theorem s71 (a b c : Int) (ha : 0 ≤ a ∧ a ≤ 1000000) (hb : 0 ≤ b ∧ b ≤ 1000000) (hc : 1 ≤ c ∧ c ≤ 16) : PSpec Try.prog 71 [I a, I b, I c] (.x (I (lackI a b c))) := by
  unfold lackI
  by_cases h : a ≤ b
  · rw [if_pos h]
    refine spec_of pMix (O := []) Try.func71 (c := bodyOf Try.f71) rfl (by kernel_rfl) (by kernel_rfl) Try.ntmps71 (res := [.tmp 6]) (by kernel_rfl) ?_
    repeat' ((conv => whnf); first | refine Rng.g ?_ | refine Ob.g ?_ | refine Ob.e ?_ | refine Ob.m ?_ | refine Ob.mk (Nat.le_of_ble_eq_true rfl) ?_ | refine JoinVC.on ?_ | refine Nils.mk (fun h => ?_) ?_ | refine Val.t ?_ | refine Val.d ?_ | refine Mm.mk ?_ | (refine Br.mk (fun h => ?_) (fun h => ?_) <;> first | (exfalso; omega; done) | (exfalso; simp at h; done) | skip))
    repeat refine Mm.mk ?_
    refine EndVC.mk _ rfl _ _ ⟨rfl, rfl⟩ ?_
    refine ⟨[], rfl, rfl, ?_, ?_⟩ <;> repeat' (first | exact trivial | exact rfl | exact Iff.rfl | apply And.intro)
  · rw [if_neg h]
    have hd := divB (a := a - b + c - 1) (d := c) (B := 2000000) (by omega) hc.1
    refine spec_of pMix (O := []) Try.func71 (c := bodyOf Try.f71) rfl (by kernel_rfl) (by kernel_rfl) Try.ntmps71 (res := [.tmp 6]) (by kernel_rfl) ?_
    repeat' ((conv => whnf); first | refine Rng.g ?_ | refine Ob.g ?_ | refine Ob.e ?_ | refine Ob.m ?_ | refine Ob.mk (Nat.le_of_ble_eq_true rfl) ?_ | refine JoinVC.on ?_ | refine Nils.mk (fun h => ?_) ?_ | refine Val.t ?_ | refine Val.d ?_ | refine Mm.mk ?_ | (refine Br.mk (fun h => ?_) (fun h => ?_) <;> first | (exfalso; omega; done) | (exfalso; simp at h; done) | skip))
    repeat refine Mm.mk ?_
    refine EndVC.mk _ rfl _ _ ⟨rfl, rfl⟩ ?_
    refine ⟨[], rfl, rfl, ?_, ?_⟩ <;> repeat' (first | exact trivial | exact rfl | exact Iff.rfl | apply And.intro)
theorem lackI_B {a b c A : Int} (ha : 0 ≤ a ∧ a ≤ A) (hb : 0 ≤ b) (hc : 1 ≤ c) : 0 ≤ lackI a b c ∧ lackI a b c ≤ A := by
  unfold lackI
  split
  · omega
  · refine ⟨Int.ediv_nonneg (by omega) (by omega), ?_⟩
    refine Int.le_trans (Int.ediv_le_of_le_mul (by omega) (?_ : _ ≤ (a - b) * c)) (by omega)
    have := Int.mul_nonneg (show 0 ≤ a - b - 1 by omega) (show 0 ≤ c - 1 by omega)
    have e : (a - b - 1) * (c - 1) = (a - b) * c - (a - b) - c + 1 := by
      rw [Int.sub_mul, Int.mul_sub, Int.mul_one, Int.one_mul]; omega
    omega
theorem up_le {S : Sho} (hS : ShOK S) : ∀ (n : Nat) (i : Int), i < S.pl.length → (i + 1).toNat ≤ n → ∀ x ∈ S.up i, 0 ≤ x ∧ x ≤ i
  | 0, i, _, hn, x, hx => by rw [up_neg (by omega)] at hx; cases hx
  | n + 1, i, hi, hn, x, hx => by
    by_cases h : 0 ≤ i
    · have hp := (hS.pl i.toNat (by omega)).pa
      rw [up_step hS hi h] at hx
      rcases List.mem_cons.1 hx with rfl | hx
      · exact ⟨h, Int.le_refl _⟩
      · have := up_le hS n (S.p i).pa (by unfold Sho.p; omega) (by unfold Sho.p; omega) x hx
        unfold Sho.p at this
        omega
    · rw [up_neg h] at hx; cases hx
theorem up_nodup {S : Sho} (hS : ShOK S) : ∀ (n : Nat) (i : Int), i < S.pl.length → (i + 1).toNat ≤ n → (S.up i).Nodup
  | 0, i, _, hn => by rw [up_neg (by omega)]; exact List.nodup_nil
  | n + 1, i, hi, hn => by
    by_cases h : 0 ≤ i
    · have hp := (hS.pl i.toNat (by omega)).pa
      rw [up_step hS hi h]
      refine List.nodup_cons.2 ⟨fun hc => ?_, up_nodup hS n _ (by unfold Sho.p; omega) (by unfold Sho.p; omega)⟩
      have := (up_le hS _ _ (by unfold Sho.p; omega) (Nat.le_refl _) i hc).2
      unfold Sho.p at this
      omega
    · rw [up_neg h]; exact List.nodup_nil
def Sho.q (S : Sho) (k : Nat) : Pl := S.pl.getD k p0
def needR (S : Sho) (i c : Int) : Nat → Int
  | 0 => 0
  | k + 1 => needR S i c k + (if i ∈ S.up k ∧ (S.q k).kd = c then roomP S.r (S.q k) else 0)
def needL (S : Sho) (i : Int) : Nat → Int
  | 0 => 0
  | k + 1 => needL S i k + (if i ∈ S.up k ∧ (S.q k).kd = 3 ∧ (S.q k).ret = false then 1 else 0)
def need3 (S : Sho) (i n : Int) : Int := if 0 < n - needL S i S.pl.length then n - needL S i S.pl.length else 0
def need2 (S : Sho) (i n : Int) : Int := lackI (need3 S i n) (needR S i 2 S.pl.length) S.r.sp
def need1 (S : Sho) (i n : Int) : Int := lackI (need2 S i n) (needR S i 1 S.pl.length) S.r.mo
def needE (S : Sho) (i n : Int) : Int := if ¬ inP S i then 5 else if n < 0 ∨ 256 < n then 3 else if needR S i 0 S.pl.length < need1 S i n then 15 else 0
def needN (S : Sho) (i n : Int) : Int := if needE S i n = 0 then need3 S i n + need2 S i n + need1 S i n else 0
theorem room_B {S : Sho} (hS : ShOK S) {k : Nat} : 0 ≤ roomP S.r (S.q k) ∧ roomP S.r (S.q k) ≤ 16 := by
  by_cases hk : k < S.pl.length
  · have hp : PlOK S k (S.q k) := hS.pl k hk
    have hg := hp.grown
    have hm := hS.r.mo
    have hs := hS.r.sp
    have : capP S.r (S.q k).kd ≤ 16 := by unfold capP; (repeat' split) <;> omega
    unfold roomP
    split <;> omega
  · have e : S.q k = p0 := by unfold Sho.q; rw [List.getD_eq_getElem?_getD, List.getElem?_eq_none (by omega)]; rfl
    rw [e]
    have e2 : roomP S.r p0 = 1 := rfl
    rw [e2]
    exact ⟨by decide, by decide⟩
theorem needR_B {S : Sho} (hS : ShOK S) (i c : Int) : ∀ k, 0 ≤ needR S i c k ∧ needR S i c k ≤ 16 * k
  | 0 => ⟨Int.le_refl _, Int.le_refl _⟩
  | k + 1 => by
    have h1 := needR_B hS i c k
    have h2 := room_B hS (k := k)
    unfold needR
    split <;> omega
theorem needL_B (S : Sho) (i : Int) : ∀ k, 0 ≤ needL S i k ∧ needL S i k ≤ k
  | 0 => ⟨Int.le_refl _, Int.le_refl _⟩
  | k + 1 => by
    have h1 := needL_B S i k
    unfold needL
    split <;> omega
/-- What was counted when a part of the line was looked at. -/
def partR (S : Sho) (i c : Int) (k : Nat) (xs : List Int) : Int := if i ∈ xs then needR S i c (k + 1) else needR S i c k
def partL (S : Sho) (i : Int) (k : Nat) (xs : List Int) : Int := if i ∈ xs then needL S i (k + 1) else needL S i k
theorem partR_nil (S : Sho) (i c : Int) (k : Nat) : partR S i c k [] = needR S i c k := if_neg (by simp)
theorem partL_nil (S : Sho) (i : Int) (k : Nat) : partL S i k [] = needL S i k := if_neg (by simp)
theorem partR_skip (S : Sho) (i c : Int) (k : Nat) (xs : List Int) {j : Int} (h : ¬ j = i) : partR S i c k (xs ++ [j]) = partR S i c k xs := by
  unfold partR
  simp only [List.mem_append, List.mem_singleton]
  by_cases hx : i ∈ xs
  · rw [if_pos (.inl hx), if_pos hx]
  · rw [if_neg (by rintro (h' | h'); exact hx h'; exact h h'.symm), if_neg hx]
theorem partL_skip (S : Sho) (i : Int) (k : Nat) (xs : List Int) {j : Int} (h : ¬ j = i) : partL S i k (xs ++ [j]) = partL S i k xs := by
  unfold partL
  simp only [List.mem_append, List.mem_singleton]
  by_cases hx : i ∈ xs
  · rw [if_pos (.inl hx), if_pos hx]
  · rw [if_neg (by rintro (h' | h'); exact hx h'; exact h h'.symm), if_neg hx]
theorem partR_hit {S : Sho} {i c : Int} {k : Nat} {xs : List Int} (h : i ∉ xs) (hk : i ∈ S.up k) : partR S i c k (xs ++ [i]) = partR S i c k xs + (if (S.q k).kd = c then roomP S.r (S.q k) else 0) := by
  unfold partR
  rw [if_pos (by simp), if_neg h, needR]
  by_cases hc : (S.q k).kd = c
  · rw [if_pos ⟨hk, hc⟩, if_pos hc]
  · rw [if_neg (fun h => hc h.2), if_neg hc]
theorem partL_hit {S : Sho} {i : Int} {k : Nat} {xs : List Int} (h : i ∉ xs) (hk : i ∈ S.up k) : partL S i k (xs ++ [i]) = partL S i k xs + (if (S.q k).kd = 3 ∧ (S.q k).ret = false then 1 else 0) := by
  unfold partL
  rw [if_pos (by simp), if_neg h, needL]
  by_cases hc : (S.q k).kd = 3 ∧ (S.q k).ret = false
  · rw [if_pos ⟨hk, hc⟩, if_pos hc]
  · rw [if_neg (fun h => hc h.2), if_neg hc]
theorem partR_end (S : Sho) (i c : Int) (k : Nat) : partR S i c k (S.up k) = needR S i c (k + 1) := by
  unfold partR
  split
  · rfl
  · rw [needR, if_neg (fun h => absurd h.1 ‹_›), Int.add_zero]
theorem partL_end (S : Sho) (i : Int) (k : Nat) : partL S i k (S.up k) = needL S i (k + 1) := by
  unfold partL
  split
  · rfl
  · rw [needL, if_neg (fun h => absurd h.1 ‹_›), Int.add_zero]
def cL : Code → Code
  | .loop c => c
  | c => c
noncomputable def rf26 : Code := cB (cS (cS (cB (cF (cS (cS (cL (cB (cS (cF (cS (cS (cS (bodyOf Try.f26))))))))))))))
set_option maxHeartbeats 20000000 in
theorem s26_ok (S : Sho) (ms : List MS) (hS : ShOK S) (i n : Int) (hin : inP S i) (hn : 0 ≤ n ∧ n ≤ 256) : HSpec Try.prog 26 [.one (.ptr 0 0), I i, I n] (shM S ms) (fun r m' => r = .tup [I (needN S i n), I (needE S i n)] ∧ m' = shK S ms) := by
  have c53 := s53 S ms
  have c63 := s63 S ms i
  rw [getR, if_pos hin] at c63
  have hl := plA_len S.pl
  have hnp := hS.np
  refine spec_of pMix (O := [(14, ([], [⟨0, [], []⟩, ⟨1, [], []⟩, ⟨2, [], []⟩, ⟨3, [], []⟩, ⟨4, [], []⟩, ⟨5, [], []⟩, ⟨6, [], []⟩, ⟨7, [], []⟩, ⟨8, [], []⟩, ⟨9, [0, 1, 2, 3, 4, 5, 6], []⟩, ⟨10, [], []⟩, ⟨11, [], []⟩, ⟨12, [], []⟩]))]) Try.func26 (c := bodyOf Try.f26) rfl (by kernel_rfl) (by kernel_rfl) Try.ntmps26 (res := [.tmp 6, .tmp 7]) (by kernel_rfl) ?_
  repeat' ((conv => whnf); first | refine Rng.g ?_ | refine Ob.g ?_ | refine Ob.e ?_ | refine Ob.m ?_ | refine Ob.mk (Nat.le_of_ble_eq_true rfl) ?_ | refine JoinVC.on ?_ | refine Nils.mk (fun h => ?_) ?_ | refine Val.t ?_ | refine Val.d ?_ | refine Mm.mk ?_ | (refine Br.mk (fun h => ?_) (fun h => ?_) <;> first | (exfalso; omega; done) | (exfalso; simp at h; done) | skip))
  conv => whnf
  first | refine CallVC.mk [0, 1, 2, 3, 4, 5] _ _ _ rfl rfl rfl (c53) (fun r m' h' => ?_) | refine CallVC0.same [0, 1, 2, 3, 4, 5] _ _ _ rfl rfl rfl rfl (c53) (fun r m' h' => (by obtain ⟨rfl, rfl⟩ := h'; rfl)) (fun r m' h' => ?_) | (refine CallVC0.rows [0, 1, 2, 3, 4, 5] _ _ _ rfl rfl rfl ?_ (c53) (fun r m' h' => (by obtain ⟨rfl, rfl⟩ := h'; rfl)) (fun r m' h' => ?_); · (repeat' ((conv => whnf); first | exact trivial | exact rfl | exact Nat.le_refl _ | apply And.intro)))
  obtain ⟨rfl, rfl⟩ := h'
  conv => whnf
  repeat' ((conv => whnf); first | refine Rng.g ?_ | refine Ob.g ?_ | refine Ob.e ?_ | refine Ob.m ?_ | refine Ob.mk (Nat.le_of_ble_eq_true rfl) ?_ | refine JoinVC.on ?_ | refine Nils.mk (fun h => ?_) ?_ | refine Val.t ?_ | refine Val.d ?_ | refine Mm.mk ?_ | (refine Br.mk (fun h => ?_) (fun h => ?_) <;> first | (exfalso; omega; done) | (exfalso; simp at h; done) | skip))
  conv => whnf
  first | refine CallVC.mk [0, 1, 2, 3, 4, 5] _ _ _ rfl rfl rfl (c63) (fun r m' h' => ?_) | refine CallVC0.same [0, 1, 2, 3, 4, 5] _ _ _ rfl rfl rfl rfl (c63) (fun r m' h' => (by obtain ⟨rfl, rfl⟩ := h'; rfl)) (fun r m' h' => ?_) | (refine CallVC0.rows [0, 1, 2, 3, 4, 5] _ _ _ rfl rfl rfl ?_ (c63) (fun r m' h' => (by obtain ⟨rfl, rfl⟩ := h'; rfl)) (fun r m' h' => ?_); · (repeat' ((conv => whnf); first | exact trivial | exact rfl | exact Nat.le_refl _ | apply And.intro)))
  obtain ⟨rfl, rfl⟩ := h'
  conv => whnf
  repeat' ((conv => whnf); first | refine Rng.g ?_ | refine Ob.g ?_ | refine Ob.e ?_ | refine Ob.m ?_ | refine Ob.mk (Nat.le_of_ble_eq_true rfl) ?_ | refine JoinVC.on ?_ | refine Nils.mk (fun h => ?_) ?_ | refine Val.t ?_ | refine Val.d ?_ | refine Mm.mk ?_ | (refine Br.mk (fun h => ?_) (fun h => ?_) <;> first | (exfalso; omega; done) | (exfalso; simp at h; done) | skip))
  refine LoopVC.mk (fun m st => ∃ (k : Nat), k ≤ S.pl.length ∧ m = S.pl.length - k ∧ st = ⟨6, envA 105 [(3, .x (.one (.ptr 6 0))), (4, .x (.one (.ptr 7 0))), (5, .x (.one (.ptr 8 0))), (8, .x (.one (.ptr 9 0))), (33, .x (.one (.own 1))), (34, .int .i64 (S.pl.length : Int)), (35, .int .i64 (k : Int))], shK S ms ++ [some (.box 29 [.ptr 0 0]), some (.box 3 [.int .i64 i]), some (.box 3 [.int .i64 (n - needL S i k)]), some (.box 109 [.int .i64 (needR S i 0 k), .int .i64 (needR S i 1 k), .int .i64 (needR S i 2 k), .int .i64 (needR S i 3 k)])]⟩) _ _ ⟨0, Nat.zero_le _, rfl, rfl⟩ ?_ ?_
  · refine ⟨[some 0, some 1, some 2, some 3, some 4, some 5, some 6, some 7, some 8, some 9], rfl, rfl, ?_, ?_⟩ <;> repeat' (first | exact trivial | exact rfl | exact Iff.rfl | apply And.intro)
    rw [needL, Int.sub_zero]
  rintro m _ ⟨k, hk, hm, rfl⟩
  by_cases h' : k < S.pl.length
  · have c69 := s69 S ms (k : Int)
    have hq := needR_B hS i
    have q0 := needR_B hS i 0 k
    have q1 := needR_B hS i 1 k
    have q2 := needR_B hS i 2 k
    have q3 := needR_B hS i 3 k
    have qL := needL_B S i k
    repeat' ((conv => whnf); first | refine Rng.g ?_ | refine Ob.g ?_ | refine Ob.e ?_ | refine Ob.m ?_ | refine Ob.mk (Nat.le_of_ble_eq_true rfl) ?_ | refine JoinVC.on ?_ | refine Nils.mk (fun h => ?_) ?_ | refine Val.t ?_ | refine Val.d ?_ | refine Mm.mk ?_ | (refine Br.mk (fun h => ?_) (fun h => ?_) <;> first | (exfalso; omega; done) | (exfalso; simp at h; done) | skip))
    conv => whnf
    first | refine CallVC.mk [0, 1, 2, 3, 4, 5] _ _ _ rfl rfl rfl (c69) (fun r m' h' => ?_) | refine CallVC0.same [0, 1, 2, 3, 4, 5] _ _ _ rfl rfl rfl rfl (c69) (fun r m' h' => (by obtain ⟨rfl, rfl⟩ := h'; rfl)) (fun r m' h' => ?_) | (refine CallVC0.rows [0, 1, 2, 3, 4, 5] _ _ _ rfl rfl rfl ?_ (c69) (fun r m' h' => (by obtain ⟨rfl, rfl⟩ := h'; rfl)) (fun r m' h' => ?_); · (repeat' ((conv => whnf); first | exact trivial | exact rfl | exact Nat.le_refl _ | apply And.intro)))
    obtain ⟨rfl, rfl⟩ := h'
    conv => whnf
    repeat' ((conv => whnf); first | refine Rng.g ?_ | refine Ob.g ?_ | refine Ob.e ?_ | refine Ob.m ?_ | refine Ob.mk (Nat.le_of_ble_eq_true rfl) ?_ | refine JoinVC.on ?_ | refine Nils.mk (fun h => ?_) ?_ | refine Val.t ?_ | refine Val.d ?_ | refine Mm.mk ?_ | (refine Br.mk (fun h => ?_) (fun h => ?_) <;> first | (exfalso; omega; done) | (exfalso; simp at h; done) | skip))
    change RangeVC _ _ _ _ _
    refine RangeVC.mk e88 (isem_of_awp pMix [] Try.func88 (c := bodyOf Try.f88) rfl (by kernel_rfl) Try.ntmps88 (by kernel_rfl) ?_)
    repeat' ((conv => whnf); first | refine Rng.g ?_ | refine Ob.g ?_ | refine Ob.e ?_ | refine Ob.m ?_ | refine Ob.mk (Nat.le_of_ble_eq_true rfl) ?_ | refine JoinVC.on ?_ | refine Nils.mk (fun h => ?_) ?_ | refine Val.t ?_ | refine Val.d ?_ | refine Mm.mk ?_ | (refine Br.mk (fun h => ?_) (fun h => ?_) <;> first | (exfalso; omega; done) | (exfalso; simp at h; done) | skip))
    refine LoopVC.mk (fun m st => ∃ (j : Int) (xs : List Int), -1 ≤ j ∧ j < S.pl.length ∧ xs ++ S.up j = S.up k ∧ m = (j + 1).toNat ∧ st = ⟨14, envA 22 [(0, .x (.one (.yld 13))), (1, .x (.one (.ptr 12 0))), (2, .x (.one (.ptr 11 0)))], shK S ms ++ [some (.box 29 [.ptr 0 0]), some (.box 3 [.int .i64 i]), some (.box 3 [.int .i64 (n - partL S i k xs)]), some (.box 109 [.int .i64 (partR S i 0 k xs), .int .i64 (partR S i 1 k xs), .int .i64 (partR S i 2 k xs), .int .i64 (partR S i 3 k xs)]), some (.box 90 [.pel 2 k 0]), some (.box 29 [.ptr 0 0]), some (.box 3 [.int .i64 j]), some (.loop [43] (cAs rf26) (cBo rf26) (envA 105 [(3, .x (.one (.ptr 6 0))), (4, .x (.one (.ptr 7 0))), (5, .x (.one (.ptr 8 0))), (8, .x (.one (.ptr 9 0))), (10, .x (.one (.ptr 10 0))), (33, .x (.one (.own 1))), (34, .int .i64 (S.pl.length : Int)), (35, .int .i64 (k : Int))]) .ready)]⟩) _ _ ⟨(k : Int), [], by omega, by omega, rfl, rfl, rfl⟩ ?_ ?_
    · refine ⟨[some 0, some 1, some 2, some 3, some 4, some 5, some 6, some 7, some 8, some 9, some 10, some 11, some 12, some 13], rfl, rfl, ?_, ?_⟩ <;> repeat' (first | exact trivial | exact rfl | exact Iff.rfl | apply And.intro)
      all_goals first
        | exact (partR_nil ..).symm
        | exact congrArg (n - ·) (partL_nil ..).symm
    rintro m _ ⟨j, xs, hj, hj', hx, hm, rfl⟩
    by_cases h0 : 0 ≤ j
    · have hu := up_step hS hj' h0
      have hpa := (hS.pl j.toNat (by omega)).pa
      have g1 : rI (plA S.pl) j.toNat ((0 + 1)) = (S.p j).pa := pl_1 S.pl j.toNat
      have hnd := up_nodup hS (k + 1) (k : Int) (by omega) (by omega)
      rw [← hx, hu] at hnd
      have hjx : j ∉ xs := fun hc => (List.nodup_append.1 hnd).2.2 j hc j (.head _) rfl
      have hjk : j ∈ S.up k := by rw [← hx, hu]; exact List.mem_append_right _ (.head _)
      have hx' : (xs ++ [j]) ++ S.up (S.p j).pa = S.up k := by rw [← hx, hu, List.append_assoc]; rfl
      have hpa' : -1 ≤ (S.p j).pa ∧ (S.p j).pa < j := by unfold Sho.p; omega
      by_cases hji : j = i
      · subst hji
        have hkd := (hS.pl k h').kd
        have c70 := s70 S ms hS k h'
        have hrb : 0 ≤ roomP S.r (S.pl.getD k p0) ∧ roomP S.r (S.pl.getD k p0) ≤ 16 := room_B hS
        have pB : ∀ c, 0 ≤ partR S j c k xs ∧ partR S j c k xs ≤ 5000 := fun c => by
          have := needR_B hS j c k
          have := needR_B hS j c (k + 1)
          unfold partR
          split <;> omega
        have pL : 0 ≤ partL S j k xs ∧ partL S j k xs ≤ 257 := by
          have := needL_B S j k
          have := needL_B S j (k + 1)
          unfold partL
          split <;> omega
        have b0 := pB 0
        have b1 := pB 1
        have b2 := pB 2
        have b3 := pB 3
        have hk4 : (S.q k).kd = 0 ∨ (S.q k).kd = 1 ∨ (S.q k).kd = 2 ∨ (S.q k).kd = 3 := by
          have : 0 ≤ (S.q k).kd ∧ (S.q k).kd ≤ 3 := hkd
          omega
        have g0 := pl_0 S.pl k
        rcases hk4 with hq | hq | hq | hq
        · rw [show (S.pl.getD k p0).kd = 0 from hq] at g0
          have w0 : partR S j 0 k (xs ++ [j]) = partR S j 0 k xs + roomP S.r (S.pl.getD k p0) := (partR_hit hjx hjk).trans (by rw [if_pos hq]; rfl)
          have w1 : partR S j 1 k (xs ++ [j]) = partR S j 1 k xs := (partR_hit hjx hjk).trans (by rw [if_neg (by omega), Int.add_zero])
          have w2 : partR S j 2 k (xs ++ [j]) = partR S j 2 k xs := (partR_hit hjx hjk).trans (by rw [if_neg (by omega), Int.add_zero])
          have w3 : partR S j 3 k (xs ++ [j]) = partR S j 3 k xs := (partR_hit hjx hjk).trans (by rw [if_neg (by omega), Int.add_zero])
          have wL : partL S j k (xs ++ [j]) = partL S j k xs := (partL_hit hjx hjk).trans (by rw [if_neg (fun hc => by omega), Int.add_zero])
          repeat' ((conv => whnf); first | refine Rng.g ?_ | refine Ob.g ?_ | refine Ob.e ?_ | refine Ob.m ?_ | refine Ob.mk (Nat.le_of_ble_eq_true rfl) ?_ | refine JoinVC.on ?_ | refine Nils.mk (fun h => ?_) ?_ | refine Val.t ?_ | refine Val.d ?_ | refine Mm.mk ?_ | refine YieldVC.mk (rsem_of_awp pMix [(14, ([], [⟨0, [], []⟩, ⟨1, [], []⟩, ⟨2, [], []⟩, ⟨3, [], []⟩, ⟨4, [], []⟩, ⟨5, [], []⟩, ⟨6, [], []⟩, ⟨7, [], []⟩, ⟨8, [], []⟩, ⟨9, [0, 1, 2, 3, 4, 5, 6], []⟩, ⟨10, [], []⟩, ⟨11, [], []⟩, ⟨12, [], []⟩]))] rfl (by kernel_rfl) ?_) | (refine Br.mk (fun h => ?_) (fun h => ?_) <;> first | (exfalso; omega; done) | (exfalso; simp at h; done) | skip))
          rw [g0]
          repeat' ((conv => whnf); first | refine Rng.g ?_ | refine Ob.g ?_ | refine Ob.e ?_ | refine Ob.m ?_ | refine Ob.mk (Nat.le_of_ble_eq_true rfl) ?_ | refine JoinVC.on ?_ | refine Nils.mk (fun h => ?_) ?_ | refine Val.t ?_ | refine Val.d ?_ | refine Mm.mk ?_ | (refine Br.mk (fun h => ?_) (fun h => ?_) <;> first | (exfalso; omega; done) | (exfalso; simp at h; done) | skip))
          conv => whnf
          first | refine CallVC.mk [0, 1, 2, 3, 4, 5] _ _ _ rfl rfl rfl (c70) (fun r m' h' => ?_) | refine CallVC0.same [0, 1, 2, 3, 4, 5] _ _ _ rfl rfl rfl rfl (c70) (fun r m' h' => (by obtain ⟨rfl, rfl⟩ := h'; rfl)) (fun r m' h' => ?_) | (refine CallVC0.rows [0, 1, 2, 3, 4, 5] _ _ _ rfl rfl rfl ?_ (c70) (fun r m' h' => (by obtain ⟨rfl, rfl⟩ := h'; rfl)) (fun r m' h' => ?_); · (repeat' ((conv => whnf); first | exact trivial | exact rfl | exact Nat.le_refl _ | apply And.intro)))
          obtain ⟨rfl, rfl⟩ := h'
          conv => whnf
          repeat' ((conv => whnf); first | refine Rng.g ?_ | refine Ob.g ?_ | refine Ob.e ?_ | refine Ob.m ?_ | refine Ob.mk (Nat.le_of_ble_eq_true rfl) ?_ | refine JoinVC.on ?_ | refine Nils.mk (fun h => ?_) ?_ | refine Val.t ?_ | refine Val.d ?_ | refine Mm.mk ?_ | (refine Br.mk (fun h => ?_) (fun h => ?_) <;> first | (exfalso; omega; done) | (exfalso; simp at h; done) | skip))
          conv => whnf
          rw [g1]
          refine Back.mk ((S.p j).pa + 1).toNat _ (by omega) ⟨(S.p j).pa, xs ++ [j], hpa'.1, by omega, hx', rfl, rfl⟩ ?_
          rw [w0, w1, w2, w3, wL]
          refine ⟨[some 0, some 1, some 2, some 3, some 4, some 5, some 6, some 7, some 8, some 9, some 10, some 11, some 12, some 13], rfl, rfl, ?_, ?_⟩ <;> repeat' (first | exact trivial | exact rfl | exact Iff.rfl | apply And.intro)
        · rw [show (S.pl.getD k p0).kd = 1 from hq] at g0
          have w0 : partR S j 0 k (xs ++ [j]) = partR S j 0 k xs := (partR_hit hjx hjk).trans (by rw [if_neg (by omega), Int.add_zero])
          have w1 : partR S j 1 k (xs ++ [j]) = partR S j 1 k xs + roomP S.r (S.pl.getD k p0) := (partR_hit hjx hjk).trans (by rw [if_pos hq]; rfl)
          have w2 : partR S j 2 k (xs ++ [j]) = partR S j 2 k xs := (partR_hit hjx hjk).trans (by rw [if_neg (by omega), Int.add_zero])
          have w3 : partR S j 3 k (xs ++ [j]) = partR S j 3 k xs := (partR_hit hjx hjk).trans (by rw [if_neg (by omega), Int.add_zero])
          have wL : partL S j k (xs ++ [j]) = partL S j k xs := (partL_hit hjx hjk).trans (by rw [if_neg (fun hc => by omega), Int.add_zero])
          repeat' ((conv => whnf); first | refine Rng.g ?_ | refine Ob.g ?_ | refine Ob.e ?_ | refine Ob.m ?_ | refine Ob.mk (Nat.le_of_ble_eq_true rfl) ?_ | refine JoinVC.on ?_ | refine Nils.mk (fun h => ?_) ?_ | refine Val.t ?_ | refine Val.d ?_ | refine Mm.mk ?_ | refine YieldVC.mk (rsem_of_awp pMix [(14, ([], [⟨0, [], []⟩, ⟨1, [], []⟩, ⟨2, [], []⟩, ⟨3, [], []⟩, ⟨4, [], []⟩, ⟨5, [], []⟩, ⟨6, [], []⟩, ⟨7, [], []⟩, ⟨8, [], []⟩, ⟨9, [0, 1, 2, 3, 4, 5, 6], []⟩, ⟨10, [], []⟩, ⟨11, [], []⟩, ⟨12, [], []⟩]))] rfl (by kernel_rfl) ?_) | (refine Br.mk (fun h => ?_) (fun h => ?_) <;> first | (exfalso; omega; done) | (exfalso; simp at h; done) | skip))
          rw [g0]
          repeat' ((conv => whnf); first | refine Rng.g ?_ | refine Ob.g ?_ | refine Ob.e ?_ | refine Ob.m ?_ | refine Ob.mk (Nat.le_of_ble_eq_true rfl) ?_ | refine JoinVC.on ?_ | refine Nils.mk (fun h => ?_) ?_ | refine Val.t ?_ | refine Val.d ?_ | refine Mm.mk ?_ | (refine Br.mk (fun h => ?_) (fun h => ?_) <;> first | (exfalso; omega; done) | (exfalso; simp at h; done) | skip))
          conv => whnf
          first | refine CallVC.mk [0, 1, 2, 3, 4, 5] _ _ _ rfl rfl rfl (c70) (fun r m' h' => ?_) | refine CallVC0.same [0, 1, 2, 3, 4, 5] _ _ _ rfl rfl rfl rfl (c70) (fun r m' h' => (by obtain ⟨rfl, rfl⟩ := h'; rfl)) (fun r m' h' => ?_) | (refine CallVC0.rows [0, 1, 2, 3, 4, 5] _ _ _ rfl rfl rfl ?_ (c70) (fun r m' h' => (by obtain ⟨rfl, rfl⟩ := h'; rfl)) (fun r m' h' => ?_); · (repeat' ((conv => whnf); first | exact trivial | exact rfl | exact Nat.le_refl _ | apply And.intro)))
          obtain ⟨rfl, rfl⟩ := h'
          conv => whnf
          repeat' ((conv => whnf); first | refine Rng.g ?_ | refine Ob.g ?_ | refine Ob.e ?_ | refine Ob.m ?_ | refine Ob.mk (Nat.le_of_ble_eq_true rfl) ?_ | refine JoinVC.on ?_ | refine Nils.mk (fun h => ?_) ?_ | refine Val.t ?_ | refine Val.d ?_ | refine Mm.mk ?_ | (refine Br.mk (fun h => ?_) (fun h => ?_) <;> first | (exfalso; omega; done) | (exfalso; simp at h; done) | skip))
          conv => whnf
          rw [g1]
          refine Back.mk ((S.p j).pa + 1).toNat _ (by omega) ⟨(S.p j).pa, xs ++ [j], hpa'.1, by omega, hx', rfl, rfl⟩ ?_
          rw [w0, w1, w2, w3, wL]
          refine ⟨[some 0, some 1, some 2, some 3, some 4, some 5, some 6, some 7, some 8, some 9, some 10, some 11, some 12, some 13], rfl, rfl, ?_, ?_⟩ <;> repeat' (first | exact trivial | exact rfl | exact Iff.rfl | apply And.intro)
        · rw [show (S.pl.getD k p0).kd = 2 from hq] at g0
          have w0 : partR S j 0 k (xs ++ [j]) = partR S j 0 k xs := (partR_hit hjx hjk).trans (by rw [if_neg (by omega), Int.add_zero])
          have w1 : partR S j 1 k (xs ++ [j]) = partR S j 1 k xs := (partR_hit hjx hjk).trans (by rw [if_neg (by omega), Int.add_zero])
          have w2 : partR S j 2 k (xs ++ [j]) = partR S j 2 k xs + roomP S.r (S.pl.getD k p0) := (partR_hit hjx hjk).trans (by rw [if_pos hq]; rfl)
          have w3 : partR S j 3 k (xs ++ [j]) = partR S j 3 k xs := (partR_hit hjx hjk).trans (by rw [if_neg (by omega), Int.add_zero])
          have wL : partL S j k (xs ++ [j]) = partL S j k xs := (partL_hit hjx hjk).trans (by rw [if_neg (fun hc => by omega), Int.add_zero])
          repeat' ((conv => whnf); first | refine Rng.g ?_ | refine Ob.g ?_ | refine Ob.e ?_ | refine Ob.m ?_ | refine Ob.mk (Nat.le_of_ble_eq_true rfl) ?_ | refine JoinVC.on ?_ | refine Nils.mk (fun h => ?_) ?_ | refine Val.t ?_ | refine Val.d ?_ | refine Mm.mk ?_ | refine YieldVC.mk (rsem_of_awp pMix [(14, ([], [⟨0, [], []⟩, ⟨1, [], []⟩, ⟨2, [], []⟩, ⟨3, [], []⟩, ⟨4, [], []⟩, ⟨5, [], []⟩, ⟨6, [], []⟩, ⟨7, [], []⟩, ⟨8, [], []⟩, ⟨9, [0, 1, 2, 3, 4, 5, 6], []⟩, ⟨10, [], []⟩, ⟨11, [], []⟩, ⟨12, [], []⟩]))] rfl (by kernel_rfl) ?_) | (refine Br.mk (fun h => ?_) (fun h => ?_) <;> first | (exfalso; omega; done) | (exfalso; simp at h; done) | skip))
          rw [g0]
          repeat' ((conv => whnf); first | refine Rng.g ?_ | refine Ob.g ?_ | refine Ob.e ?_ | refine Ob.m ?_ | refine Ob.mk (Nat.le_of_ble_eq_true rfl) ?_ | refine JoinVC.on ?_ | refine Nils.mk (fun h => ?_) ?_ | refine Val.t ?_ | refine Val.d ?_ | refine Mm.mk ?_ | (refine Br.mk (fun h => ?_) (fun h => ?_) <;> first | (exfalso; omega; done) | (exfalso; simp at h; done) | skip))
          conv => whnf
          first | refine CallVC.mk [0, 1, 2, 3, 4, 5] _ _ _ rfl rfl rfl (c70) (fun r m' h' => ?_) | refine CallVC0.same [0, 1, 2, 3, 4, 5] _ _ _ rfl rfl rfl rfl (c70) (fun r m' h' => (by obtain ⟨rfl, rfl⟩ := h'; rfl)) (fun r m' h' => ?_) | (refine CallVC0.rows [0, 1, 2, 3, 4, 5] _ _ _ rfl rfl rfl ?_ (c70) (fun r m' h' => (by obtain ⟨rfl, rfl⟩ := h'; rfl)) (fun r m' h' => ?_); · (repeat' ((conv => whnf); first | exact trivial | exact rfl | exact Nat.le_refl _ | apply And.intro)))
          obtain ⟨rfl, rfl⟩ := h'
          conv => whnf
          repeat' ((conv => whnf); first | refine Rng.g ?_ | refine Ob.g ?_ | refine Ob.e ?_ | refine Ob.m ?_ | refine Ob.mk (Nat.le_of_ble_eq_true rfl) ?_ | refine JoinVC.on ?_ | refine Nils.mk (fun h => ?_) ?_ | refine Val.t ?_ | refine Val.d ?_ | refine Mm.mk ?_ | (refine Br.mk (fun h => ?_) (fun h => ?_) <;> first | (exfalso; omega; done) | (exfalso; simp at h; done) | skip))
          conv => whnf
          rw [g1]
          refine Back.mk ((S.p j).pa + 1).toNat _ (by omega) ⟨(S.p j).pa, xs ++ [j], hpa'.1, by omega, hx', rfl, rfl⟩ ?_
          rw [w0, w1, w2, w3, wL]
          refine ⟨[some 0, some 1, some 2, some 3, some 4, some 5, some 6, some 7, some 8, some 9, some 10, some 11, some 12, some 13], rfl, rfl, ?_, ?_⟩ <;> repeat' (first | exact trivial | exact rfl | exact Iff.rfl | apply And.intro)
        · rw [show (S.pl.getD k p0).kd = 3 from hq] at g0
          have w0 : partR S j 0 k (xs ++ [j]) = partR S j 0 k xs := (partR_hit hjx hjk).trans (by rw [if_neg (by omega), Int.add_zero])
          have w1 : partR S j 1 k (xs ++ [j]) = partR S j 1 k xs := (partR_hit hjx hjk).trans (by rw [if_neg (by omega), Int.add_zero])
          have w2 : partR S j 2 k (xs ++ [j]) = partR S j 2 k xs := (partR_hit hjx hjk).trans (by rw [if_neg (by omega), Int.add_zero])
          have w3 : partR S j 3 k (xs ++ [j]) = partR S j 3 k xs + roomP S.r (S.pl.getD k p0) := (partR_hit hjx hjk).trans (by rw [if_pos hq]; rfl)
          have g6 := pl_6 S.pl k
          by_cases hret : (S.q k).ret = true
          · rw [show (S.pl.getD k p0).ret = true from hret] at g6
            have wL : partL S j k (xs ++ [j]) = partL S j k xs := (partL_hit hjx hjk).trans (by rw [if_neg (fun hc => by rw [hret] at hc; cases hc.2), Int.add_zero])
            repeat' ((conv => whnf); first | refine Rng.g ?_ | refine Ob.g ?_ | refine Ob.e ?_ | refine Ob.m ?_ | refine Ob.mk (Nat.le_of_ble_eq_true rfl) ?_ | refine JoinVC.on ?_ | refine Nils.mk (fun h => ?_) ?_ | refine Val.t ?_ | refine Val.d ?_ | refine Mm.mk ?_ | refine YieldVC.mk (rsem_of_awp pMix [(14, ([], [⟨0, [], []⟩, ⟨1, [], []⟩, ⟨2, [], []⟩, ⟨3, [], []⟩, ⟨4, [], []⟩, ⟨5, [], []⟩, ⟨6, [], []⟩, ⟨7, [], []⟩, ⟨8, [], []⟩, ⟨9, [0, 1, 2, 3, 4, 5, 6], []⟩, ⟨10, [], []⟩, ⟨11, [], []⟩, ⟨12, [], []⟩]))] rfl (by kernel_rfl) ?_) | (refine Br.mk (fun h => ?_) (fun h => ?_) <;> first | (exfalso; omega; done) | (exfalso; simp at h; done) | skip))
            rw [g0]
            repeat' ((conv => whnf); first | refine Rng.g ?_ | refine Ob.g ?_ | refine Ob.e ?_ | refine Ob.m ?_ | refine Ob.mk (Nat.le_of_ble_eq_true rfl) ?_ | refine JoinVC.on ?_ | refine Nils.mk (fun h => ?_) ?_ | refine Val.t ?_ | refine Val.d ?_ | refine Mm.mk ?_ | (refine Br.mk (fun h => ?_) (fun h => ?_) <;> first | (exfalso; omega; done) | (exfalso; simp at h; done) | skip))
            conv => whnf
            first | refine CallVC.mk [0, 1, 2, 3, 4, 5] _ _ _ rfl rfl rfl (c70) (fun r m' h' => ?_) | refine CallVC0.same [0, 1, 2, 3, 4, 5] _ _ _ rfl rfl rfl rfl (c70) (fun r m' h' => (by obtain ⟨rfl, rfl⟩ := h'; rfl)) (fun r m' h' => ?_) | (refine CallVC0.rows [0, 1, 2, 3, 4, 5] _ _ _ rfl rfl rfl ?_ (c70) (fun r m' h' => (by obtain ⟨rfl, rfl⟩ := h'; rfl)) (fun r m' h' => ?_); · (repeat' ((conv => whnf); first | exact trivial | exact rfl | exact Nat.le_refl _ | apply And.intro)))
            obtain ⟨rfl, rfl⟩ := h'
            conv => whnf
            repeat' ((conv => whnf); first | rw [g6] | refine Rng.g ?_ | refine Ob.g ?_ | refine Ob.e ?_ | refine Ob.m ?_ | refine Ob.mk (Nat.le_of_ble_eq_true rfl) ?_ | refine JoinVC.on ?_ | refine Nils.mk (fun h => ?_) ?_ | refine Val.t ?_ | refine Val.d ?_ | refine Mm.mk ?_ | (refine Br.mk (fun h => ?_) (fun h => ?_) <;> first | (exfalso; omega; done) | (exfalso; simp at h; done) | skip))
            conv => whnf
            rw [g1]
            refine Back.mk ((S.p j).pa + 1).toNat _ (by omega) ⟨(S.p j).pa, xs ++ [j], hpa'.1, by omega, hx', rfl, rfl⟩ ?_
            rw [w0, w1, w2, w3, wL]
            refine ⟨[some 0, some 1, some 2, some 3, some 4, some 5, some 6, some 7, some 8, some 9, some 10, some 11, some 12, some 13], rfl, rfl, ?_, ?_⟩ <;> repeat' (first | exact trivial | exact rfl | exact Iff.rfl | apply And.intro)
          · have hret' : (S.q k).ret = false := Bool.eq_false_iff.2 hret
            rw [show (S.pl.getD k p0).ret = false from hret'] at g6
            have wL : partL S j k (xs ++ [j]) = partL S j k xs + 1 := (partL_hit hjx hjk).trans (by rw [if_pos ⟨hq, hret'⟩])
            repeat' ((conv => whnf); first | refine Rng.g ?_ | refine Ob.g ?_ | refine Ob.e ?_ | refine Ob.m ?_ | refine Ob.mk (Nat.le_of_ble_eq_true rfl) ?_ | refine JoinVC.on ?_ | refine Nils.mk (fun h => ?_) ?_ | refine Val.t ?_ | refine Val.d ?_ | refine Mm.mk ?_ | refine YieldVC.mk (rsem_of_awp pMix [(14, ([], [⟨0, [], []⟩, ⟨1, [], []⟩, ⟨2, [], []⟩, ⟨3, [], []⟩, ⟨4, [], []⟩, ⟨5, [], []⟩, ⟨6, [], []⟩, ⟨7, [], []⟩, ⟨8, [], []⟩, ⟨9, [0, 1, 2, 3, 4, 5, 6], []⟩, ⟨10, [], []⟩, ⟨11, [], []⟩, ⟨12, [], []⟩]))] rfl (by kernel_rfl) ?_) | (refine Br.mk (fun h => ?_) (fun h => ?_) <;> first | (exfalso; omega; done) | (exfalso; simp at h; done) | skip))
            rw [g0]
            repeat' ((conv => whnf); first | refine Rng.g ?_ | refine Ob.g ?_ | refine Ob.e ?_ | refine Ob.m ?_ | refine Ob.mk (Nat.le_of_ble_eq_true rfl) ?_ | refine JoinVC.on ?_ | refine Nils.mk (fun h => ?_) ?_ | refine Val.t ?_ | refine Val.d ?_ | refine Mm.mk ?_ | (refine Br.mk (fun h => ?_) (fun h => ?_) <;> first | (exfalso; omega; done) | (exfalso; simp at h; done) | skip))
            conv => whnf
            first | refine CallVC.mk [0, 1, 2, 3, 4, 5] _ _ _ rfl rfl rfl (c70) (fun r m' h' => ?_) | refine CallVC0.same [0, 1, 2, 3, 4, 5] _ _ _ rfl rfl rfl rfl (c70) (fun r m' h' => (by obtain ⟨rfl, rfl⟩ := h'; rfl)) (fun r m' h' => ?_) | (refine CallVC0.rows [0, 1, 2, 3, 4, 5] _ _ _ rfl rfl rfl ?_ (c70) (fun r m' h' => (by obtain ⟨rfl, rfl⟩ := h'; rfl)) (fun r m' h' => ?_); · (repeat' ((conv => whnf); first | exact trivial | exact rfl | exact Nat.le_refl _ | apply And.intro)))
            obtain ⟨rfl, rfl⟩ := h'
            conv => whnf
            repeat' ((conv => whnf); first | rw [g6] | refine Rng.g ?_ | refine Ob.g ?_ | refine Ob.e ?_ | refine Ob.m ?_ | refine Ob.mk (Nat.le_of_ble_eq_true rfl) ?_ | refine JoinVC.on ?_ | refine Nils.mk (fun h => ?_) ?_ | refine Val.t ?_ | refine Val.d ?_ | refine Mm.mk ?_ | (refine Br.mk (fun h => ?_) (fun h => ?_) <;> first | (exfalso; omega; done) | (exfalso; simp at h; done) | skip))
            conv => whnf
            rw [g1]
            refine Back.mk ((S.p j).pa + 1).toNat _ (by omega) ⟨(S.p j).pa, xs ++ [j], hpa'.1, by omega, hx', rfl, rfl⟩ ?_
            rw [w0, w1, w2, w3, wL]
            refine ⟨[some 0, some 1, some 2, some 3, some 4, some 5, some 6, some 7, some 8, some 9, some 10, some 11, some 12, some 13], rfl, rfl, ?_, ?_⟩ <;> repeat' (first | exact trivial | exact rfl | exact Iff.rfl | apply And.intro)
            omega
      · repeat' ((conv => whnf); first | rw [g1] | refine Rng.g ?_ | refine Ob.g ?_ | refine Ob.e ?_ | refine Ob.m ?_ | refine Ob.mk (Nat.le_of_ble_eq_true rfl) ?_ | refine JoinVC.on ?_ | refine Nils.mk (fun h => ?_) ?_ | refine Val.t ?_ | refine Val.d ?_ | refine Mm.mk ?_ | refine YieldVC.mk (rsem_of_awp pMix [(14, ([], [⟨0, [], []⟩, ⟨1, [], []⟩, ⟨2, [], []⟩, ⟨3, [], []⟩, ⟨4, [], []⟩, ⟨5, [], []⟩, ⟨6, [], []⟩, ⟨7, [], []⟩, ⟨8, [], []⟩, ⟨9, [0, 1, 2, 3, 4, 5, 6], []⟩, ⟨10, [], []⟩, ⟨11, [], []⟩, ⟨12, [], []⟩]))] rfl (by kernel_rfl) ?_) | (refine Br.mk (fun h => ?_) (fun h => ?_) <;> first | (exfalso; omega; done) | (exfalso; simp at h; done) | skip))
        refine Back.mk ((S.p j).pa + 1).toNat _ (by omega) ⟨(S.p j).pa, xs ++ [j], hpa'.1, by omega, hx', rfl, rfl⟩ ?_
        rw [partR_skip S i 0 k xs hji, partR_skip S i 1 k xs hji, partR_skip S i 2 k xs hji, partR_skip S i 3 k xs hji, partL_skip S i k xs hji]
        refine ⟨[some 0, some 1, some 2, some 3, some 4, some 5, some 6, some 7, some 8, some 9, some 10, some 11, some 12, some 13], rfl, rfl, ?_, ?_⟩ <;> repeat' (first | exact trivial | exact rfl | exact Iff.rfl | apply And.intro)
    · rw [up_neg h0, List.append_nil] at hx
      subst hx
      repeat' ((conv => whnf); first | refine Rng.g ?_ | refine Ob.g ?_ | refine Ob.e ?_ | refine Ob.m ?_ | refine Ob.mk (Nat.le_of_ble_eq_true rfl) ?_ | refine JoinVC.on ?_ | refine Nils.mk (fun h => ?_) ?_ | refine Val.t ?_ | refine Val.d ?_ | refine Mm.mk ?_ | (refine Br.mk (fun h => ?_) (fun h => ?_) <;> first | (exfalso; omega; done) | (exfalso; simp at h; done) | skip))
      refine Back.mk (S.pl.length - (k + 1)) _ (by omega) ⟨k + 1, by omega, rfl, rfl⟩ ?_
      rw [partR_end, partR_end, partR_end, partR_end, partL_end]
      refine ⟨[some 0, some 1, some 2, some 3, some 4, some 5, some 6, some 7, some 8, some 9], rfl, rfl, ?_, ?_⟩ <;> repeat' (first | exact trivial | exact rfl | exact Iff.rfl | apply And.intro)
  · obtain rfl : k = S.pl.length := by omega
    have qr := needR_B hS i 0 S.pl.length
    have q1 := needR_B hS i 1 S.pl.length
    have q2 := needR_B hS i 2 S.pl.length
    have qL := needL_B S i S.pl.length
    have hmo := hS.r.mo
    have hsp := hS.r.sp
    have n3 : 0 ≤ need3 S i n ∧ need3 S i n ≤ 256 := by unfold need3; split <;> omega
    have n2 : 0 ≤ need2 S i n ∧ need2 S i n ≤ 256 := lackI_B n3 q2.1 hsp.1
    have n1 : 0 ≤ need1 S i n ∧ need1 S i n ≤ 256 := lackI_B n2 q1.1 hmo.1
    have c2 : PSpec Try.prog 71 [I (if 0 < n - needL S i S.pl.length then n - needL S i S.pl.length else 0), I (needR S i 2 S.pl.length), I S.r.sp] (.x (I (need2 S i n))) := s71 (need3 S i n) _ _ (by omega) (by omega) hsp
    have c1 : PSpec Try.prog 71 [I (need2 S i n), I (needR S i 1 S.pl.length), I S.r.mo] (.x (I (need1 S i n))) := s71 (need2 S i n) _ _ (by omega) (by omega) hmo
    have e3 : (if 0 < n - needL S i S.pl.length then n - needL S i S.pl.length else 0) = need3 S i n := rfl
    by_cases he : needR S i 0 S.pl.length < need1 S i n
    · have hE : needE S i n = 15 := by unfold needE; rw [if_neg (fun hc => hc hin), if_neg (by omega), if_pos he]
      have hN : needN S i n = 0 := by unfold needN; rw [if_neg (by omega)]
      rw [hN, hE]
      repeat' ((conv => whnf); first | refine Rng.g ?_ | refine Ob.g ?_ | refine Ob.e ?_ | refine Ob.m ?_ | refine Ob.mk (Nat.le_of_ble_eq_true rfl) ?_ | refine JoinVC.on ?_ | refine Nils.mk (fun h => ?_) ?_ | refine Val.t ?_ | refine Val.d ?_ | refine Mm.mk ?_ | refine CallVC.pure rfl (c2) ?_ | refine CallVC.pure rfl (c1) ?_ | refine CallVC0.pure rfl (c2) ?_ | refine CallVC0.pure rfl (c1) ?_ | (refine Br.mk (fun h => ?_) (fun h => ?_) <;> first | (exfalso; omega; done) | (exfalso; simp at h; done) | skip))
      repeat refine Mm.mk ?_
      refine EndVC.mk _ rfl _ _ ⟨rfl, rfl⟩ ?_
      refine ⟨[some 0, some 1, some 2, some 3, some 4, some 5], rfl, rfl, ?_, ?_⟩ <;> repeat' (first | exact trivial | exact rfl | exact Iff.rfl | apply And.intro)
    · have hE : needE S i n = 0 := by unfold needE; rw [if_neg (fun hc => hc hin), if_neg (by omega), if_neg he]
      have hN : needN S i n = need3 S i n + need2 S i n + need1 S i n := by unfold needN; rw [if_pos hE]
      rw [hN, hE]
      repeat' ((conv => whnf); first | rw [e3] | refine Rng.g ?_ | refine Ob.g ?_ | refine Ob.e ?_ | refine Ob.m ?_ | refine Ob.mk (Nat.le_of_ble_eq_true rfl) ?_ | refine JoinVC.on ?_ | refine Nils.mk (fun h => ?_) ?_ | refine Val.t ?_ | refine Val.d ?_ | refine Mm.mk ?_ | refine CallVC.pure rfl (c2) ?_ | refine CallVC.pure rfl (c1) ?_ | refine CallVC0.pure rfl (c2) ?_ | refine CallVC0.pure rfl (c1) ?_ | (refine Br.mk (fun h => ?_) (fun h => ?_) <;> first | (exfalso; omega; done) | (exfalso; simp at h; done) | skip))
      repeat refine Mm.mk ?_
      refine EndVC.mk _ rfl _ _ ⟨rfl, rfl⟩ ?_
      refine ⟨[some 0, some 1, some 2, some 3, some 4, some 5], rfl, rfl, ?_, ?_⟩ <;> repeat' (first | exact trivial | exact rfl | exact Iff.rfl | apply And.intro)
theorem s26_no (S : Sho) (ms : List MS) (i n : Int) (h : ¬ inP S i) : HSpec Try.prog 26 [.one (.ptr 0 0), I i, I n] (shM S ms) (fun r m' => r = .tup [I (needN S i n), I (needE S i n)] ∧ m' = shK S ms) := by
  have c53 := s53 S ms
  have c63 := s63 S ms i
  rw [getR, if_neg h] at c63
  have hE : needE S i n = 5 := by unfold needE; rw [if_pos h]
  have hN : needN S i n = 0 := by unfold needN; rw [if_neg (by omega)]
  rw [hN, hE]
  refine spec_of pMix (O := [(14, ([], [⟨0, [], []⟩, ⟨1, [], []⟩, ⟨2, [], []⟩, ⟨3, [], []⟩, ⟨4, [], []⟩, ⟨5, [], []⟩, ⟨6, [], []⟩, ⟨7, [], []⟩, ⟨8, [], []⟩, ⟨9, [0, 1, 2, 3, 4, 5, 6], []⟩, ⟨10, [], []⟩, ⟨11, [], []⟩, ⟨12, [], []⟩]))]) Try.func26 (c := bodyOf Try.f26) rfl (by kernel_rfl) (by kernel_rfl) Try.ntmps26 (res := [.tmp 6, .tmp 7]) (by kernel_rfl) ?_
  repeat' ((conv => whnf); first | refine Rng.g ?_ | refine Ob.g ?_ | refine Ob.e ?_ | refine Ob.m ?_ | refine Ob.mk (Nat.le_of_ble_eq_true rfl) ?_ | refine JoinVC.on ?_ | refine Nils.mk (fun h => ?_) ?_ | refine Val.t ?_ | refine Val.d ?_ | refine Mm.mk ?_ | (refine Br.mk (fun h => ?_) (fun h => ?_) <;> first | (exfalso; omega; done) | (exfalso; simp at h; done) | skip))
  conv => whnf
  first | refine CallVC.mk [0, 1, 2, 3, 4, 5] _ _ _ rfl rfl rfl (c53) (fun r m' h' => ?_) | refine CallVC0.same [0, 1, 2, 3, 4, 5] _ _ _ rfl rfl rfl rfl (c53) (fun r m' h' => (by obtain ⟨rfl, rfl⟩ := h'; rfl)) (fun r m' h' => ?_) | (refine CallVC0.rows [0, 1, 2, 3, 4, 5] _ _ _ rfl rfl rfl ?_ (c53) (fun r m' h' => (by obtain ⟨rfl, rfl⟩ := h'; rfl)) (fun r m' h' => ?_); · (repeat' ((conv => whnf); first | exact trivial | exact rfl | exact Nat.le_refl _ | apply And.intro)))
  obtain ⟨rfl, rfl⟩ := h'
  conv => whnf
  repeat' ((conv => whnf); first | refine Rng.g ?_ | refine Ob.g ?_ | refine Ob.e ?_ | refine Ob.m ?_ | refine Ob.mk (Nat.le_of_ble_eq_true rfl) ?_ | refine JoinVC.on ?_ | refine Nils.mk (fun h => ?_) ?_ | refine Val.t ?_ | refine Val.d ?_ | refine Mm.mk ?_ | (refine Br.mk (fun h => ?_) (fun h => ?_) <;> first | (exfalso; omega; done) | (exfalso; simp at h; done) | skip))
  conv => whnf
  first | refine CallVC.mk [0, 1, 2, 3, 4, 5] _ _ _ rfl rfl rfl (c63) (fun r m' h' => ?_) | refine CallVC0.same [0, 1, 2, 3, 4, 5] _ _ _ rfl rfl rfl rfl (c63) (fun r m' h' => (by obtain ⟨rfl, rfl⟩ := h'; rfl)) (fun r m' h' => ?_) | (refine CallVC0.rows [0, 1, 2, 3, 4, 5] _ _ _ rfl rfl rfl ?_ (c63) (fun r m' h' => (by obtain ⟨rfl, rfl⟩ := h'; rfl)) (fun r m' h' => ?_); · (repeat' ((conv => whnf); first | exact trivial | exact rfl | exact Nat.le_refl _ | apply And.intro)))
  obtain ⟨rfl, rfl⟩ := h'
  conv => whnf
  repeat' ((conv => whnf); first | refine Rng.g ?_ | refine Ob.g ?_ | refine Ob.e ?_ | refine Ob.m ?_ | refine Ob.mk (Nat.le_of_ble_eq_true rfl) ?_ | refine JoinVC.on ?_ | refine Nils.mk (fun h => ?_) ?_ | refine Val.t ?_ | refine Val.d ?_ | refine Mm.mk ?_ | (refine Br.mk (fun h => ?_) (fun h => ?_) <;> first | (exfalso; omega; done) | (exfalso; simp at h; done) | skip))
  repeat refine Mm.mk ?_
  refine EndVC.mk _ rfl _ _ ⟨rfl, rfl⟩ ?_
  refine ⟨[some 0, some 1, some 2, some 3, some 4, some 5], rfl, rfl, ?_, ?_⟩ <;> repeat' (first | exact trivial | exact rfl | exact Iff.rfl | apply And.intro)
theorem s26_far (S : Sho) (ms : List MS) (i n : Int) (h : inP S i) (hn : n < 0 ∨ 256 < n) : HSpec Try.prog 26 [.one (.ptr 0 0), I i, I n] (shM S ms) (fun r m' => r = .tup [I (needN S i n), I (needE S i n)] ∧ m' = shK S ms) := by
  have c53 := s53 S ms
  have c63 := s63 S ms i
  rw [getR, if_pos h] at c63
  have hE : needE S i n = 3 := by unfold needE; rw [if_neg (fun hc => hc h), if_pos hn]
  have hN : needN S i n = 0 := by unfold needN; rw [if_neg (by omega)]
  rw [hN, hE]
  refine spec_of pMix (O := [(14, ([], [⟨0, [], []⟩, ⟨1, [], []⟩, ⟨2, [], []⟩, ⟨3, [], []⟩, ⟨4, [], []⟩, ⟨5, [], []⟩, ⟨6, [], []⟩, ⟨7, [], []⟩, ⟨8, [], []⟩, ⟨9, [0, 1, 2, 3, 4, 5, 6], []⟩, ⟨10, [], []⟩, ⟨11, [], []⟩, ⟨12, [], []⟩]))]) Try.func26 (c := bodyOf Try.f26) rfl (by kernel_rfl) (by kernel_rfl) Try.ntmps26 (res := [.tmp 6, .tmp 7]) (by kernel_rfl) ?_
  repeat' ((conv => whnf); first | refine Rng.g ?_ | refine Ob.g ?_ | refine Ob.e ?_ | refine Ob.m ?_ | refine Ob.mk (Nat.le_of_ble_eq_true rfl) ?_ | refine JoinVC.on ?_ | refine Nils.mk (fun h => ?_) ?_ | refine Val.t ?_ | refine Val.d ?_ | refine Mm.mk ?_ | (refine Br.mk (fun h => ?_) (fun h => ?_) <;> first | (exfalso; omega; done) | (exfalso; simp at h; done) | skip))
  conv => whnf
  first | refine CallVC.mk [0, 1, 2, 3, 4, 5] _ _ _ rfl rfl rfl (c53) (fun r m' h' => ?_) | refine CallVC0.same [0, 1, 2, 3, 4, 5] _ _ _ rfl rfl rfl rfl (c53) (fun r m' h' => (by obtain ⟨rfl, rfl⟩ := h'; rfl)) (fun r m' h' => ?_) | (refine CallVC0.rows [0, 1, 2, 3, 4, 5] _ _ _ rfl rfl rfl ?_ (c53) (fun r m' h' => (by obtain ⟨rfl, rfl⟩ := h'; rfl)) (fun r m' h' => ?_); · (repeat' ((conv => whnf); first | exact trivial | exact rfl | exact Nat.le_refl _ | apply And.intro)))
  obtain ⟨rfl, rfl⟩ := h'
  conv => whnf
  repeat' ((conv => whnf); first | refine Rng.g ?_ | refine Ob.g ?_ | refine Ob.e ?_ | refine Ob.m ?_ | refine Ob.mk (Nat.le_of_ble_eq_true rfl) ?_ | refine JoinVC.on ?_ | refine Nils.mk (fun h => ?_) ?_ | refine Val.t ?_ | refine Val.d ?_ | refine Mm.mk ?_ | (refine Br.mk (fun h => ?_) (fun h => ?_) <;> first | (exfalso; omega; done) | (exfalso; simp at h; done) | skip))
  conv => whnf
  first | refine CallVC.mk [0, 1, 2, 3, 4, 5] _ _ _ rfl rfl rfl (c63) (fun r m' h' => ?_) | refine CallVC0.same [0, 1, 2, 3, 4, 5] _ _ _ rfl rfl rfl rfl (c63) (fun r m' h' => (by obtain ⟨rfl, rfl⟩ := h'; rfl)) (fun r m' h' => ?_) | (refine CallVC0.rows [0, 1, 2, 3, 4, 5] _ _ _ rfl rfl rfl ?_ (c63) (fun r m' h' => (by obtain ⟨rfl, rfl⟩ := h'; rfl)) (fun r m' h' => ?_); · (repeat' ((conv => whnf); first | exact trivial | exact rfl | exact Nat.le_refl _ | apply And.intro)))
  obtain ⟨rfl, rfl⟩ := h'
  conv => whnf
  repeat' ((conv => whnf); first | refine Rng.g ?_ | refine Ob.g ?_ | refine Ob.e ?_ | refine Ob.m ?_ | refine Ob.mk (Nat.le_of_ble_eq_true rfl) ?_ | refine JoinVC.on ?_ | refine Nils.mk (fun h => ?_) ?_ | refine Val.t ?_ | refine Val.d ?_ | refine Mm.mk ?_ | (refine Br.mk (fun h => ?_) (fun h => ?_) <;> first | (exfalso; omega; done) | (exfalso; simp at h; done) | skip))
  all_goals
    repeat refine Mm.mk ?_
    refine EndVC.mk _ rfl _ _ ⟨rfl, rfl⟩ ?_
    refine ⟨[some 0, some 1, some 2, some 3, some 4, some 5], rfl, rfl, ?_, ?_⟩ <;> repeat' (first | exact trivial | exact rfl | exact Iff.rfl | apply And.intro)
theorem s26 (S : Sho) (ms : List MS) (hS : ShOK S) (i n : Int) : HSpec Try.prog 26 [.one (.ptr 0 0), I i, I n] (shM S ms) (fun r m' => r = .tup [I (needN S i n), I (needE S i n)] ∧ m' = shK S ms) := by
  by_cases h : inP S i
  · by_cases hn : n < 0 ∨ 256 < n
    · exact s26_far S ms i n h hn
    · exact s26_ok S ms hS i n h (by omega)
  · exact s26_no S ms i n h
end Go.Sx

namespace Go.Sx
open Go Go.Proofs
set_option maxRecDepth 10000
set_option maxHeartbeats 8000000
/-! ### Replaying -/
/-- The shop after the first acts. -/
def repS (S : Sho) (l : List Act2) : Nat → Sho
  | 0 => S
  | i + 1 => doS (repS S l i) (l.getD i ac0)
theorem ShOK.repS {S : Sho} (hS : ShOK S) (l : List Act2) : ∀ i, ShOK (Go.Sx.repS S l i)
  | 0 => hS
  | i + 1 => ShOK.doS (ShOK.repS hS l i) _
def goodTo (S : Sho) (l : List Act2) (i : Nat) : Prop := ∀ j, j < i → doE (repS S l j) (l.getD j ac0) = 0
theorem goodTo.succ {S : Sho} {l : List Act2} {i : Nat} (h : goodTo S l i) (he : doE (repS S l i) (l.getD i ac0) = 0) : goodTo S l (i + 1) := fun j hj => by
  rcases Nat.lt_succ_iff_lt_or_eq.1 hj with h1 | rfl
  · exact h j h1
  · exact he
inductive RepR (r : Rcp) (l : List Act2) (v : AV) (m' : List (Option Blk)) : Prop
  | bad (h : ¬ RcpOK r) (hv : v = .tup [.one .nilp, I 0, I 2]) (hm : m' = [])
  | err (h : RcpOK r) (i : Nat) (hi : i < l.length) (hg : goodTo (shop0 r) l i) (e : Int) (he : doE (repS (shop0 r) l i) (l.getD i ac0) = e) (h0 : e ≠ 0) (hv : v = .tup [.one .nilp, I (i : Int), I e]) (hm : m' = [])
  | ok (h : RcpOK r) (hg : goodTo (shop0 r) l l.length) (ms : List MS) (hM : MsOK ms (repS (shop0 r) l l.length).be) (hv : v = .tup [.one (.ptr 0 0), I (l.length : Int), I 0]) (hm : m' = shK (repS (shop0 r) l l.length) ms)
theorem doS_r (S : Sho) (a : Act2) : (doS S a).r = S.r := by
  unfold doS
  split
  · unfold actS
    (repeat' split) <;> rfl
  · rfl
section
variable (l : List Act2) (i : Nat)
theorem ac_0 : rI (acA l) i 0 = (l.getD i ac0).kd := map_rI acC ac0 l i 0 rfl
theorem ac_1 : rI (acA l) i ((0 + 1)) = (l.getD i ac0).cut := map_rI acC ac0 l i 1 rfl
theorem ac_2 : rI (acA l) i ((0 + 1 + 1)) = (l.getD i ac0).area := map_rI acC ac0 l i 2 rfl
theorem ac_3 : rI (acA l) i ((0 + 1 + 1 + 1)) = (l.getD i ac0).stock := map_rI acC ac0 l i 3 rfl
theorem ac_4 : rI (acA l) i ((0 + 1 + 1 + 1 + 1)) = (l.getD i ac0).yd := map_rI acC ac0 l i 4 rfl
theorem ac_5 : rI (acA l) i ((0 + 1 + 1 + 1 + 1 + 1)) = (l.getD i ac0).plate := map_rI acC ac0 l i 5 rfl
theorem ac_6 : rI (acA l) i ((0 + 1 + 1 + 1 + 1 + 1 + 1)) = (l.getD i ac0).bath := map_rI acC ac0 l i 6 rfl
theorem ac_7 : rI (acA l) i ((0 + 1 + 1 + 1 + 1 + 1 + 1 + 1)) = (l.getD i ac0).s0 := map_rI acC ac0 l i 7 rfl
theorem ac_8 : rI (acA l) i ((0 + 1 + 1 + 1 + 1 + 1 + 1 + 1 + 1)) = (l.getD i ac0).s1 := map_rI acC ac0 l i 8 rfl
theorem ac_9 : rI (acA l) i ((0 + 1 + 1 + 1 + 1 + 1 + 1 + 1 + 1 + 1)) = (l.getD i ac0).cur := map_rI acC ac0 l i 9 rfl
theorem ac_10 : rI (acA l) i ((0 + 1 + 1 + 1 + 1 + 1 + 1 + 1 + 1 + 1 + 1)) = (l.getD i ac0).sec := map_rI acC ac0 l i 10 rfl
theorem ac_11 : rI (acA l) i ((0 + 1 + 1 + 1 + 1 + 1 + 1 + 1 + 1 + 1 + 1 + 1)) = (l.getD i ac0).place := map_rI acC ac0 l i 11 rfl
theorem ac_12 : rI (acA l) i ((0 + 1 + 1 + 1 + 1 + 1 + 1 + 1 + 1 + 1 + 1 + 1 + 1)) = (l.getD i ac0).flaw := map_rI acC ac0 l i 12 rfl
end
/-- What is read at once of an act in a list. -/
@[reducible] def acX (A : Arr) (i : Nat) : XV := .agg [i6 (rI A i 0), i6 (rI A i ((0 + 1))), i6 (rI A i ((0 + 1 + 1))), i6 (rI A i ((0 + 1 + 1 + 1))), i6 (rI A i ((0 + 1 + 1 + 1 + 1))), i6 (rI A i ((0 + 1 + 1 + 1 + 1 + 1))), i6 (rI A i ((0 + 1 + 1 + 1 + 1 + 1 + 1))), i6 (rI A i ((0 + 1 + 1 + 1 + 1 + 1 + 1 + 1))), i6 (rI A i ((0 + 1 + 1 + 1 + 1 + 1 + 1 + 1 + 1))), i6 (rI A i ((0 + 1 + 1 + 1 + 1 + 1 + 1 + 1 + 1 + 1))), i6 (rI A i ((0 + 1 + 1 + 1 + 1 + 1 + 1 + 1 + 1 + 1 + 1))), i6 (rI A i ((0 + 1 + 1 + 1 + 1 + 1 + 1 + 1 + 1 + 1 + 1 + 1))), i6 (rI A i ((0 + 1 + 1 + 1 + 1 + 1 + 1 + 1 + 1 + 1 + 1 + 1 + 1)))]
theorem acX_eq (l : List Act2) (i : Nat) : acX (acA l) i = (l.getD i ac0).x := by
  unfold acX
  rw [ac_0, ac_1, ac_2, ac_3, ac_4, ac_5, ac_6, ac_7, ac_8, ac_9, ac_10, ac_11, ac_12]
theorem s34_no (r : Rcp) (l : List Act2) (hr : ¬ RcpOK r) : HSpec Try.prog 34 [r.x, .one (.lst true KAc (acA l))] [] (RepR r l) := by
  have c20 := s20_no r hr
  refine spec_of pMix (O := []) Try.func34 (c := bodyOf Try.f34) rfl (by kernel_rfl) (by kernel_rfl) Try.ntmps34 (res := [.tmp 4, .tmp 5, .tmp 6]) (by kernel_rfl) ?_
  repeat' ((conv => whnf); first | refine Rng.g ?_ | refine Ob.g ?_ | refine Ob.e ?_ | refine Ob.m ?_ | refine Ob.mk (Nat.le_of_ble_eq_true rfl) ?_ | refine JoinVC.on ?_ | refine Nils.mk (fun h => ?_) ?_ | refine Val.t ?_ | refine Val.d ?_ | refine Mm.mk ?_ | (refine Br.mk (fun h => ?_) (fun h => ?_) <;> first | (exfalso; omega; done) | (exfalso; simp at h; done) | skip))
  conv => whnf
  first | refine CallVC.mk [] _ _ _ rfl rfl rfl (c20) (fun r m' h' => ?_) | refine CallVC0.same [] _ _ _ rfl rfl rfl rfl (c20) (fun r m' h' => (by obtain ⟨rfl, rfl⟩ := h'; rfl)) (fun r m' h' => ?_) | (refine CallVC0.rows [] _ _ _ rfl rfl rfl ?_ (c20) (fun r m' h' => (by obtain ⟨rfl, rfl⟩ := h'; rfl)) (fun r m' h' => ?_); · (repeat' ((conv => whnf); first | exact trivial | exact rfl | exact Nat.le_refl _ | apply And.intro)))
  obtain ⟨rfl, rfl⟩ := h'
  conv => whnf
  repeat' ((conv => whnf); first | refine Rng.g ?_ | refine Ob.g ?_ | refine Ob.e ?_ | refine Ob.m ?_ | refine Ob.mk (Nat.le_of_ble_eq_true rfl) ?_ | refine JoinVC.on ?_ | refine Nils.mk (fun h => ?_) ?_ | refine Val.t ?_ | refine Val.d ?_ | refine Mm.mk ?_ | (refine Br.mk (fun h => ?_) (fun h => ?_) <;> first | (exfalso; omega; done) | (exfalso; simp at h; done) | skip))
  repeat refine Mm.mk ?_
  conv => whnf
  refine EndVC.mk _ rfl _ _ (.bad hr rfl rfl) ?_
  refine ⟨[], rfl, rfl, ?_, ?_⟩ <;> repeat' (first | exact trivial | exact rfl | exact Iff.rfl | apply And.intro)
theorem s34_ok (r : Rcp) (l : List Act2) (hr : RcpOK r) (hl : l.length ≤ 1000000) : HSpec Try.prog 34 [r.x, .one (.lst true KAc (acA l))] [] (RepR r l) := by
  have c20 := s20 r hr
  have ll := acA_len l
  have hS := ShOK.repS (ShOK.new hr) l
  refine spec_of pMix (O := []) Try.func34 (c := bodyOf Try.f34) rfl (by kernel_rfl) (by kernel_rfl) Try.ntmps34 (res := [.tmp 4, .tmp 5, .tmp 6]) (by kernel_rfl) ?_
  repeat' ((conv => whnf); first | refine Rng.g ?_ | refine Ob.g ?_ | refine Ob.e ?_ | refine Ob.m ?_ | refine Ob.mk (Nat.le_of_ble_eq_true rfl) ?_ | refine JoinVC.on ?_ | refine Nils.mk (fun h => ?_) ?_ | refine Val.t ?_ | refine Val.d ?_ | refine Mm.mk ?_ | (refine Br.mk (fun h => ?_) (fun h => ?_) <;> first | (exfalso; omega; done) | (exfalso; simp at h; done) | skip))
  conv => whnf
  first | refine CallVC.mk [] _ _ _ rfl rfl rfl (c20) (fun r m' h' => ?_) | refine CallVC0.same [] _ _ _ rfl rfl rfl rfl (c20) (fun r m' h' => (by obtain ⟨rfl, rfl⟩ := h'; rfl)) (fun r m' h' => ?_) | (refine CallVC0.rows [] _ _ _ rfl rfl rfl ?_ (c20) (fun r m' h' => (by obtain ⟨rfl, rfl⟩ := h'; rfl)) (fun r m' h' => ?_); · (repeat' ((conv => whnf); first | exact trivial | exact rfl | exact Nat.le_refl _ | apply And.intro)))
  obtain ⟨rfl, rfl⟩ := h'
  conv => whnf
  repeat' ((conv => whnf); first | refine Rng.g ?_ | refine Ob.g ?_ | refine Ob.e ?_ | refine Ob.m ?_ | refine Ob.mk (Nat.le_of_ble_eq_true rfl) ?_ | refine JoinVC.on ?_ | refine Nils.mk (fun h => ?_) ?_ | refine Val.t ?_ | refine Val.d ?_ | refine Mm.mk ?_ | (refine Br.mk (fun h => ?_) (fun h => ?_) <;> first | (exfalso; omega; done) | (exfalso; simp at h; done) | skip))
  refine LoopVC.mk (fun n st => ∃ (i : Nat) (ms : List MS), i ≤ l.length ∧ goodTo (shop0 r) l i ∧ MsOK ms (repS (shop0 r) l i).be ∧ n = l.length - i ∧ st = ⟨0, envA 42 [(1, .x (.one (.lst true KAc (acA l)))), (7, .x (.one (.ptr 0 0))), (21, .x (.one (.lst true KAc (acA l)))), (22, .int .i64 (l.length : Int)), (23, .int .i64 (i : Int))], shK (repS (shop0 r) l i) ms⟩) _ _ ⟨0, [], Nat.zero_le _, fun j hj => absurd hj (Nat.not_lt_zero j), MsOK.new, rfl, rfl⟩ ?_ ?_
  · refine ⟨[some 1, some 2, some 3, some 4, some 5, some 6], rfl, rfl, ?_, ?_⟩ <;> repeat' (first | exact trivial | exact rfl | exact Iff.rfl | apply And.intro)
    all_goals first
      | exact congrArg Int.ofNat ll
      | rfl
  rintro n _ ⟨i, ms, hi, hg, hM, hn, rfl⟩
  by_cases h' : i < l.length
  · have c21 : HSpec Try.prog 21 [.one (.ptr 0 0), acX (acA l) (i : Int).toNat] (shM (repS (shop0 r) l i) ms) (DoR (repS (shop0 r) l i) (l.getD i ac0)) := by
      rw [Int.toNat_natCast, acX_eq]
      exact s21 _ ms (hS i) hM _
    repeat' ((conv => whnf); first | refine Rng.g ?_ | refine Ob.g ?_ | refine Ob.e ?_ | refine Ob.m ?_ | refine Ob.mk (Nat.le_of_ble_eq_true rfl) ?_ | refine JoinVC.on ?_ | refine Nils.mk (fun h => ?_) ?_ | refine Val.t ?_ | refine Val.d ?_ | refine Mm.mk ?_ | (refine Br.mk (fun h => ?_) (fun h => ?_) <;> first | (exfalso; omega; done) | (exfalso; simp at h; done) | skip))
    conv => whnf
    first | refine CallVC.mk [0, 1, 2, 3, 4, 5] _ _ _ rfl rfl rfl (c21) (fun r m' h' => ?_) | refine CallVC0.same [0, 1, 2, 3, 4, 5] _ _ _ rfl rfl rfl rfl (c21) (fun r m' h' => (by obtain ⟨ms', hM', rfl, rfl⟩ := h'; rfl)) (fun r m' h' => ?_) | (refine CallVC0.rows [0, 1, 2, 3, 4, 5] _ _ _ rfl rfl rfl ?_ (c21) (fun r m' h' => (by obtain ⟨ms', hM', rfl, rfl⟩ := h'; rfl)) (fun r m' h' => ?_); · (repeat' ((conv => whnf); first | exact trivial | exact rfl | exact Nat.le_refl _ | apply And.intro)))
    obtain ⟨ms', hM', rfl, rfl⟩ := h'
    conv => whnf
    repeat' ((conv => whnf); first | refine Rng.g ?_ | refine Ob.g ?_ | refine Ob.e ?_ | refine Ob.m ?_ | refine Ob.mk (Nat.le_of_ble_eq_true rfl) ?_ | refine JoinVC.on ?_ | refine Nils.mk (fun h => ?_) ?_ | refine Val.t ?_ | refine Val.d ?_ | refine Mm.mk ?_ | (refine Br.mk (fun h => ?_) (fun h => ?_) <;> first | (exfalso; omega; done) | (exfalso; simp at h; done) | skip))
    · repeat refine Mm.mk ?_
      conv => whnf
      refine EndVC.mk _ rfl _ _ (.err hr i h' hg _ rfl ‹_› rfl rfl) ?_
      refine ⟨[], rfl, rfl, ?_, ?_⟩ <;> repeat' (first | exact trivial | exact rfl | exact Iff.rfl | apply And.intro)
    · have he := Classical.not_not.1 ‹¬¬doE (repS (shop0 r) l i) (l.getD i ac0) = 0›
      refine Back.mk (l.length - (i + 1)) _ (by omega) ⟨i + 1, ms', by omega, hg.succ he, hM', rfl, rfl⟩ ?_
      refine ⟨[some 0, some 7, some 2, some 8, some 9, some 10], rfl, rfl, ?_, ?_⟩ <;> repeat' (first | exact trivial | exact rfl | exact Iff.rfl | apply And.intro)
  · obtain rfl : i = l.length := by omega
    repeat' ((conv => whnf); first | refine Rng.g ?_ | refine Ob.g ?_ | refine Ob.e ?_ | refine Ob.m ?_ | refine Ob.mk (Nat.le_of_ble_eq_true rfl) ?_ | refine JoinVC.on ?_ | refine Nils.mk (fun h => ?_) ?_ | refine Val.t ?_ | refine Val.d ?_ | refine Mm.mk ?_ | (refine Br.mk (fun h => ?_) (fun h => ?_) <;> first | (exfalso; omega; done) | (exfalso; simp at h; done) | skip))
    repeat refine Mm.mk ?_
    conv => whnf
    refine EndVC.mk _ rfl _ _ (.ok hr hg ms hM rfl rfl) ?_
    refine ⟨[some 0, some 1, some 2, some 3, some 4, some 5], rfl, rfl, ?_, ?_⟩ <;> repeat' (first | exact trivial | exact rfl | exact Iff.rfl | apply And.intro)
    exact congrArg Int.ofNat ll
theorem s34 (r : Rcp) (l : List Act2) (hl : l.length ≤ 1000000) : HSpec Try.prog 34 [r.x, .one (.lst true KAc (acA l))] [] (RepR r l) := by
  by_cases h : RcpOK r
  · exact s34_ok r l h hl
  · exact s34_no r l h
/-! ### Copies -/
structure Hist (S : Sho) : Prop where
  g : goodTo (shop0 S.r) S.ac S.ac.length
  e : repS (shop0 S.r) S.ac S.ac.length = S
theorem Hist.new (r : Rcp) : Hist (shop0 r) := ⟨fun j hj => absurd hj (Nat.not_lt_zero j), rfl⟩
theorem repS_app (S : Sho) (l m : List Act2) : ∀ i, i ≤ l.length → repS S (l ++ m) i = repS S l i
  | 0, _ => rfl
  | i + 1, hi => by
    unfold repS
    rw [repS_app S l m i (by omega), List.getD_eq_getElem?_getD, List.getD_eq_getElem?_getD, List.getElem?_append_left (by omega)]
theorem Hist.doS {S : Sho} (h : Hist S) (a : Act2) : Hist (Go.Sx.doS S a) := by
  by_cases h0 : doE S a = 0
  · have hr := doS_r S a
    have hac : (Go.Sx.doS S a).ac = S.ac ++ [a] := by unfold Go.Sx.doS; rw [if_pos h0]
    have hl : (S.ac ++ [a]).getD S.ac.length ac0 = a := by rw [getD_app, if_neg (by omega), if_pos rfl]
    have hrep : repS (shop0 S.r) (S.ac ++ [a]) S.ac.length = S := (repS_app _ _ _ _ (Nat.le_refl _)).trans h.e
    constructor
    · rw [hr, hac, List.length_append, List.length_singleton]
      intro j hj
      rcases Nat.lt_succ_iff_lt_or_eq.1 hj with h1 | rfl
      · rw [repS_app _ _ _ _ (by omega), getD_app, if_pos h1]
        exact h.g j h1
      · rw [hrep, hl]
        exact h0
    · rw [hr, hac, List.length_append, List.length_singleton]
      unfold repS
      rw [hrep, hl]
  · have e : Go.Sx.doS S a = S := by unfold Go.Sx.doS; rw [if_neg h0]
    rw [e]
    exact h
theorem Hist.repS {S : Sho} (hS : Hist S) (l : List Act2) : ∀ i, Hist (Go.Sx.repS S l i)
  | 0 => hS
  | i + 1 => Hist.doS (Hist.repS hS l i) _
end Go.Sx
