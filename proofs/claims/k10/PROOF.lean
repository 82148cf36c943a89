import PyProof.Rows.All
import HandS.ForMost
import HandS.Style
import HandS.Flow
import HandS.TupAny
import HandS.Wide
import HandS.Deep
import HandS.TupMul
import HandS.SortInts
import HandS.TupSets
import KE.KUnpack
import KE.GoesEnum
import HandS.Zip
import PyProof.Rows.ChunkLeaf
import HandS.Conv
import HandS.IsInst
import HandS.Defaults
import HandS.More
import HandS.WordsExc
import HandS.Head0
import HandS.Head1
import HandS.Head2
import HandS.HeadEnd
import HandS.HeadHook1
import HandS.HeadHook2
import KE.DataEq
import PyProof.Rows.StrJoinMade
import PyProof.StrLawsRepr
import PyProof.Rows.ReprOcc
import PySem.Challenge.RW_formspaces_k10_whole_main_far_rows
set_option Elab.async false
set_option linter.all false
set_option maxRecDepth 100000
set_option maxHeartbeats 4000000
/-! Q1: data, own syntax, the pure evaluator. -/
namespace Fz
open PySem

inductive D where
  | non | bl (b : Bool) | int (i : Int) | str (s : Str)
  | tup (ds : List D) | lst (ds : List D) | fl (ds : List D) | sc (ds : List D)
  | ref (k : Nat) | g (k : Nat)
  /-- a dict with texts as keys, never changed -/
  | dic (ks : List Str) (ds : List D)
  deriving Inhabited

inductive R (α : Type) where
  | ok (a : α) | exc (c : Str) (ds : List D) | err

def R.bd {α β : Type} (r : R α) (f : α → R β) : R β := match r with
  | .ok a => f a
  | .exc c ds => .exc c ds
  | .err => .err
@[simp] theorem R.bd_ok {α β : Type} (a : α) (f : α → R β) : (R.ok a).bd f = f a := .trans rfl rfl
@[simp] theorem R.bd_exc {α β : Type} (c ds) (f : α → R β) : (R.exc c ds : R α).bd f = .exc c ds := .trans rfl rfl
@[simp] theorem R.bd_err {α β : Type} (f : α → R β) : (R.err : R α).bd f = .err := .trans rfl rfl
def R.of {α : Type} : Option α → R α
  | some a => .ok a
  | none => .err
@[simp] theorem R.of_some {α : Type} (a : α) : R.of (some a) = .ok a := .trans rfl rfl
@[simp] theorem R.of_none {α : Type} : R.of (none : Option α) = .err := .trans rfl rfl

structure Wd where
  σ : List (Option D)
  m : List (List D)
  g : List (List D)

/-! ### equality of data, by structure -/
mutual
def deq : D → D → Bool
  | .non, .non => true
  | .bl a, .bl b => a == b
  | .int a, .int b => decide (a = b)
  | .str a, .str b => decide (a = b)
  | .tup a, .tup b => deqL a b
  | .lst a, .lst b => deqL a b
  | .fl a, .fl b => deqL a b
  | .sc a, .sc b => deqL a b
  | .ref a, .ref b => a == b
  | .g a, .g b => a == b
  | .dic ks a, .dic js b => decide (ks = js) && deqL a b
  | _, _ => false
def deqL : List D → List D → Bool
  | [], [] => true
  | x :: xs, y :: ys => deq x y && deqL xs ys
  | _, _ => false
end
mutual
theorem deq_refl : ∀ d : D, deq d d = true
  | .non => rfl
  | .bl b => by simp [deq]
  | .int _ => by simp [deq]
  | .str _ => by simp [deq]
  | .tup ds => by simpa [deq] using deqL_refl ds
  | .lst ds => by simpa [deq] using deqL_refl ds
  | .fl ds => by simpa [deq] using deqL_refl ds
  | .sc ds => by simpa [deq] using deqL_refl ds
  | .ref _ => by simp [deq]
  | .g _ => by simp [deq]
  | .dic ks ds => by simpa [deq] using deqL_refl ds
theorem deqL_refl : ∀ ds : List D, deqL ds ds = true
  | [] => rfl
  | x :: xs => by simp [deqL, deq_refl x, deqL_refl xs]
end
mutual
theorem deq_eq : ∀ d e : D, deq d e = true → d = e
  | .non, e, h => by cases e <;> first | rfl | (simp [deq] at h)
  | .bl b, e, h => by cases e <;> simp_all [deq]
  | .int b, e, h => by cases e <;> simp_all [deq]
  | .str b, e, h => by cases e <;> simp_all [deq]
  | .tup ds, e, h => by
    cases e with
    | tup es => rw [deqL_eq ds es (by simpa [deq] using h)]
    | _ => simp [deq] at h
  | .lst ds, e, h => by
    cases e with
    | lst es => rw [deqL_eq ds es (by simpa [deq] using h)]
    | _ => simp [deq] at h
  | .fl ds, e, h => by
    cases e with
    | fl es => rw [deqL_eq ds es (by simpa [deq] using h)]
    | _ => simp [deq] at h
  | .sc ds, e, h => by
    cases e with
    | sc es => rw [deqL_eq ds es (by simpa [deq] using h)]
    | _ => simp [deq] at h
  | .ref k, e, h => by cases e <;> simp_all [deq]
  | .g k, e, h => by cases e <;> simp_all [deq]
  | .dic ks ds, e, h => by
    cases e with
    | dic js es =>
      have h := (Bool.and_eq_true_iff.mp (show (decide (ks = js) && deqL ds es) = true by simpa [deq] using h))
      rw [deqL_eq ds es h.2, of_decide_eq_true h.1]
    | _ => simp [deq] at h
theorem deqL_eq : ∀ ds es : List D, deqL ds es = true → ds = es
  | [], es, h => by cases es <;> simp_all [deqL]
  | x :: xs, es, h => by
    cases es with
    | nil => simp [deqL] at h
    | cons y ys =>
      simp only [deqL, Bool.and_eq_true] at h
      rw [deq_eq x y h.1, deqL_eq xs ys h.2]
end

/-! ### looking at data -/
/-- a cell that is an own dict: one item, a .dic whose keys are no keys; its pairs, key and value -/
def isDc : List D → Bool
  | .dic ks _ :: _ => !decide ks.Nodup
  | _ => false
def dcl (es : List D) : List D := [.dic ["", ""] es]
def lsq (xs : List D) : Option (List D) := if isDc xs then none else some xs
def Wd.seq (w : Wd) : D → Option (List D)
  | .tup ds => some ds
  | .lst ds => some ds
  | .fl ds => some ds
  | .sc ds => some ds
  | .ref k => (w.m[k]?).bind lsq
  | .g k => w.g[k]?
  | _ => none
def isT : D → Bool
  | .tup _ => true
  | _ => false
/-- a list that stands tracked (no tuple, no frozen script) -/
def isL : D → Bool
  | .lst _ => true
  | .fl _ => true
  | .ref _ => true
  | .g _ => true
  | _ => false
/-- a text's, a list's .. truth -/
def Wd.tru (w : Wd) : D → Option Bool
  | .non => some false
  | .bl b => some b
  | .int i => some (i != 0)
  | .str s => if s.length ≤ 1000000 then some (s.length != 0) else none
  | d => (w.seq d).map fun xs => !xs.isEmpty

-- refs turned by ρ; φ: borrowed lists may stand
mutual
def rs (ρ : Nat → Option D) (φ : Bool) : D → Option D
  | .non => some .non
  | .bl b => some (.bl b)
  | .int i => some (.int i)
  | .str s => some (.str s)
  | .tup ds => (rsL ρ φ ds).map D.tup
  | .lst ds => (rsL ρ φ ds).map D.lst
  | .fl ds => if φ then (rsL ρ φ ds).map D.fl else none
  | .sc ds => if φ then (rsL ρ φ ds).map D.sc else none
  | .ref k => ρ k
  | .g k => some (.g k)
  | .dic ks ds => (rsL ρ φ ds).map (D.dic ks)
def rsL (ρ : Nat → Option D) (φ : Bool) : List D → Option (List D)
  | [] => some []
  | x :: xs => (rs ρ φ x).bind fun y => (rsL ρ φ xs).map fun ys => y :: ys
end
/-- refs from L on turned into what they hold -/
def up (mk : List D → D) (L : Nat) (m : List (List D)) (φ : Bool) : Nat → Nat → Option D
  | 0, k => if k < L then some (.ref k) else none
  | n + 1, k => if k < L then some (.ref k) else ((m[k]?).bind lsq).bind fun ds => (rsL (up mk L m φ n) φ ds).map mk
def lend (w : Wd) (d : D) : Option D := rs (up D.fl 0 w.m true 4) true d
def give (w : Wd) (d : D) : Option D := rs (up D.lst 0 w.m false 4) false d
def lendL (w : Wd) (ds : List D) : Option (List D) := rsL (up D.fl 0 w.m true 4) true ds
def keep (L : Nat) (m : List (List D)) : Nat → Option D := up D.lst L m true 4
def keepO (L : Nat) (m : List (List D)) : List (Option D) → Option (List (Option D))
  | [] => some []
  | none :: r => (keepO L m r).map fun xs => none :: xs
  | some d :: r => (rs (keep L m) true d).bind fun y => (keepO L m r).map fun xs => some y :: xs
def keepM (L : Nat) (m : List (List D)) : List (List D) → Option (List (List D))
  | [] => some []
  | x :: r => (rsL (keep L m) true x).bind fun y => (keepM L m r).map fun xs => y :: xs
/-- all own lists from L on are frozen -/
def Wd.gc (w : Wd) (L : Nat) : Option Wd :=
  (keepO L w.m w.σ).bind fun σ => (keepM L w.m (w.m.take L)).map fun m => { w with σ := σ, m := m }

-- as the model's data
mutual
def py (ρ γ : Nat → Option PyData) : D → Option PyData
  | .non => some .none
  | .bl b => some (.bool b)
  | .int i => some (.int i)
  | .str s => some (.str s)
  | .tup ds => (pyL ρ γ ds).map PyData.tuple
  | .lst ds => (pyL ρ γ ds).map PyData.list
  | .fl ds => (pyL ρ γ ds).map PyData.list
  | .sc ds => (pyL ρ γ ds).map PyData.list
  | .ref k => ρ k
  | .g k => γ k
  | .dic _ _ => none
def pyL (ρ γ : Nat → Option PyData) : List D → Option (List PyData)
  | [] => some []
  | x :: xs => (py ρ γ x).bind fun y => (pyL ρ γ xs).map fun ys => y :: ys
end
/-- own lists (b: true), shared ones (b: false), nested at most four deep -/
def pyR (w : Wd) : Nat → Bool → Nat → Option PyData
  | 0, _, _ => none
  | n + 1, b, k => ((if b then w.m[k]? else w.g[k]?).bind fun ds => (pyL (pyR w n true) (pyR w n false) ds).map PyData.list)
def Wd.py (w : Wd) (d : D) : Option PyData := Fz.py (pyR w 4 true) (pyR w 4 false) d

/-- what a shared list may hold -/
def gOk : D → Bool
  | .non => true
  | .bl _ => true
  | .int _ => true
  | .str _ => true
  | .g _ => true
  | _ => false
def mxLen : Nat := 1000000
def newL (md : Nat) (xs : List D) (w : Wd) : R (D × Wd) :=
  if xs.length ≤ mxLen then
    match md with
    | 0 => .ok (.lst xs, w)
    | 1 => .ok (.ref w.m.length, { w with m := w.m ++ [xs] })
    | _ => if xs.all gOk then .ok (.g w.g.length, { w with g := w.g ++ [xs] }) else .err
  else .err
def newT (xs : List D) (w : Wd) : R (D × Wd) := if xs.length ≤ mxLen then .ok (.tup xs, w) else .err
/-- a mutable list's items stored anew -/
def Wd.put (w : Wd) (d : D) (xs : List D) : Option Wd := match d with
  | .ref k => if k < w.m.length then some { w with m := w.m.set k xs } else none
  | .g k => if k < w.g.length ∧ xs.all gOk = true then some { w with g := w.g.set k xs } else none
  | _ => none

mutual
def okRet : D → Bool
  | .tup ds => okRets ds
  | .lst ds => okRets ds
  | .fl _ => false
  | .sc _ => false
  | .ref _ => false
  | .dic _ ds => okRets ds
  | _ => true
def okRets : List D → Bool
  | [] => true
  | d :: ds => okRet d && okRets ds
end

/-! ### syntax -/
inductive Op where | add | sub | mul | fdiv | mod | pow | band | bxor | shl
inductive Cm where | eq | ne | lt | le | gt | ge | is | isnot | isin | notin
inductive Bi where | len | abs | int | bool | repr | sum | max | min | tuple | list | sorted | all | any | str | isinst | dict
inductive Me where | append | extend | pop | insert | index | count | remove
/-- the built-in classes that isinstance asks for -/
inductive Ty where | int | bool | str | tup | lst | dct
  deriving DecidableEq
inductive Tg where
  | nm (i : Nat)
  | tu (ts : List Tg)
mutual
inductive E where
  | v (i : Nat)
  | k (d : D)
  | gl (i : Nat)
  | op (o : Op) (md : Nat) (a b : E)
  | neg (a : E)
  | no (a : E)
  | an (a b : E)
  | or (a b : E)
  | cm (c : Cm) (a b : E)
  | ch (a : E) (c : Cm) (b : E) (c2 : Cm) (d : E)
  | ite (c a b : E)
  | tup (es : Es)
  | lst (md : Nat) (es : Es)
  | ix (a i : E)
  /-- {k: e, ..}, keys texts -/
  | dis (ks : List Str) (es : Es)
  /-- list(range(..)), tuple(range(..)) -/
  | lrg (tp : Bool) (md : Nat) (es : Es)
  | sl (md : Nat) (a : E) (lo hi : Oe)
  | rev (md : Nat) (a : E)
  | call (f : Nat) (perm : Option (List Nat)) (es ks : Es)
  | bi (b : Bi) (md : Nat) (es : Es)
  | me (m : Me) (o : E) (es : Es)
  /-- isinstance(e, T) -/
  | isi (e : E) (t : Ty)
  /-- {}, an own dict; b: its keys are tuples of ints, otherwise ints -/
  | dnew (b : Bool)
  /-- o.get((..), constant) -/
  | dget (o : E) (es : Es) (x : D)
  /-- k in o, k not in o: an own dict of ints -/
  | din (n : Bool) (k o : E)
  | co (md : Nat) (t : Tg) (it : It) (c : Oe) (e : E) (own : List Nat)
inductive Es where
  | nil
  | cons (e : E) (r : Es)
inductive Oe where
  | no
  | so (e : E)
inductive It where
  | seq (e : E)
  | rng (es : Es)
  | enu (e : E)
  | zip (a b : E)
end
inductive S where
  | set (t : Tg) (e : E)
  | put (o i e : E)
  /-- o[(..)] = e; o[k] = e of an own dict of ints -/
  | dput (o : E) (es : Es) (e : E)
  | dputI (o k e : E)
  | ex (e : E)
  | ret (e : E)
  | retn
  | brk
  | cnt
  | pas
  | dead
  | ite (c : E) (a b : List S)
  | for (t : Tg) (it : It) (body : List S) (kill : List Nat) (gc : Bool)
  | whl (c : E) (body : List S) (kill : List Nat) (gc : Bool)
/-! ### own dicts -/
/-- kind of an own dict: 2: keys are tuples of ints; 3: ints -/
def Wd.dct (w : Wd) : D → Option (Nat × List D)
  | .ref k => (w.m[k]?).bind fun xs => match xs with
    | [.dic ks es] => if ks.Nodup then none else some (ks.length, es)
    | _ => none
  | _ => none
def dks (b : Bool) : List Str := if b then ["", ""] else ["", "", ""]
def getE : List D → D → Option D
  | .tup [k, v] :: r, x => if deq k x then some v else getE r x
  | _, _ => none
def isK (k : D) : D → Bool
  | .tup [j, _] => deq j k
  | _ => false
def setK (v : D) : D → D
  | .tup [j, _] => .tup [j, v]
  | e => e
def putE (es : List D) (k v : D) : List D := if es.any (isK k) then es.map (fun e => if isK k e then setK v e else e) else es ++ [.tup [k, v]]
def Wd.dset (w : Wd) (d : D) (ks : List Str) (es : List D) : Wd := match d with
  | .ref k => { w with m := w.m.set k [.dic ks es] }
  | _ => w
inductive Fl where
  | nx | rt (d : D) | bk | ct
end Fz

/-! Q2: the pure evaluator. -/
namespace Fz
open PySem

/-- what the defs are worth, the module's constants -/
structure Pg where
  F : Nat → List D → List (List D) → R (D × List (List D))
  C : List D

def mulOk (i j : Int) : Bool := decide ((-(2 ^ 64) < i ∧ i < 2 ^ 64) ∨ (-(2 ^ 64) < j ∧ j < 2 ^ 64) ∨ (i.natAbs < 2 ^ 400000 ∧ j.natAbs < 2 ^ 400000))
def divOk (i j : Int) : Bool := decide (j ≠ 0) && (decide (j.natAbs < 1073741824) || !Builtin.divisionGoesByPylong i j)
def powOk (i j : Int) : Bool := decide (0 ≤ j ∧ j ≤ 1000000 ∧ i.natAbs < 2 ^ 64)
def opF (o : Op) (md : Nat) (x y : D) (w : Wd) : R (D × Wd) :=
  match o, x, y with
  | .add, .int i, .int j => .ok (.int (i + j), w)
  | .sub, .int i, .int j => .ok (.int (i - j), w)
  | .mul, .int i, .int j => if mulOk i j then .ok (.int (i * j), w) else .err
  | .fdiv, .int i, .int j => if divOk i j then .ok (.int (i.fdiv j), w) else .err
  | .mod, .int i, .int j => if j = 0 then .err else .ok (.int (i.fmod j), w)
  | .pow, .int i, .int j => if powOk i j then .ok (.int (i ^ j.toNat), w) else .err
  | .shl, .int i, .int j => if powOk i j then .ok (.int (i * 2 ^ j.toNat), w) else .err
  | .band, .int i, .int j => .ok (.int (Builtin.bitAnd i j), w)
  | .bxor, .int i, .int j => .ok (.int (Builtin.bitXor i j), w)
  | .add, .str a, .str b => if a.length + b.length ≤ mxLen then .ok (.str (a ++ b), w) else .err
  | .add, .tup a, .tup b => newT (a ++ b) w
  | .mul, .tup a, .int j => if decide (1 ≤ j ∧ j ≤ 1000 ∧ a.length ≤ 1000 ∧ a ≠ []) then newT (List.replicate j.toNat a).flatten w else .err
  | .add, x, y => if isL x && isL y then (R.of (w.seq x)).bd fun a => (R.of (w.seq y)).bd fun b => newL md (a ++ b) w else .err
  | .mul, x, .int j => if isL x && decide (-(2 ^ 63) ≤ j ∧ j < 2 ^ 63) then (R.of (w.seq x)).bd fun a => if a.length * j.toNat ≤ mxLen then newL md (List.replicate j.toNat a).flatten w else .err else .err
  | _, _, _ => .err

def isFlat : D → Bool
  | .non => true
  | .bl _ => true
  | .int _ => true
  | .str _ => true
  | _ => false
def eqF (x y : D) (w : Wd) : Option Bool := match x, y with
  | .int i, .int j => some (decide (i = j))
  | .str i, .str j => some (decide (i = j))
  | x, y => (w.py x).bind fun a => (w.py y).bind fun b => if SeqAt.shaped a && SeqAt.shaped b then some (PyData.eqv a b) else none
def flatEq : D → D → Bool
  | .non, .non => true
  | .bl a, .bl b => a == b
  | .bl a, .int b => (if a then 1 else 0) == b
  | .int a, .bl b => a == (if b then 1 else 0)
  | .int a, .int b => a == b
  | .str a, .str b => a == b
  | _, _ => false
/-- x among y's items, by their values -/
def inD (x y : D) (w : Wd) : Option Bool := (w.py x).bind fun p => (w.py y).bind fun q => match q with
  | .list ps => if SeqAt.shaped p && SeqAt.shaped q then some (ps.any fun z => PyData.eqv z p) else none
  | .tuple ps => if SeqAt.shaped p && SeqAt.shaped q then some (ps.any fun z => PyData.eqv z p) else none
  | _ => none
def cmF (c : Cm) (x y : D) (w : Wd) : Option Bool := match c, x, y with
  | .eq, x, y => eqF x y w
  | .ne, x, y => (eqF x y w).map fun b => !b
  | .lt, .int i, .int j => some (decide (i < j))
  | .le, .int i, .int j => some (decide (i ≤ j))
  | .gt, .int i, .int j => some (decide (j < i))
  | .ge, .int i, .int j => some (decide (j ≤ i))
  | .is, x, .non => some (match x with | .non => true | _ => false)
  | .isnot, x, .non => some (match x with | .non => false | _ => true)
  | .is, .bl a, .bl b => some (decide (a = b))
  | .isnot, .bl a, .bl b => some (!decide (a = b))
  | .isin, x, y => if isFlat x then (w.seq y).bind fun ys => if ys.all isFlat then some (ys.any fun z => flatEq z x) else none else inD x y w
  | .notin, x, y => if isFlat x then (w.seq y).bind fun ys => if ys.all isFlat then some (!(ys.any fun z => flatEq z x)) else none else (inD x y w).map fun b => !b
  | _, _, _ => none

def stepL (lo c : Int) : Nat → List D
  | 0 => []
  | n + 1 => .int lo :: stepL (lo + c) c n
/-- an index, of any sign -/
def ixI (n : Nat) (i : Int) : Option Nat := if 0 ≤ i then (if i < n then some i.toNat else none) else if -(n : Int) ≤ i then some (i + n).toNat else none
def cut {α : Type} (xs : List α) (lo hi : Option Int) : List α := (xs.drop (HT.sIx xs.length 0 lo)).take (HT.sIx xs.length xs.length hi - HT.sIx xs.length 0 lo)

def intD : List D → Option (List Int)
  | [] => some []
  | .int i :: r => (intD r).map fun is => i :: is
  | _ => none
/-- pairs of a text and something -/
def prsD : List D → Option (List Str × List D)
  | [] => some ([], [])
  | .tup [.str k, d] :: r => (prsD r).map fun p => (k :: p.1, d :: p.2)
  | _ => none
/-- what stands at a key -/
def lkp : List Str → List D → Str → Option D
  | k :: ks, d :: ds, x => if k = x then some d else lkp ks ds x
  | _, _, _ => none
/-- d[k] of a dict -/
def dicL : D → Str → Option D
  | .dic ks ds, k => lkp ks ds k
  | _, _ => none
def boolD : List D → Option (List Bool)
  | [] => some []
  | .bl i :: r => (boolD r).map fun is => i :: is
  | _ => none
mutual
/-- what can be shown: no dict, ints below the limit -/
def canShow : PyData → Bool
  | .none => true
  | .bool _ => true
  | .int i => decide (i.natAbs < 10 ^ 4300)
  | .str _ => true
  | .list ps => canShows ps
  | .tuple ps => canShows ps
  | .dict _ => false
def canShows : List PyData → Bool
  | [] => true
  | p :: ps => canShow p && canShows ps
end
/-- repr of data -/
def reprOk (p : PyData) : Bool := canShow p && decide (p.depth ≤ 60) && decide (p.shown.length ≤ mxLen)
def maxL : List Int → Int
  | [] => 0
  | [x] => x
  | x :: y :: r => let z := maxL (y :: r); if x < z then z else x
def minL : List Int → Int
  | [] => 0
  | [x] => x
  | x :: y :: r => let z := minL (y :: r); if z < x then z else x
/-- x ≤ y, by the first item that differs -/
def lexLe : List Int → List Int → Bool
  | [], _ => true
  | _ :: _, [] => false
  | x :: xs, y :: ys => if x < y then true else if y < x then false else lexLe xs ys
def insT (x : List Int) : List (List Int) → List (List Int)
  | [] => [x]
  | y :: ys => if lexLe x y then x :: y :: ys else y :: insT x ys
def sortT : List (List Int) → List (List Int)
  | [] => []
  | x :: xs => insT x (sortT xs)
def insI (x : Int) : List Int → List Int
  | [] => [x]
  | y :: ys => if x ≤ y then x :: y :: ys else y :: insI x ys
def sortI : List Int → List Int
  | [] => []
  | x :: xs => insI x (sortI xs)
/-- tuples of ints -/
def tupD : List D → Option (List (List Int))
  | [] => some []
  | .tup ds :: r => (intD ds).bind fun ns => (tupD r).map fun xs => ns :: xs
  | _ => none
def tupI (ns : List Int) : D := .tup (ns.map D.int)
/-- tuples of one length, few of them -/
def tupOk : List (List Int) → Bool
  | [] => true
  | x :: xs => decide (1 ≤ x.length ∧ (x :: xs).length < 64) && (x :: xs).all fun y => decide (y.length = x.length) && y.all fun i => decide (0 ≤ i ∧ i < 1000000000)
/-- pairs of a number and a tuple -/
def pairD : List D → Option (List (Int × List D))
  | [] => some []
  | .tup [.int k, .tup ds] :: r => (pairD r).map fun xs => (k, ds) :: xs
  | _ => none
def pairI (q : Int × List D) : D := .tup [.int q.1, .tup q.2]
def insP (x : Int × List D) : List (Int × List D) → List (Int × List D)
  | [] => [x]
  | y :: ys => if x.1 ≤ y.1 then x :: y :: ys else y :: insP x ys
def sortP : List (Int × List D) → List (Int × List D)
  | [] => []
  | x :: xs => insP x (sortP xs)
def biF (b : Bi) (md : Nat) (ds : List D) (w : Wd) : R (D × Wd) := match b, ds with
  | .len, [.str s] => if s.length ≤ mxLen then .ok (.int s.length, w) else .err
  | .len, [d] => (R.of (w.seq d)).bd fun xs => .ok (.int xs.length, w)
  | .abs, [.int i] => .ok (.int (if i < 0 then -i else i), w)
  | .int, [.int i] => .ok (.int i, w)
  | .int, [.bl k] => .ok (.int (if k then 1 else 0), w)
  | .bool, [.int i] => .ok (.bl (i != 0), w)
  | .bool, [.bl k] => .ok (.bl k, w)
  | .repr, [d] => (R.of (w.py d)).bd fun p => if reprOk p then .ok (.str p.shown, w) else .err
  | .sum, [d] => (R.of ((w.seq d).bind intD)).bd fun xs => .ok (.int xs.sum, w)
  | .sorted, [d] => if isT d then .err else (R.of (w.seq d)).bd fun xs => match intD xs with
    | some ns => newL md ((sortI ns).map D.int) w
    | none => match tupD xs with
      | some ts => if tupOk ts then newL md ((sortT ts).map tupI) w else .err
      | none => (R.of (pairD xs)).bd fun ps => if decide (ps.length < 64 ∧ (ps.map (·.1)).Nodup) then newL md ((sortP ps).map pairI) w else .err
  | .dict, [d] => if isT d then .err else (R.of ((w.seq d).bind prsD)).bd fun p => if p.1.Nodup ∧ p.1 ≠ [] ∧ p.1.length ≤ 15 then .ok (.dic p.1 p.2, w) else .err
  | .max, [.int i, .int j] => .ok (.int (if j > i then j else i), w)
  | .min, [.int i, .int j] => .ok (.int (if j < i then j else i), w)
  | .max, [d] => if isT d then .err else (R.of ((w.seq d).bind intD)).bd fun xs => if xs.isEmpty then .err else .ok (.int (maxL xs), w)
  | .min, [d] => if isT d then .err else (R.of ((w.seq d).bind intD)).bd fun xs => if xs.isEmpty then .err else .ok (.int (minL xs), w)
  | .tuple, [d] => (R.of (w.seq d)).bd fun xs => newT xs w
  | .list, [d] => (R.of (w.seq d)).bd fun xs => newL md xs w
  | .all, [d] => if isT d then .err else (R.of ((w.seq d).bind boolD)).bd fun xs => .ok (.bl (xs.all id), w)
  | .any, [d] => if isT d then .err else (R.of ((w.seq d).bind boolD)).bd fun xs => .ok (.bl (xs.any id), w)
  | _, _ => .err
def meF (m : Me) (o : D) (ds : List D) (w : Wd) : R (D × Wd) := match m, ds with
  | .append, [d] => (R.of (w.seq o)).bd fun xs => if xs.length < mxLen then (R.of (w.put o (xs ++ [d]))).bd fun w' => .ok (.non, w') else .err
  | .extend, [d] => if isL d && !deq d o then (R.of (w.seq o)).bd fun xs => (R.of (w.seq d)).bd fun ys => if xs.length + ys.length ≤ mxLen then (R.of (w.put o (xs ++ ys))).bd fun w' => .ok (.non, w') else .err else .err
  | .pop, [] => (R.of (w.seq o)).bd fun xs => (R.of xs[xs.length - 1]?).bd fun y => (R.of (w.put o xs.dropLast)).bd fun w' => .ok (y, w')
  | .pop, [.int i] => (R.of (w.seq o)).bd fun xs => (R.of (ixI xs.length i)).bd fun k => (R.of xs[k]?).bd fun y => (R.of (w.put o (xs.eraseIdx k))).bd fun w' => .ok (y, w')
  | _, _ => .err

def tyF (t : Ty) (w : Wd) : D → Option Bool
  | .non => some false
  | .bl _ => some (t == .bool || t == .int)
  | .int _ => some (t == .int)
  | .str _ => some (t == .str)
  | .tup _ => some (t == .tup)
  | .lst _ => some (t == .lst)
  | .fl _ => some (t == .lst)
  | .sc _ => some (t == .lst)
  | .ref k => ((w.m[k]?).bind lsq).map fun _ => t == .lst
  | .g _ => some (t == .lst)
  | .dic _ _ => some (t == .dct)
def wipeD (σ : List (Option D)) : List Nat → List (Option D)
  | [] => σ
  | v :: vs => (wipeD σ vs).set v none
mutual
def asg : Tg → D → Wd → Option Wd
  | .nm i, d, w => some { w with σ := w.σ.set i (some d) }
  | .tu ts, .tup ds, w => asgL ts ds w
  | .tu ts, .lst ds, w => asgL ts ds w
  | .tu _, _, _ => none
def asgL : List Tg → List D → Wd → Option Wd
  | [], [], w => some w
  | t :: ts, d :: ds, w => (asg t d w).bind fun w' => asgL ts ds w'
  | _, _, _ => none
end
/-- what a loop walks: the list stands as it was -/
inductive Src where
  | non | ref (k : Nat) | g (k : Nat)
def Src.ok (s : Src) (xs : List D) (w : Wd) : Bool := match s with
  | .non => true
  | .ref k => (w.m[k]?).any fun ys => deqL ys xs
  | .g k => (w.g[k]?).any fun ys => deqL ys xs
def srcOf : D → Src
  | .ref k => .ref k
  | .g k => .g k
  | _ => .non
def rngL (lo : Int) : Nat → List D
  | 0 => []
  | n + 1 => .int lo :: rngL (lo + 1) n
def rngOk (i : Int) : Bool := decide (-(2 ^ 62) ≤ i ∧ i < 2 ^ 62)
def rngF : List D → Option (List D)
  | [.int j] => if rngOk j then some (rngL 0 j.toNat) else none
  | [.int i, .int j] => if rngOk i && rngOk j then some (rngL i (j - i).toNat) else none
  | [.int i, .int j, .int c] => if decide (c ≠ 0 ∧ c.natAbs < 1073741824) && Builtin.Range.small i j c then some (stepL i c (Builtin.Range.rangeSize i j c).toNat) else none
  | _ => none
def enuL (i : Int) : List D → List D
  | [] => []
  | x :: xs => .tup [.int i, x] :: enuL (i + 1) xs
def zipD : List D → List D → List D
  | x :: xs, y :: ys => .tup [x, y] :: zipD xs ys
  | _, _ => []
/-- what is walked: the items, the lists that must stand still -/
structure Itd where
  xs : List D
  ok : Wd → Bool

def coL (bind : D → Wd → Option Wd) (test : Wd → R (Bool × Wd)) (elt : Wd → R (D × Wd)) (ok : Wd → Bool) (own : List Nat) (σ : List (Option D)) : List D → Wd → List D → R (List D × Wd)
  | [], w, acc => .ok (acc, w)
  | x :: xs, w, acc => (R.of (bind x { w with σ := wipeD σ own })).bd fun w1 => (test w1).bd fun r => if r.1 then
      (elt r.2).bd fun q => if ok { q.2 with σ := σ } && decide (acc.length < mxLen) then coL bind test elt ok own σ xs { q.2 with σ := σ } (acc ++ [q.1]) else .err
    else if ok { r.2 with σ := σ } then coL bind test elt ok own σ xs { r.2 with σ := σ } acc else .err
def forL (bind : D → Wd → Option Wd) (body : Wd → R (Fl × Wd)) (post : Wd → Option Wd) (ok : Wd → Bool) : List D → Wd → R (Fl × Wd)
  | [], w => .ok (.nx, w)
  | x :: xs, w => (R.of (bind x w)).bd fun w1 => (body w1).bd fun r => match r.1 with
    | .bk => .ok (.nx, r.2)
    | .rt d => .ok (.rt d, r.2)
    | _ => (R.of (post r.2)).bd fun w3 => if ok w3 then forL bind body post ok xs w3 else .err
def whlL (test : Wd → R (Bool × Wd)) (body : Wd → R (Fl × Wd)) (post : Wd → Option Wd) : Nat → Wd → R (Fl × Wd)
  | 0, _ => .err
  | n + 1, w => (test w).bd fun r => if r.1 then (body r.2).bd fun q => match q.1 with
      | .bk => .ok (.nx, q.2)
      | .rt d => .ok (.rt d, q.2)
      | _ => (R.of (post q.2)).bd fun w3 => whlL test body post n w3
    else .ok (.nx, r.2)
def postF (kill : List Nat) (gc : Bool) (L : Nat) (w : Wd) : Option Wd :=
  let w1 : Wd := { w with σ := wipeD w.σ kill }
  if gc then w1.gc L else some w1

/-- arguments in the parameters' order -/
def arr {α : Type} (p : List Nat) (xs : List α) : Option (List α) := match p with
  | [] => some []
  | i :: r => (xs[i]?).bind fun x => (arr r xs).map fun ys => x :: ys
def arrD {α : Type} : Option (List Nat) → List α → Option (List α)
  | none, xs => some xs
  | some p, xs => arr p xs
variable (P : Pg)
mutual
def evE : E → Wd → R (D × Wd)
  | .v i, w => match w.σ[i]? with
    | some (some d) => .ok (d, w)
    | _ => .err
  | .k d, w => .ok (d, w)
  | .gl i, w => (R.of P.C[i]?).bd fun d => .ok (d, w)
  | .op o md a b, w => (evE a w).bd fun x => (evE b x.2).bd fun y => opF o md x.1 y.1 y.2
  | .neg a, w => (evE a w).bd fun x => match x.1 with
    | .int i => .ok (.int (-i), x.2)
    | _ => .err
  | .no a, w => (evE a w).bd fun x => (R.of (x.2.tru x.1)).bd fun b => .ok (.bl (!b), x.2)
  | .an a b, w => (evE a w).bd fun x => (R.of (x.2.tru x.1)).bd fun c => if c then evE b x.2 else .ok x
  | .or a b, w => (evE a w).bd fun x => (R.of (x.2.tru x.1)).bd fun c => if c then .ok x else evE b x.2
  | .cm c a b, w => (evE a w).bd fun x => (evE b x.2).bd fun y => (R.of (cmF c x.1 y.1 y.2)).bd fun r => .ok (.bl r, y.2)
  | .ch a c b c2 d, w => (evE a w).bd fun x => (evE b x.2).bd fun y => (R.of (cmF c x.1 y.1 y.2)).bd fun r => if r then
      (evE d y.2).bd fun z => (R.of (cmF c2 y.1 z.1 z.2)).bd fun q => .ok (.bl q, z.2) else .ok (.bl false, y.2)
  | .ite c a b, w => (evE c w).bd fun x => (R.of (x.2.tru x.1)).bd fun r => if r then evE a x.2 else evE b x.2
  | .tup es, w => (evEs es w).bd fun x => newT x.1 x.2
  | .lst md es, w => (evEs es w).bd fun x => newL md x.1 x.2
  | .ix a i, w => (evE a w).bd fun x => (evE i x.2).bd fun y => match y.1 with
    | .int k => (R.of (y.2.seq x.1)).bd fun xs => (R.of ((ixI xs.length k).bind fun j => xs[j]?)).bd fun d => .ok (d, y.2)
    | .str k => (R.of (dicL x.1 k)).bd fun d => .ok (d, y.2)
    | _ => .err
  | .lrg tp md es, w => (evEs es w).bd fun x => (R.of (rngF x.1)).bd fun xs => if tp then newT xs x.2 else newL md xs x.2
  | .dis ks es, w => (evEs es w).bd fun x => if ks.Nodup ∧ ks ≠ [] ∧ ks.length ≤ 15 ∧ ks.length = x.1.length then .ok (.dic ks x.1, x.2) else .err
  | .sl md a lo hi, w => (evE a w).bd fun x => (evO lo x.2).bd fun l => (evO hi l.2).bd fun h => (R.of (h.2.seq x.1)).bd fun xs =>
      if isT x.1 then newT (cut xs l.1 h.1) h.2 else newL md (cut xs l.1 h.1) h.2
  | .rev md a, w => (evE a w).bd fun x => (R.of (x.2.seq x.1)).bd fun xs => if isT x.1 then newT xs.reverse x.2 else newL md xs.reverse x.2
  | .call f perm es ks, w => (evEs es w).bd fun x => (evEs ks x.2).bd fun y => (R.of (lendL y.2 (x.1 ++ y.1))).bd fun ds => (R.of (arrD perm ds)).bd fun ds =>
      (P.F f ds y.2.g).bd fun r => .ok (r.1, { y.2 with g := r.2 })
  | .bi b md es, w => (evEs es w).bd fun x => biF b md x.1 x.2
  | .me m o es, w => (evE o w).bd fun x => (R.of (x.2.seq x.1)).bd fun _ => (evEs es x.2).bd fun y => meF m x.1 y.1 y.2
  | .isi e t, w => (evE e w).bd fun x => (R.of (tyF t x.2 x.1)).bd fun b => .ok (.bl b, x.2)
  | .dnew b, w => .ok (.ref w.m.length, { w with m := w.m ++ [[.dic (dks b) []]] })
  | .dget o es z, w => (evE o w).bd fun x => (R.of (x.2.dct x.1)).bd fun _ => (evEs es x.2).bd fun y => (R.of (y.2.dct x.1)).bd fun q => if decide (q.1 = 2) && (intD y.1).isSome && decide (y.1.length ≤ mxLen) && isFlat z then .ok ((getE q.2 (.tup y.1)).getD z, y.2) else .err
  | .din n k o, w => (evE k w).bd fun y => (evE o y.2).bd fun x => (R.of (x.2.dct x.1)).bd fun q => match y.1 with
    | .int i => if decide (q.1 = 3) then .ok (.bl (xor n (getE q.2 (.int i)).isSome), x.2) else .err
    | _ => .err
  | .co md t it c e own, w => (evI it w).bd fun x => (coL (asg t) (evC c) (evE e) x.1.ok own x.2.σ x.1.xs x.2 []).bd fun r => newL md r.1 r.2
def evEs : Es → Wd → R (List D × Wd)
  | .nil, w => .ok ([], w)
  | .cons e r, w => (evE e w).bd fun x => (evEs r x.2).bd fun y => .ok (x.1 :: y.1, y.2)
def evO : Oe → Wd → R (Option Int × Wd)
  | .no, w => .ok (none, w)
  | .so e, w => (evE e w).bd fun x => match x.1 with
    | .int i => .ok (some i, x.2)
    | _ => .err
def evC : Oe → Wd → R (Bool × Wd)
  | .no, w => .ok (true, w)
  | .so e, w => (evE e w).bd fun x => (R.of (x.2.tru x.1)).bd fun b => .ok (b, x.2)
def evI : It → Wd → R (Itd × Wd)
  | .seq e, w => (evE e w).bd fun x => (R.of (x.2.seq x.1)).bd fun xs => .ok (⟨xs, (srcOf x.1).ok xs⟩, x.2)
  | .rng es, w => (evEs es w).bd fun x => (R.of (rngF x.1)).bd fun xs => .ok (⟨xs, fun _ => true⟩, x.2)
  | .enu e, w => (evE e w).bd fun x => (R.of (x.2.seq x.1)).bd fun xs => .ok (⟨enuL 0 xs, (srcOf x.1).ok xs⟩, x.2)
  | .zip a b, w => (evE a w).bd fun x => (evE b x.2).bd fun y => (R.of (y.2.seq x.1)).bd fun xs => (R.of (y.2.seq y.1)).bd fun ys =>
      if isT x.1 == isT y.1 then .ok (⟨zipD xs ys, fun w => (srcOf x.1).ok xs w && (srcOf y.1).ok ys w⟩, y.2) else .err
end
/-- a test: the truth of the value -/
def evT (e : E) (w : Wd) : R (Bool × Wd) := (evE P e w).bd fun x => (R.of (x.2.tru x.1)).bd fun b => .ok (b, x.2)
def fuel : Nat := 1000000000000
mutual
def exS : S → Wd → R (Fl × Wd)
  | .set t e, w => (evE P e w).bd fun x => (R.of (asg t x.1 x.2)).bd fun w' => .ok (.nx, w')
  | .put o i e, w => (evE P e w).bd fun z => (evE P o z.2).bd fun x => (evE P i x.2).bd fun y => match y.1 with
    | .int k => (R.of (y.2.seq x.1)).bd fun xs => (R.of (ixI xs.length k)).bd fun j => (R.of (y.2.put x.1 (xs.set j z.1))).bd fun w' => .ok (.nx, w')
    | _ => .err
  | .dput o es e, w => (evE P e w).bd fun z => (evE P o z.2).bd fun x => (evEs P es x.2).bd fun y => (R.of (y.2.dct x.1)).bd fun q => if decide (q.1 = 2) && (intD y.1).isSome && decide (y.1.length ≤ mxLen ∧ q.2.length < mxLen) then .ok (.nx, y.2.dset x.1 (dks true) (putE q.2 (.tup y.1) z.1)) else .err
  | .dputI o k e, w => (evE P e w).bd fun z => (evE P o z.2).bd fun x => (evE P k x.2).bd fun y => (R.of (y.2.dct x.1)).bd fun q => match y.1 with
    | .int i => if decide (q.1 = 3) && decide (q.2.length < mxLen) then .ok (.nx, y.2.dset x.1 (dks false) (putE q.2 (.int i) z.1)) else .err
    | _ => .err
  | .ex e, w => (evE P e w).bd fun x => .ok (.nx, x.2)
  | .ret e, w => (evE P e w).bd fun x => .ok (.rt x.1, x.2)
  | .retn, w => .ok (.rt .non, w)
  | .brk, w => .ok (.bk, w)
  | .cnt, w => .ok (.ct, w)
  | .pas, w => .ok (.nx, w)
  | .dead, _ => .err
  | .ite c a b, w => (evT P c w).bd fun x => if x.1 then exB a x.2 else exB b x.2
  | .for t it body kill gc, w => (evI P it w).bd fun x => forL (asg t) (exB body) (postF kill gc x.2.m.length) x.1.ok x.1.xs x.2
  | .whl c body kill gc, w => whlL (evT P c) (exB body) (postF kill gc w.m.length) fuel w
def exB : List S → Wd → R (Fl × Wd)
  | [], w => .ok (.nx, w)
  | s :: r, w => (exS s w).bd fun x => match x.1 with
    | .nx => exB r x.2
    | f => .ok (f, x.2)
end
/-- a def: its parameters in the first slots; its end without a return gives None -/
def exD (n : Nat) (body : List S) (ds : List D) (g : List (List D)) : R (D × List (List D)) :=
  (exB P body ⟨ds.map some ++ List.replicate (n - ds.length) none, [], g⟩).bd fun x => match x.1 with
    | .rt d => (R.of (give x.2 d)).bd fun d' => .ok (d', x.2.g)
    | .nx => .ok (.non, x.2.g)
    | _ => .err
end Fz

/-! Q3: data stand in the heap. -/
namespace Fz
open PySem PySem.Spec PyProof.Rows L2

/-- own lists, shared ones, those that somebody further out may still change -/
structure Ad where
  mu : List Addr
  ga : List Addr
  bad : List Addr
  /-- lists that a comprehension is making -/
  cn : List Addr
/-- locked or written: never changes -/
def SqF (K : PySem.W.Frag) (H : Hp) (a : Addr) (vs : List V) : Prop := (∃ o, H a = some (.frz o (.lst vs))) ∨ SqL K (fun _ => none) a vs
mutual
def RD (K : PySem.W.Frag) (H : Hp) (A : Ad) : D → V → Prop
  | .non, v => v = .non
  | .bl b, v => v = .bl b
  | .int i, v => v = .int i
  | .str s, v => v = .str s
  | .tup ds, v => ∃ a vs, v = .ref a ∧ SqT K H a vs ∧ RDs K H A ds vs
  | .lst ds, v => ∃ a vs, v = .ref a ∧ H a = some (.lst vs) ∧ (a ∉ A.mu ∧ a ∉ A.ga ∧ a ∉ A.cn) ∧ a ∉ A.bad ∧ RDs K H A ds vs
  | .fl ds, v => ∃ a vs, v = .ref a ∧ H a = some (.lst vs) ∧ (a ∉ A.mu ∧ a ∉ A.ga ∧ a ∉ A.cn) ∧ RDs K H A ds vs
  | .sc ds, v => ∃ a vs, v = .ref a ∧ SqF K H a vs ∧ RDs K H A ds vs
  | .ref k, v => ∃ a, A.mu[k]? = some a ∧ v = .ref a
  | .g k, v => ∃ a, A.ga[k]? = some a ∧ v = .ref a
  | .dic ks ds, v => ∃ a kvs, v = .ref a ∧ H a = some (.dK kvs) ∧ (a ∉ A.mu ∧ a ∉ A.ga ∧ a ∉ A.cn) ∧ a ∉ A.bad ∧ (ks ≠ [] ∧ ks.Nodup ∧ kvs.map Prod.fst = ks.map Sum.inr) ∧ RDs K H A ds (kvs.map Prod.snd)
def RDs (K : PySem.W.Frag) (H : Hp) (A : Ad) : List D → List V → Prop
  | [], vs => vs = []
  | d :: ds, vs => ∃ v r, vs = v :: r ∧ RD K H A d v ∧ RDs K H A ds r
end
/-- may not be changed by who stands here -/
def Ad.out (A : Ad) (a : Addr) : Prop := a ∉ A.mu ∧ a ∉ A.ga ∧ a ∉ A.cn
structure Car (A : Ad) (H : Hp) (A' : Ad) (H' : Hp) : Prop where
  kept : ∀ a o, H a = some o → A.out a → H' a = some o ∧ A'.out a
  tup : ∀ a vs, H a = some (.tup vs) → H' a = some (.tup vs)
  frz : ∀ a o u, H a = some (.frz o u) → H' a = some (.frz o u)
  mu : ∀ (k : Nat) (a : Addr), A.mu[k]? = some a → A'.mu[k]? = some a
  ga : ∀ (k : Nat) (a : Addr), A.ga[k]? = some a → A'.ga[k]? = some a
  bad : A'.bad = A.bad
structure Step (A : Ad) (H : Hp) (A' : Ad) (H' : Hp) : Prop extends Car A H A' H' where
  cn : A'.cn = A.cn
  cnk : ∀ a ∈ A.cn, H' a = H a
theorem Car.refl (A : Ad) (H : Hp) : Car A H A H := ⟨fun _ _ h a => ⟨h, a⟩, fun _ _ h => h, fun _ _ _ h => h, fun _ _ h => h, fun _ _ h => h, rfl⟩
theorem Step.refl (A : Ad) (H : Hp) : Step A H A H := ⟨Car.refl A H, rfl, fun _ _ => rfl⟩
theorem Car.trans {A A1 A2 : Ad} {H H1 H2 : Hp} (a : Car A H A1 H1) (b : Car A1 H1 A2 H2) : Car A H A2 H2 :=
  ⟨fun c o h x => let ⟨p, q⟩ := a.kept c o h x; b.kept c o p q, fun c vs h => b.tup c vs (a.tup c vs h), fun c o u h => b.frz c o u (a.frz c o u h),
    fun k c h => b.mu k c (a.mu k c h), fun k c h => b.ga k c (a.ga k c h), b.bad.trans a.bad⟩
theorem Step.trans {A A1 A2 : Ad} {H H1 H2 : Hp} (a : Step A H A1 H1) (b : Step A1 H1 A2 H2) : Step A H A2 H2 :=
  ⟨a.toCar.trans b.toCar, b.cn.trans a.cn, fun c h => (b.cnk c (by rw [a.cn]; exact h)).trans (a.cnk c h)⟩
section
variable {K : PySem.W.Frag} {H H' : Hp} {A A' : Ad}
theorem SqF.sq {a : Addr} {vs : List V} (h : SqF K H a vs) : SqL K H a vs := by
  rcases h with ⟨o, h⟩ | h
  · exact .inl (.inr ⟨o, h⟩)
  · rcases h with (h | ⟨o, h⟩) | h
    · cases h
    · cases h
    · exact .inr h
theorem SqT.step {a : Addr} {vs : List V} (s : Car A H A' H') (h : SqT K H a vs) : SqT K H' a vs := by
  rcases h with (h | ⟨o, h⟩) | h
  · exact .inl (.inl (s.tup _ _ h))
  · exact .inl (.inr ⟨o, s.frz _ _ _ h⟩)
  · exact .inr h
theorem SqF.step {a : Addr} {vs : List V} (s : Car A H A' H') (h : SqF K H a vs) : SqF K H' a vs := by
  rcases h with ⟨o, h⟩ | h
  · exact .inl ⟨o, s.frz _ _ _ h⟩
  · exact .inr h
mutual
theorem RD.step (s : Car A H A' H') : ∀ (d : D) (v : V), RD K H A d v → RD K H' A' d v
  | .non, _, h => h
  | .bl _, _, h => h
  | .int _, _, h => h
  | .str _, _, h => h
  | .tup ds, _, h => by
    obtain ⟨a, vs, e, q, r⟩ := h
    exact ⟨a, vs, e, SqT.step s q, RDs.step s ds vs r⟩
  | .lst ds, _, h => by
    obtain ⟨a, vs, e, q, x, z, r⟩ := h
    obtain ⟨q', x'⟩ := s.kept a _ q x
    exact ⟨a, vs, e, q', x', by rw [s.bad]; exact z, RDs.step s ds vs r⟩
  | .fl ds, _, h => by
    obtain ⟨a, vs, e, q, x, r⟩ := h
    obtain ⟨q', x'⟩ := s.kept a _ q x
    exact ⟨a, vs, e, q', x', RDs.step s ds vs r⟩
  | .sc ds, _, h => by
    obtain ⟨a, vs, e, q, r⟩ := h
    exact ⟨a, vs, e, SqF.step s q, RDs.step s ds vs r⟩
  | .ref k, _, h => by
    obtain ⟨a, e, q⟩ := h
    exact ⟨a, s.mu k a e, q⟩
  | .g k, _, h => by
    obtain ⟨a, e, q⟩ := h
    exact ⟨a, s.ga k a e, q⟩
  | .dic ks ds, _, h => by
    obtain ⟨a, kvs, e, q, x, z, y, r⟩ := h
    obtain ⟨q', x'⟩ := s.kept a _ q x
    exact ⟨a, kvs, e, q', x', by rw [s.bad]; exact z, y, RDs.step s ds _ r⟩
theorem RDs.step (s : Car A H A' H') : ∀ (ds : List D) (vs : List V), RDs K H A ds vs → RDs K H' A' ds vs
  | [], _, h => h
  | d :: ds, _, h => by
    obtain ⟨v, r, e, x, y⟩ := h
    exact ⟨v, r, e, RD.step s d v x, RDs.step s ds r y⟩
end
theorem RDs.length : ∀ {ds : List D} {vs : List V}, RDs K H A ds vs → vs.length = ds.length
  | [], _, h => by rw [show _ = [] from h]; rfl
  | d :: ds, _, h => by
    obtain ⟨v, r, e, x, y⟩ := h
    rw [e, List.length_cons, List.length_cons, RDs.length y]
theorem RDs.get : ∀ {ds : List D} {vs : List V} {k : Nat} {d : D}, RDs K H A ds vs → ds[k]? = some d → ∃ v, vs[k]? = some v ∧ RD K H A d v
  | [], _, _, _, _, e => by simp at e
  | x :: ds, _, 0, _, h, e => by
    obtain ⟨v, r, e', p, q⟩ := h
    subst e'
    have e2 : x = _ := Option.some.inj e
    subst e2
    exact ⟨v, rfl, p⟩
  | x :: ds, _, k + 1, _, h, e => by
    obtain ⟨v, r, e', p, q⟩ := h
    subst e'
    exact RDs.get (k := k) q (by simpa using e)
theorem RDs.append : ∀ {ds es : List D} {vs us : List V}, RDs K H A ds vs → RDs K H A es us → RDs K H A (ds ++ es) (vs ++ us)
  | [], _, _, _, h, q => by rw [show _ = [] from h]; exact q
  | d :: ds, _, _, _, h, q => by
    obtain ⟨v, r, e, x, y⟩ := h
    subst e
    exact ⟨v, r ++ _, rfl, x, RDs.append y q⟩
theorem RDs.drop : ∀ {ds : List D} {vs : List V} (n : Nat), RDs K H A ds vs → RDs K H A (ds.drop n) (vs.drop n)
  | _, _, 0, h => h
  | [], _, n + 1, h => by rw [show _ = [] from h]; exact (rfl : _ = _)
  | d :: ds, _, n + 1, h => by
    obtain ⟨v, r, e, x, y⟩ := h
    subst e
    exact RDs.drop n y
theorem RDs.take : ∀ {ds : List D} {vs : List V} (n : Nat), RDs K H A ds vs → RDs K H A (ds.take n) (vs.take n)
  | _, _, 0, h => (rfl : _ = _)
  | [], _, n + 1, h => by rw [show _ = [] from h]; exact (rfl : _ = _)
  | d :: ds, _, n + 1, h => by
    obtain ⟨v, r, e, x, y⟩ := h
    subst e
    exact ⟨v, _, rfl, x, RDs.take n y⟩
theorem RDs.one {d : D} {v : V} (h : RD K H A d v) : RDs K H A [d] [v] := ⟨v, [], rfl, h, rfl⟩
theorem RDs.reverse : ∀ {ds : List D} {vs : List V}, RDs K H A ds vs → RDs K H A ds.reverse vs.reverse
  | [], _, h => by rw [show _ = [] from h]; exact (rfl : _ = _)
  | d :: ds, _, h => by
    obtain ⟨v, r, e, x, y⟩ := h
    subst e
    rw [List.reverse_cons, List.reverse_cons]
    exact RDs.append (RDs.reverse y) (RDs.one x)
theorem RDs.set : ∀ {ds : List D} {vs : List V} (n : Nat) {d : D} {v : V}, RDs K H A ds vs → RD K H A d v → RDs K H A (ds.set n d) (vs.set n v)
  | [], _, n, _, _, h, q => by rw [show _ = [] from h]; exact (rfl : _ = _)
  | d :: ds, _, 0, _, _, h, q => by
    obtain ⟨v, r, e, x, y⟩ := h
    subst e
    exact ⟨_, r, rfl, q, y⟩
  | d :: ds, _, n + 1, _, _, h, q => by
    obtain ⟨v, r, e, x, y⟩ := h
    subst e
    exact ⟨v, _, rfl, x, RDs.set n y q⟩
theorem RDs.eraseIdx : ∀ {ds : List D} {vs : List V} (n : Nat), RDs K H A ds vs → RDs K H A (ds.eraseIdx n) (vs.eraseIdx n)
  | [], _, n, h => by rw [show _ = [] from h]; exact (rfl : _ = _)
  | d :: ds, _, 0, h => by
    obtain ⟨v, r, e, x, y⟩ := h
    subst e
    exact y
  | d :: ds, _, n + 1, h => by
    obtain ⟨v, r, e, x, y⟩ := h
    subst e
    exact ⟨v, _, rfl, x, RDs.eraseIdx n y⟩
theorem RDs.dropLast {ds : List D} {vs : List V} (h : RDs K H A ds vs) : RDs K H A ds.dropLast vs.dropLast := by
  rw [List.dropLast_eq_take, List.dropLast_eq_take, h.length]
  exact h.take _
theorem RDs.rep : ∀ (n : Nat) {ds : List D} {vs : List V}, RDs K H A ds vs → RDs K H A (List.replicate n ds).flatten (List.replicate n vs).flatten
  | 0, _, _, _ => (rfl : _ = _)
  | n + 1, _, _, h => by
    rw [List.replicate_succ, List.replicate_succ, List.flatten_cons, List.flatten_cons]
    exact RDs.append h (RDs.rep n h)
theorem RDs.cons_iff {d : D} {ds : List D} {v : V} {vs : List V} : RDs K H A (d :: ds) (v :: vs) ↔ RD K H A d v ∧ RDs K H A ds vs := by
  constructor
  · rintro ⟨v', r, e, x, y⟩
    cases e
    exact ⟨x, y⟩
  · rintro ⟨x, y⟩
    exact ⟨v, vs, rfl, x, y⟩
theorem RDs.cutD {ds : List D} {vs : List V} (lo hi : Option Int) (h : RDs K H A ds vs) : RDs K H A (cut ds lo hi) (cutV vs lo hi) := by
  unfold cut cutV
  rw [h.length]
  exact (h.drop _).take _
theorem RDs.ints : ∀ {ds : List D} {vs : List V} {ns : List Int}, RDs K H A ds vs → intD ds = some ns → vs = ns.map V.int
  | [], _, ns, h, e => by
    rw [show _ = [] from h]
    cases e
    rfl
  | d :: ds, _, ns, h, e => by
    obtain ⟨v, r, e', x, y⟩ := h
    subst e'
    cases d with
    | int i =>
      simp only [intD, Option.map_eq_some_iff] at e
      obtain ⟨is, e1, rfl⟩ := e
      rw [RDs.ints y e1, show v = .int i from x]
      rfl
    | _ => simp [intD] at e
theorem RDs.bools : ∀ {ds : List D} {vs : List V} {ns : List Bool}, RDs K H A ds vs → boolD ds = some ns → vs = ns.map V.bl
  | [], _, ns, h, e => by
    rw [show _ = [] from h]
    cases e
    rfl
  | d :: ds, _, ns, h, e => by
    obtain ⟨v, r, e', x, y⟩ := h
    subst e'
    cases d with
    | bl i =>
      simp only [boolD, Option.map_eq_some_iff] at e
      obtain ⟨is, e1, rfl⟩ := e
      rw [RDs.bools y e1, show v = .bl i from x]
      rfl
    | _ => simp [boolD] at e
end

/-! ### mutable lists, own dicts -/
/-- pairs of key and value, as they stand in a dict -/
def EN (K : PySem.W.Frag) (H : Hp) (A : Ad) {κ : Type} (kd : D → κ → Prop) : List D → List (κ × V) → Prop
  | [], kvs => kvs = []
  | e :: es, kvs => ∃ k q d v r, e = .tup [k, d] ∧ kvs = (q, v) :: r ∧ kd k q ∧ RD K H A d v ∧ EN K H A kd es r
def keyT (d : D) (q : List Key) : Prop := ∃ ns : List Int, d = .tup (ns.map D.int) ∧ q = ns.map Sum.inl
def keyI (d : D) (q : Key) : Prop := ∃ n : Int, d = .int n ∧ q = Sum.inl n
def DE (K : PySem.W.Frag) (H : Hp) (A : Ad) (a : Addr) (n : Nat) (es : List D) : Prop :=
  (∃ kvs, n = 2 ∧ H a = some (.dT kvs) ∧ EN K H A keyT es kvs) ∨ (∃ kvs, n = 3 ∧ H a = some (.dK kvs) ∧ EN K H A keyI es kvs)
def Cell (K : PySem.W.Frag) (H : Hp) (A : Ad) (a : Addr) (xs : List D) : Prop :=
  (isDc xs = false ∧ ∃ vs, H a = some (.lst vs) ∧ RDs K H A xs vs) ∨ (isDc xs = true ∧ ∃ ks es, xs = [.dic ks es] ∧ DE K H A a ks.length es)
def RL (K : PySem.W.Frag) (H : Hp) (A : Ad) : List Addr → List (List D) → Prop
  | [], ms => ms = []
  | a :: as, ms => ∃ xs r, ms = xs :: r ∧ Cell K H A a xs ∧ RL K H A as r
section
variable {K : PySem.W.Frag} {H H' : Hp} {A A' : Ad} {w : Wd}
theorem RDs.noDc : ∀ {xs : List D} {vs : List V}, RDs K H A xs vs → isDc xs = false
  | [], _, _ => rfl
  | x :: xs, _, h => by
    obtain ⟨v, r, e, x1, _⟩ := h
    cases x with
    | dic ks ds =>
      obtain ⟨a, kvs, _, _, _, _, y, _⟩ := x1
      show (!decide ks.Nodup) = false
      rw [decide_eq_true y.2.1]
      rfl
    | _ => rfl
theorem gOk_noDc : ∀ {xs : List D}, xs.all gOk = true → isDc xs = false
  | [], _ => rfl
  | x :: xs, h => by
    rw [List.all_cons] at h
    have h := (Bool.and_eq_true_iff.mp h).1
    cases x <;> first | rfl | cases h
theorem lsq_some {xs ys : List D} (h : lsq xs = some ys) : ys = xs ∧ isDc xs = false := by
  unfold lsq at h
  cases q : isDc xs with
  | true => rw [q] at h; cases h
  | false => rw [q] at h; cases h; exact ⟨rfl, rfl⟩
theorem seq_ref_some {k : Nat} {xs : List D} (h : (w.m[k]?).bind lsq = some xs) : w.m[k]? = some xs ∧ isDc xs = false := by
  obtain ⟨ys, h1, h2⟩ := Option.bind_eq_some_iff.mp h
  obtain ⟨e, h3⟩ := lsq_some h2
  subst e
  exact ⟨h1, h3⟩
theorem EN.carry {κ : Type} {kd : D → κ → Prop} (c : ∀ d v, RD K H A d v → RD K H' A' d v) : ∀ {es : List D} {kvs : List (κ × V)}, EN K H A kd es kvs → EN K H' A' kd es kvs
  | [], _, h => h
  | e :: es, _, h => by
    obtain ⟨k, q, d, v, r, e1, e2, h1, h2, h3⟩ := h
    exact ⟨k, q, d, v, r, e1, e2, h1, c d v h2, EN.carry c h3⟩
theorem RDs.c1 (c : ∀ xs vs, RDs K H A xs vs → RDs K H' A' xs vs) (d : D) (v : V) (h : RD K H A d v) : RD K H' A' d v :=
  (RDs.cons_iff.mp (c [d] [v] (RDs.one h))).1
theorem Cell.carry {a : Addr} {xs : List D} (c : ∀ xs vs, RDs K H A xs vs → RDs K H' A' xs vs) (k : ∀ o, H a = some o → H' a = some o) (h : Cell K H A a xs) : Cell K H' A' a xs := by
  rcases h with ⟨h1, vs, h2, h3⟩ | ⟨h1, ks, es, h2, h3⟩
  · exact .inl ⟨h1, vs, k _ h2, c _ _ h3⟩
  · refine .inr ⟨h1, ks, es, h2, ?_⟩
    rcases h3 with ⟨kvs, n, h3, h4⟩ | ⟨kvs, n, h3, h4⟩
    · exact .inl ⟨kvs, n, k _ h3, h4.carry (RDs.c1 c)⟩
    · exact .inr ⟨kvs, n, k _ h3, h4.carry (RDs.c1 c)⟩
theorem Cell.at {a : Addr} {xs : List D} (h : Cell K H A a xs) : ∃ o, H a = some o := by
  rcases h with ⟨_, vs, h, _⟩ | ⟨_, ks, es, _, h⟩
  · exact ⟨_, h⟩
  · rcases h with ⟨_, _, h, _⟩ | ⟨_, _, h, _⟩ <;> exact ⟨_, h⟩
theorem Cell.lst {a : Addr} {xs : List D} (h : Cell K H A a xs) (n : isDc xs = false) : ∃ vs, H a = some (.lst vs) ∧ RDs K H A xs vs := by
  rcases h with ⟨_, h⟩ | ⟨q, _⟩
  · exact h
  · rw [n] at q; cases q
theorem Cell.mk {a : Addr} {xs : List D} {vs : List V} (h : H a = some (.lst vs)) (r : RDs K H A xs vs) : Cell K H A a xs := .inl ⟨r.noDc, vs, h, r⟩
theorem RL.length : ∀ {as : List Addr} {ms : List (List D)}, RL K H A as ms → ms.length = as.length
  | [], _, h => by rw [show _ = [] from h]; rfl
  | a :: as, _, h => by
    obtain ⟨xs, r, e, x, z⟩ := h
    rw [e, List.length_cons, List.length_cons, RL.length z]
theorem RL.cell : ∀ {as : List Addr} {ms : List (List D)} {k : Nat} {a : Addr}, RL K H A as ms → as[k]? = some a → ∃ xs, ms[k]? = some xs ∧ Cell K H A a xs
  | [], _, _, _, _, e => by simp at e
  | a :: as, _, 0, _, h, e => by
    obtain ⟨xs, r, e', x, z⟩ := h
    subst e'
    have e2 : a = _ := Option.some.inj e
    subst e2
    exact ⟨xs, rfl, x⟩
  | a :: as, _, k + 1, _, h, e => by
    obtain ⟨xs, r, e', x, z⟩ := h
    subst e'
    exact RL.cell (k := k) z (by simpa using e)
/-- a list among the cells -/
theorem RL.get {as : List Addr} {ms : List (List D)} {k : Nat} {a : Addr} {xs : List D} (h : RL K H A as ms) (e : as[k]? = some a) (e1 : ms[k]? = some xs) (n : isDc xs = false) : ∃ vs, H a = some (.lst vs) ∧ RDs K H A xs vs := by
  obtain ⟨ys, h1, h2⟩ := h.cell e
  rw [e1] at h1
  cases h1
  exact h2.lst n
theorem RL.tracked {as : List Addr} {ms : List (List D)} {a : Addr} (h : RL K H A as ms) (e : a ∈ as) : ∃ o, H a = some o := by
  obtain ⟨k, e⟩ := List.getElem?_of_mem e
  obtain ⟨xs, _, c⟩ := h.cell e
  exact c.at
/-- the lists at as stand; what they hold is carried over -/
theorem RL.carry (c : ∀ xs vs, RDs K H A xs vs → RDs K H' A' xs vs) : ∀ {as : List Addr} {ms : List (List D)}, (∀ a ∈ as, ∀ o, H a = some o → H' a = some o) → RL K H A as ms → RL K H' A' as ms
  | [], _, _, h => h
  | a :: as, _, k, h => by
    obtain ⟨xs, r, e, x, z⟩ := h
    exact ⟨xs, r, e, x.carry c (k a List.mem_cons_self), RL.carry c (fun b hb => k b (List.mem_cons_of_mem _ hb)) z⟩
theorem RL.append : ∀ {as bs : List Addr} {ms ns : List (List D)}, RL K H A as ms → RL K H A bs ns → RL K H A (as ++ bs) (ms ++ ns)
  | [], _, _, _, h, q => by rw [show _ = [] from h]; exact q
  | a :: as, _, _, _, h, q => by
    obtain ⟨xs, r, e, x, z⟩ := h
    subst e
    exact ⟨xs, r ++ _, rfl, x, RL.append z q⟩
/-- one cell is stored anew -/
theorem RL.store {a : Addr} {o : HO} {xs : List D} (cx : ∀ ys us, RDs K H A ys us → RDs K (upd H a o) A ys us) (hx : Cell K (upd H a o) A a xs) :
    ∀ {as : List Addr} {ms : List (List D)} {k : Nat}, as.Nodup → RL K H A as ms → as[k]? = some a → RL K (upd H a o) A as (ms.set k xs)
  | [], _, _, _, _, e => by simp at e
  | b :: as, _, 0, nd, h, e => by
    obtain ⟨ys, r, e', x, z⟩ := h
    subst e'
    have e2 : b = a := Option.some.inj e
    subst e2
    refine ⟨xs, r, rfl, hx, RL.carry cx (fun c hc ws q => ?_) z⟩
    rw [upd_ne (show c ≠ b from fun z => (List.nodup_cons.mp nd).1 (z ▸ hc))]
    exact q
  | b :: as, _, k + 1, nd, h, e => by
    obtain ⟨ys, r, e', x, z⟩ := h
    subst e'
    have e2 : as[k]? = some a := by simpa using e
    have hm : a ∈ as := List.mem_of_getElem? e2
    refine ⟨ys, _, rfl, x.carry cx (fun o h => ?_), RL.store cx hx (List.nodup_cons.mp nd).2 z e2⟩
    rw [upd_ne (show b ≠ a from fun z => (List.nodup_cons.mp nd).1 (z.symm ▸ hm))]
    exact h
end

/-- the evaluator's state and the slots with their heap -/
structure Sim (K : PySem.W.Frag) (H : Hp) (A : Ad) (w : Wd) (σ : L2.St) : Prop where
  loc : ∀ (i : Nat) (d : D), w.σ[i]? = some (some d) → ∃ v, σ[i]? = some (some v) ∧ RD K H A d v
  len : w.σ.length = σ.length
  mu : RL K H A A.mu w.m
  ga : RL K H A A.ga w.g
  nd : A.mu.Nodup
  ndg : A.ga.Nodup
  dj : ∀ a ∈ A.mu, a ∉ A.ga ∧ a ∉ A.bad
  djg : ∀ a ∈ A.bad, a ∉ A.ga
  bt : ∀ a ∈ A.bad, ∃ o, H a = some o
  cnt : ∀ a ∈ A.cn, ∃ vs, H a = some (.lst vs)
  cnd : ∀ a ∈ A.cn, a ∉ A.mu ∧ a ∉ A.ga ∧ a ∉ A.bad
  gk : ∀ xs ∈ w.g, xs.all gOk = true
section
variable {K : PySem.W.Frag} {H H' : Hp} {A A' : Ad} {w : Wd} {σ : L2.St}
theorem Sim.gget (S : Sim K H A w σ) {k : Nat} {a : Addr} {xs : List D} (e : A.ga[k]? = some a) (e1 : w.g[k]? = some xs) : ∃ vs, H a = some (.lst vs) ∧ RDs K H A xs vs :=
  S.ga.get e e1 (gOk_noDc (S.gk xs (List.mem_of_getElem? e1)))
theorem Sim.fresh (S : Sim K H A w σ) {p : Addr} (hp : H p = none) : A.out p ∧ p ∉ A.bad := by
  refine ⟨⟨fun h => ?_, fun h => ?_, fun h => ?_⟩, fun h => ?_⟩
  · obtain ⟨vs, e⟩ := S.mu.tracked h
    rw [hp] at e
    cases e
  · obtain ⟨vs, e⟩ := S.ga.tracked h
    rw [hp] at e
    cases e
  · obtain ⟨vs, e⟩ := S.cnt p h
    rw [hp] at e
    cases e
  · obtain ⟨o, e⟩ := S.bt p h
    rw [hp] at e
    cases e
/-- what a value's sequence is -/
theorem Sim.seq (S : Sim K H A w σ) {d : D} {v : V} {xs : List D} (r : RD K H A d v) (e : w.seq d = some xs) :
    ∃ a vs, v = .ref a ∧ RDs K H A xs vs ∧ ((isT d = true ∧ SqT K H a vs) ∨ (isT d = false ∧ SqL K H a vs)) := by
  cases d with
  | tup ds =>
    obtain ⟨a, vs, rfl, q, h⟩ := r
    cases e
    exact ⟨a, vs, rfl, h, .inl ⟨rfl, q⟩⟩
  | lst ds =>
    obtain ⟨a, vs, rfl, q, _, _, h⟩ := r
    cases e
    exact ⟨a, vs, rfl, h, .inr ⟨rfl, SqL.of q⟩⟩
  | fl ds =>
    obtain ⟨a, vs, rfl, q, _, h⟩ := r
    cases e
    exact ⟨a, vs, rfl, h, .inr ⟨rfl, SqL.of q⟩⟩
  | sc ds =>
    obtain ⟨a, vs, rfl, q, h⟩ := r
    cases e
    exact ⟨a, vs, rfl, h, .inr ⟨rfl, q.sq⟩⟩
  | ref k =>
    obtain ⟨a, q, rfl⟩ := r
    obtain ⟨e1, n⟩ := seq_ref_some e
    obtain ⟨vs, e2, e3⟩ := S.mu.get q e1 n
    exact ⟨a, vs, rfl, e3, .inr ⟨rfl, SqL.of e2⟩⟩
  | g k =>
    obtain ⟨a, q, rfl⟩ := r
    obtain ⟨vs, e2, e3⟩ := S.gget q e
    exact ⟨a, vs, rfl, e3, .inr ⟨rfl, SqL.of e2⟩⟩
  | _ => cases e
/-- a tracked list -/
theorem Sim.lst (S : Sim K H A w σ) {d : D} {v : V} {xs : List D} (r : RD K H A d v) (l : isL d = true) (e : w.seq d = some xs) :
    ∃ a vs, v = .ref a ∧ RDs K H A xs vs ∧ H a = some (.lst vs) := by
  cases d with
  | lst ds =>
    obtain ⟨a, vs, rfl, q, _, _, h⟩ := r
    cases e
    exact ⟨a, vs, rfl, h, q⟩
  | fl ds =>
    obtain ⟨a, vs, rfl, q, _, h⟩ := r
    cases e
    exact ⟨a, vs, rfl, h, q⟩
  | ref k =>
    obtain ⟨a, q, rfl⟩ := r
    obtain ⟨e1, n⟩ := seq_ref_some e
    obtain ⟨vs, e2, e3⟩ := S.mu.get q e1 n
    exact ⟨a, vs, rfl, e3, e2⟩
  | g k =>
    obtain ⟨a, q, rfl⟩ := r
    obtain ⟨vs, e2, e3⟩ := S.gget q e
    exact ⟨a, vs, rfl, e3, e2⟩
  | _ => cases l
theorem upd_some {p a : Addr} {o u : HO} (hp : H p = none) (h : H a = some u) : upd H p o a = some u := by
  rw [upd_ne (ne_of_none h hp)]
  exact h
/-- a new object that is no own list -/
theorem Step.new {p : Addr} {o : HO} (hp : H p = none) (hc : p ∉ A.cn) : Step A H A (upd H p o) :=
  ⟨⟨fun a u h x => ⟨upd_some hp h, x⟩, fun a vs h => upd_some hp h, fun a o u h => upd_some hp h, fun _ _ h => h, fun _ _ h => h, rfl⟩, rfl, fun a h => upd_ne (fun z => hc (z ▸ h))⟩
/-- the state is carried over a step that changes no own list -/
theorem Sim.carry (S : Sim K H A w σ) (s : Step A H A H') (k : ∀ a o, H a = some o → H' a = some o) : Sim K H' A w σ where
  loc := fun i d e => let ⟨v, e1, r⟩ := S.loc i d e; ⟨v, e1, r.step s.toCar d v⟩
  len := S.len
  mu := RL.carry (fun xs vs h => h.step s.toCar) (fun a _ o h => k a o h) S.mu
  ga := RL.carry (fun xs vs h => h.step s.toCar) (fun a _ o h => k a o h) S.ga
  nd := S.nd
  ndg := S.ndg
  dj := S.dj
  djg := S.djg
  bt := fun a h => let ⟨o, e⟩ := S.bt a h; ⟨o, (s.kept a o e ⟨fun z => (S.dj a z).2 h, S.djg a h, fun z => (S.cnd a z).2.2 h⟩).1⟩
  cnt := fun a h => let ⟨vs, e⟩ := S.cnt a h; ⟨vs, k a _ e⟩
  cnd := S.cnd
  gk := S.gk
theorem Sim.new (S : Sim K H A w σ) {p : Addr} {o : HO} (hp : H p = none) : Sim K (upd H p o) A w σ := S.carry (Step.new hp (S.fresh hp).1.2.2) fun a vs h => upd_some hp h
theorem nodup_snoc {l : List Addr} {p : Addr} (h : l.Nodup) (hp : p ∉ l) : (l ++ [p]).Nodup := by
  rw [List.nodup_append]
  refine ⟨h, by simp, fun a ha b hb => ?_⟩
  have e : b = p := by simpa using hb
  subst e
  exact fun z => hp (z ▸ ha)
theorem not_snoc {l : List Addr} {p a : Addr} (h : a ∉ l) (hp : a ≠ p) : a ∉ l ++ [p] := fun z => by
  rcases List.mem_append.mp z with z | z
  · exact h z
  · exact hp (by simpa using z)
theorem get_snoc {α : Type} {l : List α} {k : Nat} {a x : α} (h : l[k]? = some a) : (l ++ [x])[k]? = some a := by
  obtain ⟨hk, e⟩ := List.getElem?_eq_some_iff.mp h
  rw [List.getElem?_append_left hk]
  exact h
/-- a new list, as it is asked for -/
theorem newL_ok {md : Nat} {xs : List D} {vs : List V} {d : D} {w' : Wd} (e : newL md xs w = .ok (d, w')) (S : Sim K H A w σ) (r : RDs K H A xs vs) :
    vs.length ≤ sizeLine ∧ ∀ p, H p = none → ∃ A', Step A H A' (upd H p (.lst vs)) ∧ Sim K (upd H p (.lst vs)) A' w' σ ∧ RD K (upd H p (.lst vs)) A' d (.ref p) := by
  unfold newL at e
  by_cases hl : xs.length ≤ mxLen
  · rw [if_pos hl] at e
    refine ⟨Nat.le_trans (by rw [r.length]; exact hl) (by decide), fun p hp => ?_⟩
    obtain ⟨⟨f1, f2, f4⟩, f3⟩ := S.fresh hp
    have s0 : Step A H A (upd H p (.lst vs)) := Step.new hp f4
    have S0 := S.new (o := .lst vs) hp
    match md, e with
    | 0, e =>
      cases e
      exact ⟨A, s0, S0, p, vs, rfl, upd_same, ⟨f1, f2, f4⟩, f3, r.step s0.toCar⟩
    | 1, e =>
      cases e
      have s1 : Step A H { A with mu := A.mu ++ [p] } (upd H p (.lst vs)) := ⟨⟨fun a u h x => ⟨upd_some hp h, not_snoc x.1 (fun e => by subst e; rw [hp] at h; cases h), x.2⟩, s0.tup, s0.frz, fun k a h => get_snoc h, fun _ _ h => h, rfl⟩, rfl, s0.cnk⟩
      refine ⟨_, s1, ⟨fun i d e => let ⟨v, e1, r⟩ := S.loc i d e; ⟨v, e1, r.step s1.toCar d v⟩, S.len, ?_, RL.carry (fun xs vs h => h.step s1.toCar) (fun a _ vs h => upd_some hp h) S.ga, nodup_snoc S.nd f1, S.ndg, fun a ha => ?_, S.djg, S0.bt, S0.cnt,
        fun a ha => ⟨not_snoc (S.cnd a ha).1 (fun e => f4 (e ▸ ha)), (S.cnd a ha).2⟩, S.gk⟩, p, ?_, rfl⟩
      · exact RL.append (RL.carry (fun xs vs h => h.step s1.toCar) (fun a _ vs h => upd_some hp h) S.mu) ⟨xs, [], rfl, Cell.mk upd_same (r.step s1.toCar), rfl⟩
      · rcases List.mem_append.mp ha with z | z
        · exact S.dj a z
        · have e : a = p := by simpa using z
          subst e
          exact ⟨f2, f3⟩
      · show (A.mu ++ [p])[w.m.length]? = some p
        rw [S.mu.length]
        simp
    | n + 2, e =>
      have e : (if xs.all gOk then R.ok (D.g w.g.length, { w with g := w.g ++ [xs] }) else R.err) = .ok (d, w') := e
      split at e
      case isFalse => cases e
      rename_i hg
      cases e
      have s1 : Step A H { A with ga := A.ga ++ [p] } (upd H p (.lst vs)) := ⟨⟨fun a u h x => ⟨upd_some hp h, x.1, not_snoc x.2.1 (fun e => by subst e; rw [hp] at h; cases h), x.2.2⟩, s0.tup, s0.frz, fun _ _ h => h, fun k a h => get_snoc h, rfl⟩, rfl, s0.cnk⟩
      refine ⟨_, s1, ⟨fun i d e => let ⟨v, e1, r⟩ := S.loc i d e; ⟨v, e1, r.step s1.toCar d v⟩, S.len, RL.carry (fun xs vs h => h.step s1.toCar) (fun a _ vs h => upd_some hp h) S.mu, ?_, S.nd, nodup_snoc S.ndg f2, fun a ha => ⟨fun z => ?_, (S.dj a ha).2⟩, fun a ha z => ?_, S0.bt, S0.cnt,
        fun a ha => ⟨(S.cnd a ha).1, not_snoc (S.cnd a ha).2.1 (fun e => f4 (e ▸ ha)), (S.cnd a ha).2.2⟩, fun ys hy => (List.mem_append.mp hy).elim (S.gk ys) fun z => (by simpa using z : ys = xs) ▸ hg⟩, p, ?_, rfl⟩
      · exact RL.append (RL.carry (fun xs vs h => h.step s1.toCar) (fun a _ vs h => upd_some hp h) S.ga) ⟨xs, [], rfl, Cell.mk upd_same (r.step s1.toCar), rfl⟩
      · rcases List.mem_append.mp z with z | z
        · exact (S.dj a ha).1 z
        · have e : a = p := by simpa using z
          subst e
          exact f1 ha
      · rcases List.mem_append.mp z with z | z
        · exact S.djg a ha z
        · have e : a = p := by simpa using z
          subst e
          exact f3 ha
      · show (A.ga ++ [p])[w.g.length]? = some p
        rw [S.ga.length]
        simp
  · rw [if_neg hl] at e
    cases e
theorem newT_ok {xs : List D} {vs : List V} {d : D} {w' : Wd} (e : newT xs w = .ok (d, w')) (r : RDs K H A xs vs) :
    w' = w ∧ d = .tup xs ∧ vs.length ≤ sizeLine := by
  unfold newT at e
  by_cases hl : xs.length ≤ mxLen
  · rw [if_pos hl] at e
    cases e
    exact ⟨rfl, rfl, Nat.le_trans (by rw [r.length]; exact hl) (by decide)⟩
  · rw [if_neg hl] at e
    cases e
theorem RD.newT {p : Addr} {xs : List D} {vs : List V} (hp : H p = none) (hc : p ∉ A.cn) (r : RDs K H A xs vs) : RD K (upd H p (.tup vs)) A (.tup xs) (.ref p) :=
  ⟨p, vs, rfl, .inl (.inl upd_same), r.step (Step.new hp hc).toCar⟩
/-- an own list is changed -/
theorem Car.store {a : Addr} {us vs : List V} (ha : a ∈ A.mu ∨ a ∈ A.ga ∨ a ∈ A.cn) (h : H a = some (.lst us)) : Car A H A (upd H a (.lst vs)) := by
  refine ⟨fun b o q x => ⟨?_, x⟩, fun b ws q => ?_, fun b o u q => ?_, fun _ _ q => q, fun _ _ q => q, rfl⟩
  · rw [upd_ne (fun z => by subst z; rcases ha with z | z | z; exact x.1 z; exact x.2.1 z; exact x.2.2 z)]
    exact q
  · rw [upd_ne (ne_of q h (fun z => by cases z))]
    exact q
  · rw [upd_ne (ne_of q h (fun z => by cases z))]
    exact q
theorem Step.store {a : Addr} {us vs : List V} (ha : a ∈ A.mu ∨ a ∈ A.ga) (h : H a = some (.lst us)) (hc : ∀ b ∈ A.cn, b ∉ A.mu ∧ b ∉ A.ga) : Step A H A (upd H a (.lst vs)) :=
  ⟨Car.store (ha.elim (fun z => .inl z) fun z => .inr (.inl z)) h, rfl, fun b hb => upd_ne (fun z => by subst z; rcases ha with z | z; exact (hc _ hb).1 z; exact (hc _ hb).2 z)⟩
theorem put_ok {d : D} {v : V} {xs zs : List D} {w' : Wd} (hs : w.seq d = some zs) (e : w.put d xs = some w') (S : Sim K H A w σ) (r : RD K H A d v) :
    ∃ a us ys, v = .ref a ∧ H a = some (.lst us) ∧ w.seq d = some ys ∧ RDs K H A ys us ∧ ∀ vs, RDs K H A xs vs → Step A H A (upd H a (.lst vs)) ∧ Sim K (upd H a (.lst vs)) A w' σ := by
  cases d with
  | ref k =>
    unfold Wd.put at e
    obtain ⟨a, q, rfl⟩ := r
    obtain ⟨e1, n⟩ := seq_ref_some hs
    obtain ⟨us, e2, e3⟩ := S.mu.get q e1 n
    have hm := List.mem_of_getElem? q
    by_cases hk : k < w.m.length
    · simp only [if_pos hk, Option.some.injEq] at e
      subst e
      refine ⟨a, us, zs, rfl, e2, hs, e3, fun vs hx => ?_⟩
      have s : Step A H A (upd H a (.lst vs)) := Step.store (.inl hm) e2 (fun b hb => ⟨(S.cnd b hb).1, (S.cnd b hb).2.1⟩)
      refine ⟨s, ⟨fun i d e => let ⟨v, e1, r⟩ := S.loc i d e; ⟨v, e1, r.step s.toCar d v⟩, S.len, RL.store (fun _ _ h => h.step s.toCar) (Cell.mk upd_same (hx.step s.toCar)) S.nd S.mu q, RL.carry (fun xs vs h => h.step s.toCar) (fun b hb ws h => ?_) S.ga, S.nd, S.ndg, S.dj, S.djg, fun b hb => ?_, fun b hb => ?_, S.cnd, S.gk⟩⟩
      · rw [upd_ne (fun z => by subst z; exact (S.dj _ hm).1 hb)]
        exact h
      · obtain ⟨o, h⟩ := S.bt b hb
        refine ⟨o, ?_⟩
        rw [upd_ne (fun z => by subst z; exact (S.dj _ hm).2 hb)]
        exact h
      · obtain ⟨ws, h⟩ := S.cnt b hb
        refine ⟨ws, ?_⟩
        rw [upd_ne (fun z => by subst z; exact (S.cnd _ hb).1 hm)]
        exact h
    · simp only [if_neg hk] at e
      cases e
  | g k =>
    unfold Wd.put at e
    obtain ⟨a, q, rfl⟩ := r
    obtain ⟨us, e2, e3⟩ := S.gget q hs
    have hm := List.mem_of_getElem? q
    by_cases hk : k < w.g.length ∧ xs.all gOk = true
    · simp only [if_pos hk, Option.some.injEq] at e
      subst e
      refine ⟨a, us, zs, rfl, e2, hs, e3, fun vs hx => ?_⟩
      have s : Step A H A (upd H a (.lst vs)) := Step.store (.inr hm) e2 (fun b hb => ⟨(S.cnd b hb).1, (S.cnd b hb).2.1⟩)
      refine ⟨s, ⟨fun i d e => let ⟨v, e1, r⟩ := S.loc i d e; ⟨v, e1, r.step s.toCar d v⟩, S.len, RL.carry (fun xs vs h => h.step s.toCar) (fun b hb ws h => ?_) S.mu, RL.store (fun _ _ h => h.step s.toCar) (Cell.mk upd_same (hx.step s.toCar)) S.ndg S.ga q, S.nd, S.ndg, S.dj, S.djg, fun b hb => ?_, fun b hb => ?_, S.cnd, fun ys hy => (List.mem_or_eq_of_mem_set hy).elim (S.gk ys) fun z => z ▸ hk.2⟩⟩
      · rw [upd_ne (fun z => by subst z; exact (S.dj _ hb).1 hm)]
        exact h
      · obtain ⟨o, h⟩ := S.bt b hb
        refine ⟨o, ?_⟩
        rw [upd_ne (fun z => by subst z; exact S.djg _ hb hm)]
        exact h
      · obtain ⟨ws, h⟩ := S.cnt b hb
        refine ⟨ws, ?_⟩
        rw [upd_ne (fun z => by subst z; exact (S.cnd _ hb).2.1 hm)]
        exact h
    · simp only [if_neg hk] at e
      cases e
  | _ => cases e
end
end Fz

/-! Q4: operators, built-ins, methods upon data. -/
namespace Fz
open PySem PySem.Spec PyProof.Rows L2

/-! ### readings -/
abbrev Sl := L2.St
/-- what is wanted behind an expression -/
def Aft (K : PySem.W.Frag) (A : Ad) (H : Hp) (σ : Sl) (d : D) (w' : Wd) (Q : VK) : Prop := ∀ A' v H', Step A H A' H' → Sim K H' A' w' σ → RD K H' A' d v → Q v H'
def rd (K : PySem.W.Frag) (f : Wd → R (D × Wd)) : TE := fun σ H Q => ∃ A w, Sim K H A w σ ∧ ∃ d w', f w = .ok (d, w') ∧ Aft K A H σ d w' Q
def rdA (K : PySem.W.Frag) (f : Wd → R (List D × Wd)) : TA := fun σ H Q => ∃ A w, Sim K H A w σ ∧ ∃ ds w', f w = .ok (ds, w') ∧ ∀ A' vs H', Step A H A' H' → Sim K H' A' w' σ → RDs K H' A' ds vs → Q vs H'
def rdT (K : PySem.W.Frag) (f : Wd → R (Bool × Wd)) : TT := fun σ H Q => ∃ A w, Sim K H A w σ ∧ ∃ b w', f w = .ok (b, w') ∧ ∀ A' H', Step A H A' H' → Sim K H' A' w' σ → Q b H'
theorem PEimp {X : Cx} {e : Expr} {t t' : TE} (h : PE X e t) (i : ∀ σ H Q, t' σ H Q → t σ H Q) : PE X e t' := ⟨fun pins s σ H Q I q => h.run pins s σ H Q I (i σ H Q q)⟩
theorem PTimp {X : Cx} {e : Expr} {t t' : TT} (h : PT X e t) (i : ∀ σ H Q, t' σ H Q → t σ H Q) : PT X e t' := ⟨fun pins s σ H Q I q => h.run pins s σ H Q I (i σ H Q q)⟩
theorem PAimp {X : Cx} {e : List Expr} {t t' : TA} (h : PA X e t) (i : ∀ σ H Q, t' σ H Q → t σ H Q) : PA X e t' := ⟨fun pos pins s σ H Q I q => h.run pos pins s σ H Q I (i σ H Q q)⟩
theorem bd_split {α β : Type} {r : R α} {f : α → R β} {b : β} (h : r.bd f = .ok b) : ∃ a, r = .ok a ∧ f a = .ok b := by
  cases r with
  | ok a => exact ⟨a, rfl, h⟩
  | exc c ds => cases h
  | err => cases h
theorem of_split {α : Type} {o : Option α} {a : α} (h : R.of o = .ok a) : o = some a := by
  cases o with
  | none => cases h
  | some b => cases h; rfl
section
variable {K : PySem.W.Frag} {H H' : Hp} {A A' : Ad} {w w' : Wd} {σ : Sl} {Q : VK}
/-- an unchanged state -/
theorem Aft.here {d : D} {v : V} (q : Aft K A H σ d w Q) (S : Sim K H A w σ) (r : RD K H A d v) : Q v H := q A v H (Step.refl A H) S r
theorem Aft.step {d : D} {A1 : Ad} {H1 : Hp} (q : Aft K A H σ d w' Q) (s : Step A H A1 H1) : Aft K A1 H1 σ d w' Q := fun A' v H' s' S r => q A' v H' (s.trans s') S r
/-- a new list, tuple -/
theorem Aft.newL {md : Nat} {xs : List D} {vs : List V} {d : D} (e : newL md xs w = .ok (d, w')) (S : Sim K H A w σ) (r : RDs K H A xs vs) (q : Aft K A H σ d w' Q) :
    vs.length ≤ sizeLine ∧ ∀ p, H p = none → Q (.ref p) (upd H p (.lst vs)) :=
  let ⟨h1, h2⟩ := newL_ok e S r
  ⟨h1, fun p hp => let ⟨A', s, S', r'⟩ := h2 p hp; q A' _ _ s S' r'⟩
theorem Aft.newT {xs : List D} {vs : List V} {d : D} (e : newT xs w = .ok (d, w')) (S : Sim K H A w σ) (r : RDs K H A xs vs) (q : Aft K A H σ d w' Q) :
    vs.length ≤ sizeLine ∧ ∀ p, H p = none → Q (.ref p) (upd H p (.tup vs)) := by
  obtain ⟨rfl, rfl, h⟩ := newT_ok e r
  exact ⟨h, fun p hp => q A _ _ (Step.new hp (S.fresh hp).1.2.2) (S.new hp) (RD.newT hp (S.fresh hp).1.2.2 r)⟩
end

theorem len0 (n : Nat) : (n != 0) = ((n : Int) != 0) := by
  cases n with
  | zero => rfl
  | succ n =>
    rw [show (n + 1 != 0) = true from rfl]
    symm
    simp only [bne_iff_ne, ne_eq]
    omega
/-! ### the model's data -/
section
variable {K : PySem.W.Frag} {H : Hp} {A : Ad}
mutual
theorem py_dp {ρ γ : Nat → Option PyData} (hρ : ∀ (k : Nat) a p, ρ k = some p → A.mu[k]? = some a → Dp K H (.ref a) p) (hγ : ∀ (k : Nat) a p, γ k = some p → A.ga[k]? = some a → Dp K H (.ref a) p) :
    ∀ (d : D) (v : V) (p : PyData), Fz.py ρ γ d = some p → RD K H A d v → Dp K H v p
  | .non, _, _, e, h => by cases e; rw [show _ = _ from h]; exact .non
  | .bl b, _, _, e, h => by cases e; rw [show _ = _ from h]; exact .bl b
  | .int b, _, _, e, h => by cases e; rw [show _ = _ from h]; exact .int b
  | .str b, _, _, e, h => by cases e; rw [show _ = _ from h]; exact .str b
  | .tup ds, _, _, e, h => by
    obtain ⟨a, vs, rfl, q, r⟩ := h
    simp only [Fz.py, Option.map_eq_some_iff] at e
    obtain ⟨ps, e1, rfl⟩ := e
    exact .tup q (pyL_dp hρ hγ ds vs ps e1 r)
  | .lst ds, _, _, e, h => by
    obtain ⟨a, vs, rfl, q, _, _, r⟩ := h
    simp only [Fz.py, Option.map_eq_some_iff] at e
    obtain ⟨ps, e1, rfl⟩ := e
    exact .lst (SqL.of q) (pyL_dp hρ hγ ds vs ps e1 r)
  | .fl ds, _, _, e, h => by
    obtain ⟨a, vs, rfl, q, _, r⟩ := h
    simp only [Fz.py, Option.map_eq_some_iff] at e
    obtain ⟨ps, e1, rfl⟩ := e
    exact .lst (SqL.of q) (pyL_dp hρ hγ ds vs ps e1 r)
  | .sc ds, _, _, e, h => by
    obtain ⟨a, vs, rfl, q, r⟩ := h
    simp only [Fz.py, Option.map_eq_some_iff] at e
    obtain ⟨ps, e1, rfl⟩ := e
    exact .lst q.sq (pyL_dp hρ hγ ds vs ps e1 r)
  | .ref k, _, p, e, h => by
    obtain ⟨a, q, rfl⟩ := h
    exact hρ k a p e q
  | .g k, _, p, e, h => by
    obtain ⟨a, q, rfl⟩ := h
    exact hγ k a p e q
theorem pyL_dp {ρ γ : Nat → Option PyData} (hρ : ∀ (k : Nat) a p, ρ k = some p → A.mu[k]? = some a → Dp K H (.ref a) p) (hγ : ∀ (k : Nat) a p, γ k = some p → A.ga[k]? = some a → Dp K H (.ref a) p) :
    ∀ (ds : List D) (vs : List V) (ps : List PyData), pyL ρ γ ds = some ps → RDs K H A ds vs → DpAll K H vs ps
  | [], _, _, e, h => by cases e; rw [show _ = [] from h]; exact .nil
  | d :: ds, _, _, e, h => by
    obtain ⟨v, r, rfl, x, y⟩ := h
    simp only [pyL, Option.bind_eq_some_iff, Option.map_eq_some_iff] at e
    obtain ⟨p, e1, ps, e2, rfl⟩ := e
    exact .cons (py_dp hρ hγ d v p e1 x) (pyL_dp hρ hγ ds r ps e2 y)
end
theorem pyL_noDc {ρ γ : Nat → Option PyData} : ∀ {xs : List D} {ps : List PyData}, pyL ρ γ xs = some ps → isDc xs = false
  | [], _, _ => rfl
  | x :: xs, _, h => by
    cases x with
    | dic ks ds => simp [pyL, Fz.py] at h
    | _ => rfl
theorem pyR_dp {w : Wd} {σ : Sl} (S : Sim K H A w σ) : ∀ (n : Nat) (b : Bool) (k : Nat) a p, pyR w n b k = some p → (if b then A.mu else A.ga)[k]? = some a → Dp K H (.ref a) p
  | 0, _, _, _, _, e, _ => by cases e
  | n + 1, b, k, a, p, e, h => by
    simp only [pyR, Option.bind_eq_some_iff, Option.map_eq_some_iff] at e
    obtain ⟨ds, e1, ps, e2, rfl⟩ := e
    have hl : ∃ vs, H a = some (.lst vs) ∧ RDs K H A ds vs := by
      cases b with
      | true =>
        rw [if_pos rfl] at e1
        exact S.mu.get h e1 (pyL_noDc e2)
      | false =>
        rw [if_neg Bool.false_ne_true] at e1
        exact S.gget h e1
    obtain ⟨vs, q, r⟩ := hl
    exact .lst (SqL.of q) (pyL_dp (fun k a p e h => pyR_dp S n true k a p e h) (fun k a p e h => pyR_dp S n false k a p e h) ds vs ps e2 r)
theorem Sim.dp {w : Wd} {σ : Sl} (S : Sim K H A w σ) {d : D} {v : V} {p : PyData} (e : w.py d = some p) (r : RD K H A d v) : Dp K H v p :=
  py_dp (fun k a p e h => pyR_dp S 4 true k a p e h) (fun k a p e h => pyR_dp S 4 false k a p e h) d v p e r
/-- truth -/
theorem Sim.tru {w : Wd} {σ : Sl} (S : Sim K H A w σ) {d : D} {v : V} {b : Bool} (e : w.tru d = some b) (r : RD K H A d v) : TruV K v H b := by
  have sq : ∀ {xs : List D}, w.seq d = some xs → b = !xs.isEmpty → TruV K v H b := fun {xs} e1 e2 => by
    obtain ⟨a, vs, rfl, rs, h⟩ := S.seq r e1
    have hb : b = !vs.isEmpty := by
      rw [e2]
      have hl := rs.length
      cases vs <;> cases xs <;> simp_all
    rcases h with ⟨_, h⟩ | ⟨_, h⟩
    · exact .inr (.inl ⟨vs, h, hb⟩)
    · exact .inl ⟨vs, h, hb⟩
  have go : (w.seq d).map (fun xs => !xs.isEmpty) = some b → TruV K v H b := fun e => by
    obtain ⟨xs, e1, e2⟩ := Option.map_eq_some_iff.mp e
    exact sq e1 e2.symm
  cases d with
  | non => cases e; rw [show v = .non from r]; exact rfl
  | bl k => cases e; rw [show v = .bl _ from r]; exact rfl
  | int i =>
    have e' : some (i != 0) = some b := e
    rw [show v = .int i from r]
    cases e'
    exact rfl
  | str s =>
    have e' : (if s.length ≤ 1000000 then some (s.length != 0) else none) = some b := e
    by_cases h : s.length ≤ 1000000
    · rw [if_pos h] at e'
      cases e'
      rw [show v = .str s from r]
      exact ⟨Nat.le_trans h (by decide), len0 _⟩
    · rw [if_neg h] at e'
      cases e'
  | _ => exact go e
end
end Fz

/-! Q4d: in, by values. -/
namespace Fz
open PySem PySem.Spec PyProof.Rows L2
/-- x in a tuple, by values -/
theorem op_inDt {X : Cx} (hu : X.A.units + 65 < cLine) : OpR X (compareOp .In) (fun x y H Q => ∃ d ds, Dp X.K H x d ∧ Dp X.K H y (.tuple ds) ∧ SeqAt.shaped d = true ∧ SeqAt.shaped (.tuple ds) = true ∧ Q (.bl (ds.any fun z => PyData.eqv z d)) H) := by
  intro pins s σ H x y v u Q I rx ry h
  obtain ⟨d, ds, hd, he, sd, se, q⟩ := h
  obtain ⟨as, r1⟩ := Dp.reads I d x v hd rx
  obtain ⟨bs, r2⟩ := Dp.reads I (.tuple ds) y u he ry
  exact SeqAt.in_tuple_reads r2 r1 (SeqAt.canLay_of_shaped se) (SeqAt.canLay_of_shaped sd) (room_in_shaped sd hu) ⟨.bl _, H, I, rfl, q⟩
theorem op_notInDt {X : Cx} (hu : X.A.units + 65 < cLine) : OpR X (compareOp .NotIn) (fun x y H Q => ∃ d ds, Dp X.K H x d ∧ Dp X.K H y (.tuple ds) ∧ SeqAt.shaped d = true ∧ SeqAt.shaped (.tuple ds) = true ∧ Q (.bl (!ds.any fun z => PyData.eqv z d)) H) := by
  intro pins s σ H x y v u Q I rx ry h
  obtain ⟨d, ds, hd, he, sd, se, q⟩ := h
  obtain ⟨as, r1⟩ := Dp.reads I d x v hd rx
  obtain ⟨bs, r2⟩ := Dp.reads I (.tuple ds) y u he ry
  exact SeqAt.notIn_tuple_reads r2 r1 (SeqAt.canLay_of_shaped se) (SeqAt.canLay_of_shaped sd) (room_in_shaped sd hu) ⟨.bl _, H, I, rfl, q⟩
end Fz

/-! Q5t: tuple * int, once. -/
namespace Fz
open PySem PySem.Spec PyProof.Rows L2
theorem tuple_mul1 (l : Addr) (items : Array Value) (n : Nat) (dd : Option Addr) (sl : Array (Option Value)) (u : Tok) :
    Meets (Builtin.«tuple.__mul__» { pos := [Value.ref l, Value.int 1 u] }) fun _ R s =>
      s.heap.get? l = some { cls := Value.type "tuple", dict := dd, data := Data.seq items n, slots := sl } ∧ R (Except.ok (Flow.ret (Value.ref l))) s := by
  refine Meets.of_wp fun prog w A R s h => ?_
  obtain ⟨hl, h⟩ := h
  have f1 := AutoSeq1.idx_int
  unfold Builtin.«tuple.__mul__»
  show wpAny (model prog w) A.in1 (asIndex (Value.int 1 u) >>= fun n => if (decide (n < -2 ^ 63) || decide (n ≥ 2 ^ 63)) = true then _ else (Builtin.Tuple.tupleItemsOf (.ref l) >>= fun xs => if (xs.isEmpty || n == 1) = true then (Builtin.Tuple.tupleIsExact (.ref l) >>= fun z => if z = true then (rule "tuple.repeat.same-object" >>= fun _ => ret (.ref l)) else _) else _)) _ _ s
  obtain ⟨hp, g, d, tk, os⟩ := s
  refine wpAny_bind ?_
  show wpAny (model prog w) A.in1 (pure 1 >>= fun o => pure o) _ _ _
  refine wpAny_bind (wpAny_pure (wpAny_pure ?_))
  refine wpAny_ite_false (decide_eq_false (by decide)) (wpAny_bind ?_)
  show wpAny (model prog w) A.in1 (seqItems? (.ref l) >>= fun x => match x with
    | some xs => pure xs
    | _ => unsupported "internal:not-a-tuple") _ _ _
  refine wpAny_bind ?_
  refine wpAny_bind (wpAny_load' hl (wpAny_pure (wpAny_pure ?_)))
  refine wpAny_ite_true (by simp) (wpAny_bind ?_)
  refine wpAny_bind ?_
  refine wpAny_bind (wpAny_load' hl (wpAny_pure (wpAny_pure ?_)))
  refine wpAny_ite_true rfl (wpAny_bind ?_)
  exact wpAny_rule (wpAny_pure ⟨_, rfl, h⟩)
theorem op_repT1 {X : Cx} : OpR X (binaryOp Operator.Mult) fun x y H Q => ∃ l xs, x = V.ref l ∧ y = V.int 1 ∧ SqT X.K H l xs ∧ xs ≠ [] ∧ Q (.ref l) H := by
  intro pins s σ H x y v u Q I rx ry h
  obtain ⟨l, xs, rfl, rfl, hT, hne, q⟩ := h
  obtain rfl : v = .ref l := rx
  obtain ⟨t, rfl⟩ := ry
  obtain ⟨its, r, ⟨o, ho, hc, n, hd⟩, hs⟩ := I.tuple hT
  obtain ⟨cls, dd, data, sl⟩ := o
  obtain rfl : cls = Value.type "tuple" := hc
  obtain rfl : data = Data.seq its.toArray n := hd
  refine wpAny_binaryOp_repeat_ref (by decide) ⟨_, ho, rfl⟩ (fun s' => typeIs_int s' 1 t) noFill_tuple_mul F.fills_int_mul F.slot_int_rmul repeat_tuple F.slot_int_index.lookup ?_
  refine call_meets F.slot_int_rmul (typeIs_int s 1 t) F.entry_int_rmul (F.args_int_rmul_2 _ _) (int_rmul_tuple 1 t l its.toArray n dd sl) ⟨ho, rfl, ⟨_, ho, rfl⟩, ?_⟩
  exact call_meets F.slot_tuple_mul ⟨_, ho, rfl⟩ F.entry_tuple_mul (F.args_tuple_mul_2 _ _) (tuple_mul1 l its.toArray n dd sl t) ⟨ho, .ref l, H, I, rfl, q⟩
end Fz

/-! Q5: operators upon data. -/
namespace Fz
open PySem PySem.Spec PyProof.Rows L2

def oper : Op → Operator
  | .add => .Add
  | .sub => .Sub
  | .mul => .Mult
  | .fdiv => .FloorDiv
  | .mod => .Mod
  | .pow => .Pow
  | .band => .BitAnd
  | .bxor => .BitXor
  | .shl => .LShift
def cmOp : Cm → CmpOp
  | .eq => .Eq
  | .ne => .NotEq
  | .lt => .Lt
  | .le => .LtE
  | .gt => .Gt
  | .ge => .GtE
  | .is => .Is
  | .isnot => .IsNot
  | .isin => .In
  | .notin => .NotIn
/-- an operator upon data -/
def rOp (K : PySem.W.Frag) (o : Op) (md : Nat) : R2 := fun x y H Q => ∃ A w σ d e r w', Sim K H A w σ ∧ RD K H A d x ∧ RD K H A e y ∧ opF o md d e w = .ok (r, w') ∧ Aft K A H σ r w' Q
theorem mulOk_ok {i j : Int} (h : mulOk i j = true) : IntMulOk i j := by
  unfold mulOk at h
  simp only [decide_eq_true_eq] at h
  rcases h with h | h | ⟨h1, h2⟩
  · exact CMul.ok (.inl h)
  · exact CMul.ok (.inr h)
  · exact (wide_mul (a := 400000) (b := 400000) h1 h2 (by decide) (by decide) (by decide)).ok
theorem divOk_ok {i j : Int} (h : divOk i j = true) : j ≠ 0 ∧ Builtin.divisionGoesByPylong i j = false := by
  unfold divOk at h
  simp only [Bool.and_eq_true, Bool.or_eq_true, decide_eq_true_eq, Bool.not_eq_true'] at h
  refine ⟨h.1, ?_⟩
  rcases h.2 with h | h
  · exact PyProof.noPylong_small h
  · exact h
theorem powOk_ok {i j : Int} (h : powOk i j = true) : CPow i j := by
  unfold powOk at h
  exact (of_decide_eq_true h : 0 ≤ j ∧ j ≤ 1000000 ∧ i.natAbs < 2 ^ 64)
theorem op_floor {X : Cx} : OpR X (binaryOp .FloorDiv) (rI (fun i j => j ≠ 0 ∧ Builtin.divisionGoesByPylong i j = false) fun i j => .int (i.fdiv j)) :=
  opI fun _ _ _ _ _ _ _ hc q => floordiv_int hc.1 q (.inl hc.2)
theorem op_mulI {X : Cx} : OpR X (binaryOp .Mult) (rI IntMulOk fun i j => .int (i * j)) := opI fun _ _ _ _ _ _ _ hc q => mul_int q hc
section
variable {X : Cx}
theorem opF_lists {K : PySem.W.Frag} {A : Ad} {H : Hp} {w w' : Wd} {σ : Sl} {d e r : D} {x y : V} {Q : VK} {md : Nat} (S : Sim K H A w σ) (rx : RD K H A d x) (ry : RD K H A e y)
    (h : (if isL d && isL e then (R.of (w.seq d)).bd fun a => (R.of (w.seq e)).bd fun b => newL md (a ++ b) w else .err) = .ok (r, w')) (q : Aft K A H σ r w' Q) : rCat x y H Q := by
  by_cases hl : (isL d && isL e) = true
  · rw [if_pos hl] at h
    obtain ⟨a, e1, h⟩ := bd_split h
    obtain ⟨b, e2, h⟩ := bd_split h
    obtain ⟨l1, l2⟩ := Bool.and_eq_true_iff.mp hl
    obtain ⟨p, vs, rfl, r1, h1⟩ := S.lst rx l1 (of_split e1)
    obtain ⟨p2, us, rfl, r2, h2⟩ := S.lst ry l2 (of_split e2)
    obtain ⟨z, qn⟩ := Aft.newL h S (r1.append r2) q
    exact ⟨p, p2, vs, us, rfl, rfl, h1, h2, by rw [List.length_append] at z; exact z, qn⟩
  · rw [if_neg hl] at h
    cases h
theorem op_sound (o : Op) (md : Nat) : OpR X (binaryOp (oper o)) (rOp X.K o md) := by
  intro pins s σ H x y v u Q I rx ry h
  obtain ⟨A, w, σ', d, e, r, w', S, rd1, rd2, ho, q⟩ := h
  -- two ints
  by_cases hi : ∃ i j, d = .int i ∧ e = .int j
  · obtain ⟨i, j, rfl, rfl⟩ := hi
    have ex : x = .int i := rd1
    have ey : y = .int j := rd2
    subst ex ey
    cases o with
    | add =>
      cases ho
      exact op_add pins s σ H _ _ v u Q I rx ry ⟨i, j, rfl, rfl, q.here S rfl⟩
    | sub =>
      cases ho
      exact op_sub pins s σ H _ _ v u Q I rx ry ⟨i, j, rfl, rfl, q.here S rfl⟩
    | mul =>
      have ho : (if mulOk i j then R.ok (D.int (i * j), w) else .err) = .ok (r, w') := ho
      split at ho
      · rename_i hc
        cases ho
        exact op_mulI pins s σ H _ _ v u Q I rx ry ⟨i, j, rfl, rfl, mulOk_ok hc, q.here S rfl⟩
      · cases ho
    | fdiv =>
      have ho : (if divOk i j then R.ok (D.int (i.fdiv j), w) else .err) = .ok (r, w') := ho
      split at ho
      · rename_i hc
        cases ho
        exact op_floor pins s σ H _ _ v u Q I rx ry ⟨i, j, rfl, rfl, divOk_ok hc, q.here S rfl⟩
      · cases ho
    | mod =>
      have ho : (if j = 0 then R.err else .ok (D.int (i.fmod j), w)) = .ok (r, w') := ho
      split at ho
      · cases ho
      · rename_i hc
        cases ho
        exact op_modN pins s σ H _ _ v u Q I rx ry ⟨i, j, rfl, rfl, hc, q.here S rfl⟩
    | pow =>
      have ho : (if powOk i j then R.ok (D.int (i ^ j.toNat), w) else .err) = .ok (r, w') := ho
      split at ho
      · rename_i hc
        cases ho
        exact op_pow pins s σ H _ _ v u Q I rx ry ⟨i, j, rfl, rfl, powOk_ok hc, q.here S rfl⟩
      · cases ho
    | shl =>
      have ho : (if powOk i j then R.ok (D.int (i * 2 ^ j.toNat), w) else .err) = .ok (r, w') := ho
      split at ho
      · rename_i hc
        cases ho
        exact op_shl pins s σ H _ _ v u Q I rx ry ⟨i, j, rfl, rfl, powOk_ok hc, q.here S rfl⟩
      · cases ho
    | band =>
      cases ho
      exact op_and pins s σ H _ _ v u Q I rx ry ⟨i, j, rfl, rfl, q.here S rfl⟩
    | bxor =>
      cases ho
      exact op_xor pins s σ H _ _ v u Q I rx ry ⟨i, j, rfl, rfl, q.here S rfl⟩
  · cases o with
    | add =>
      by_cases hs : ∃ a b, d = .str a ∧ e = .str b
      · obtain ⟨a, b, rfl, rfl⟩ := hs
        have ex : x = .str a := rd1
        have ey : y = .str b := rd2
        subst ex ey
        have ho : (if a.length + b.length ≤ mxLen then R.ok (D.str (a ++ b), w) else .err) = .ok (r, w') := ho
        split at ho
        · rename_i hc
          cases ho
          exact op_add_str pins s σ H _ _ v u Q I rx ry ⟨a, b, rfl, rfl, Nat.le_trans hc (by decide), q.here S rfl⟩
        · cases ho
      · by_cases ht : ∃ a b, d = .tup a ∧ e = .tup b
        · obtain ⟨a, b, rfl, rfl⟩ := ht
          have ho : newT (a ++ b) w = .ok (r, w') := ho
          obtain ⟨p, vs, rfl, t1, r1⟩ := rd1
          obtain ⟨p2, us, rfl, t2, r2⟩ := rd2
          obtain ⟨z, qn⟩ := Aft.newT ho S (r1.append r2) q
          obtain ⟨rfl, rfl, _⟩ := newT_ok ho (r1.append r2)
          refine op_catA pins s σ H _ _ v u Q I rx ry ⟨p, p2, vs, us, rfl, rfl, t1, t2, by rw [List.length_append] at z; exact z, fun e => ?_, fun _ e => ?_, fun _ _ => qn⟩
          · subst e
            refine q.here S ⟨p2, us, rfl, t2, ?_⟩
            have := r1.append r2
            simpa using this
          · subst e
            refine q.here S ⟨p, vs, rfl, t1, ?_⟩
            have := r1.append r2
            simpa using this
        · refine op_cat pins s σ H x y v u Q I rx ry (opF_lists (md := md) (r := r) (w' := w') S rd1 rd2 ?_ q)
          rw [← ho]
          cases d <;> cases e <;> first | rfl | (exact absurd ⟨_, _, rfl, rfl⟩ hi) | (exact absurd ⟨_, _, rfl, rfl⟩ hs) | (exact absurd ⟨_, _, rfl, rfl⟩ ht)
    | mul =>
      by_cases hp : ∃ a j, d = .tup a ∧ e = .int j
      · obtain ⟨a, j, rfl, rfl⟩ := hp
        have ho : (if decide (1 ≤ j ∧ j ≤ 1000 ∧ a.length ≤ 1000 ∧ a ≠ []) then newT (List.replicate j.toNat a).flatten w else .err) = .ok (r, w') := ho
        split at ho
        · rename_i hc
          obtain ⟨c1, c2, c3, c4⟩ := of_decide_eq_true hc
          obtain ⟨p, vs, rfl, t1, r1⟩ := rd1
          have ey : y = .int j := rd2
          subst ey
          have c5 : vs ≠ [] := fun z => by
            rw [z] at r1
            have := r1.length
            exact c4 (List.length_eq_zero_iff.mp this.symm)
          by_cases h1 : j = 1
          · subst h1
            have e1 : (List.replicate (1 : Int).toNat a).flatten = a := by
              show (List.replicate 1 a).flatten = a
              simp
            rw [e1] at ho
            obtain ⟨rfl, rfl, _⟩ := newT_ok ho r1
            exact op_repT1 pins s σ H _ _ v u Q I rx ry ⟨p, vs, rfl, rfl, t1, c5, q.here S ⟨p, vs, rfl, t1, r1⟩⟩
          · obtain ⟨_, qn⟩ := Aft.newT ho S (RDs.rep j.toNat r1) q
            exact op_repT pins s σ H _ _ v u Q I rx ry ⟨p, j, vs, rfl, rfl, t1, c5, by omega, c2, by rw [r1.length]; exact c3, qn⟩
        · cases ho
      by_cases hj : ∃ j, e = .int j
      · obtain ⟨j, rfl⟩ := hj
        have ho : (if isL d && decide (-(2 ^ 63) ≤ j ∧ j < 2 ^ 63) then (R.of (w.seq d)).bd fun a => if a.length * j.toNat ≤ mxLen then newL md (List.replicate j.toNat a).flatten w else .err else .err) = .ok (r, w') := by
          rw [← ho]
          cases d <;> first | rfl | (exact absurd ⟨_, _, rfl, rfl⟩ hi) | (exact absurd ⟨_, _, rfl, rfl⟩ hp)
        split at ho
        · rename_i hc
          obtain ⟨l1, l2⟩ := Bool.and_eq_true_iff.mp hc
          obtain ⟨a, e1, ho⟩ := bd_split ho
          obtain ⟨p, vs, rfl, r1, h1⟩ := S.lst rd1 l1 (of_split e1)
          have ey : y = .int j := rd2
          subst ey
          split at ho
          · rename_i hz
            obtain ⟨_, qn⟩ := Aft.newL ho S (RDs.rep j.toNat r1) q
            have l3 := of_decide_eq_true l2
            exact op_rep pins s σ H _ _ v u Q I rx ry ⟨p, j, vs, rfl, rfl, h1, l3.1, l3.2, Nat.le_trans (by rw [r1.length]; exact hz) (by decide), qn⟩
          · cases ho
        · cases ho
      · exfalso
        cases d <;> cases e <;> first | (exact hj ⟨_, rfl⟩) | (exact hi ⟨_, _, rfl, rfl⟩) | (cases ho)
    | _ =>
      exfalso
      cases d <;> cases e <;> first | (exact hi ⟨_, _, rfl, rfl⟩) | (cases ho)
/-- a comparison upon data -/
def rCm (K : PySem.W.Frag) (c : Cm) : R2 := fun x y H Q => ∃ A w σ d e b, Sim K H A w σ ∧ RD K H A d x ∧ RD K H A e y ∧ cmF c d e w = some b ∧ Q (.bl b) H
theorem eqF_cases {d e : D} {w : Wd} {b : Bool} (h : eqF d e w = some b) :
    (∃ i j, d = .int i ∧ e = .int j ∧ b = decide (i = j)) ∨ (∃ i j, d = .str i ∧ e = .str j ∧ b = decide (i = j)) ∨
      ∃ p q, w.py d = some p ∧ w.py e = some q ∧ SeqAt.shaped p = true ∧ SeqAt.shaped q = true ∧ b = PyData.eqv p q := by
  have go : ((w.py d).bind fun a => (w.py e).bind fun b => if SeqAt.shaped a && SeqAt.shaped b then some (PyData.eqv a b) else none) = some b → 
      ∃ p q, w.py d = some p ∧ w.py e = some q ∧ SeqAt.shaped p = true ∧ SeqAt.shaped q = true ∧ b = PyData.eqv p q := fun h => by
    simp only [Option.bind_eq_some_iff] at h
    obtain ⟨p, e1, q, e2, h⟩ := h
    split at h
    · rename_i hc
      obtain ⟨c1, c2⟩ := Bool.and_eq_true_iff.mp hc
      cases h
      exact ⟨p, q, e1, e2, c1, c2, rfl⟩
    · cases h
  by_cases hi : ∃ i j, d = .int i ∧ e = .int j
  · obtain ⟨i, j, rfl, rfl⟩ := hi
    cases h
    exact .inl ⟨i, j, rfl, rfl, rfl⟩
  · by_cases hs : ∃ i j, d = .str i ∧ e = .str j
    · obtain ⟨i, j, rfl, rfl⟩ := hs
      cases h
      exact .inr (.inl ⟨i, j, rfl, rfl, rfl⟩)
    · refine .inr (.inr (go ?_))
      rw [← h]
      cases d <;> cases e <;> first | rfl | (exact absurd ⟨_, _, rfl, rfl⟩ hi) | (exact absurd ⟨_, _, rfl, rfl⟩ hs)
theorem flat_rd {K : PySem.W.Frag} {H : Hp} {A : Ad} {d : D} {v : V} (f : isFlat d = true) (r : RD K H A d v) : flatV v = true ∧ ∀ (e : D) (u : V), isFlat e = true → RD K H A e u → eqV v u = flatEq d e := by
  cases d with
  | non =>
    rw [show v = .non from r]
    refine ⟨rfl, fun e u fe re => ?_⟩
    cases e with
    | non => rw [show u = .non from re]; rfl
    | bl b => rw [show u = .bl b from re]; rfl
    | int i => rw [show u = .int i from re]; rfl
    | str i => rw [show u = .str i from re]; rfl
    | _ => cases fe
  | bl b0 =>
    rw [show v = .bl b0 from r]
    refine ⟨rfl, fun e u fe re => ?_⟩
    cases e with
    | non => rw [show u = .non from re]; rfl
    | bl b => rw [show u = .bl b from re]; rfl
    | int i => rw [show u = .int i from re]; rfl
    | str i => rw [show u = .str i from re]; rfl
    | _ => cases fe
  | int b0 =>
    rw [show v = .int b0 from r]
    refine ⟨rfl, fun e u fe re => ?_⟩
    cases e with
    | non => rw [show u = .non from re]; rfl
    | bl b => rw [show u = .bl b from re]; rfl
    | int i => rw [show u = .int i from re]; rfl
    | str i => rw [show u = .str i from re]; rfl
    | _ => cases fe
  | str b0 =>
    rw [show v = .str b0 from r]
    refine ⟨rfl, fun e u fe re => ?_⟩
    cases e with
    | non => rw [show u = .non from re]; rfl
    | bl b => rw [show u = .bl b from re]; rfl
    | int i => rw [show u = .int i from re]; rfl
    | str i => rw [show u = .str i from re]; rfl
    | _ => cases fe
  | _ => cases f
theorem flats_rd {K : PySem.W.Frag} {H : Hp} {A : Ad} {x : D} {v : V} (f : isFlat x = true) (r : RD K H A x v) : ∀ {ds : List D} {vs : List V}, ds.all isFlat = true → RDs K H A ds vs → vs.all flatV = true ∧ inV v vs = ds.any fun z => flatEq z x
  | [], _, _, h => by rw [show _ = [] from h]; exact ⟨rfl, rfl⟩
  | d :: ds, _, a, h => by
    obtain ⟨u, us, rfl, p, q⟩ := h
    obtain ⟨a1, a2⟩ := Bool.and_eq_true_iff.mp (show (isFlat d && ds.all isFlat) = true from a)
    obtain ⟨c1, c2⟩ := flat_rd a1 p
    obtain ⟨i1, i2⟩ := flats_rd f r a2 q
    refine ⟨by rw [List.all_cons, c1, i1]; rfl, ?_⟩
    show (eqV u v || inV v us) = _
    rw [c2 x v f r, i2]
    rfl
theorem cm_sound (c : Cm) (hu65 : X.A.units + 65 < cLine) : OpR X (compareOp (cmOp c)) (rCm X.K c) := by
  have hu : X.A.units + 64 < cLine := by omega
  intro pins s σ H x y v u Q I rx ry h
  obtain ⟨A, w, σ', d, e, b, S, rd1, rd2, ho, q⟩ := h
  have two : ∀ {i j}, d = .int i → e = .int j → x = .int i ∧ y = .int j := fun hd he => by
    subst hd he
    exact ⟨rd1, rd2⟩
  cases c with
  | eq =>
    rcases eqF_cases ho with ⟨i, j, h1, h2, rfl⟩ | ⟨i, j, rfl, rfl, rfl⟩ | ⟨p, p2, e1, e2, s1, s2, rfl⟩
    · obtain ⟨rfl, rfl⟩ := two h1 h2
      refine op_eq pins s σ H _ _ v u Q I rx ry ⟨rfl, ?_⟩
      rw [show decide ((V.int i) = .int j) = decide (i = j) by simp]
      exact q
    · obtain rfl : x = .str i := rd1
      obtain rfl : y = .str j := rd2
      refine op_eq pins s σ H _ _ v u Q I rx ry ⟨rfl, ?_⟩
      rw [show decide ((V.str i) = .str j) = decide (i = j) by simp]
      exact q
    · exact op_eqD hu pins s σ H _ _ v u Q I rx ry ⟨p, p2, S.dp e1 rd1, S.dp e2 rd2, s1, s2, q⟩
  | ne =>
    obtain ⟨b', ho', rfl⟩ := Option.map_eq_some_iff.mp (show (eqF d e w).map (fun b => !b) = some b from ho)
    rcases eqF_cases ho' with ⟨i, j, h1, h2, rfl⟩ | ⟨i, j, rfl, rfl, rfl⟩ | ⟨p, p2, e1, e2, s1, s2, rfl⟩
    · obtain ⟨rfl, rfl⟩ := two h1 h2
      refine op_ne pins s σ H _ _ v u Q I rx ry ⟨rfl, ?_⟩
      rw [show decide ((V.int i) = .int j) = decide (i = j) by simp]
      exact q
    · obtain rfl : x = .str i := rd1
      obtain rfl : y = .str j := rd2
      refine op_ne pins s σ H _ _ v u Q I rx ry ⟨rfl, ?_⟩
      rw [show decide ((V.str i) = .str j) = decide (i = j) by simp]
      exact q
    · exact op_neD hu pins s σ H _ _ v u Q I rx ry ⟨p, p2, S.dp e1 rd1, S.dp e2 rd2, s1, s2, q⟩
  | lt =>
    by_cases hi : ∃ i j, d = .int i ∧ e = .int j
    · obtain ⟨i, j, h1, h2⟩ := hi
      obtain ⟨rfl, rfl⟩ := two h1 h2
      subst h1 h2
      cases ho
      exact op_lt pins s σ H _ _ v u Q I rx ry ⟨i, j, rfl, rfl, q⟩
    · exfalso
      cases d <;> cases e <;> first | (exact hi ⟨_, _, rfl, rfl⟩) | (cases ho)
  | le =>
    by_cases hi : ∃ i j, d = .int i ∧ e = .int j
    · obtain ⟨i, j, h1, h2⟩ := hi
      obtain ⟨rfl, rfl⟩ := two h1 h2
      subst h1 h2
      cases ho
      exact op_le pins s σ H _ _ v u Q I rx ry ⟨i, j, rfl, rfl, q⟩
    · exfalso
      cases d <;> cases e <;> first | (exact hi ⟨_, _, rfl, rfl⟩) | (cases ho)
  | gt =>
    by_cases hi : ∃ i j, d = .int i ∧ e = .int j
    · obtain ⟨i, j, h1, h2⟩ := hi
      obtain ⟨rfl, rfl⟩ := two h1 h2
      subst h1 h2
      cases ho
      exact op_gt pins s σ H _ _ v u Q I rx ry ⟨i, j, rfl, rfl, q⟩
    · exfalso
      cases d <;> cases e <;> first | (exact hi ⟨_, _, rfl, rfl⟩) | (cases ho)
  | ge =>
    by_cases hi : ∃ i j, d = .int i ∧ e = .int j
    · obtain ⟨i, j, h1, h2⟩ := hi
      obtain ⟨rfl, rfl⟩ := two h1 h2
      subst h1 h2
      cases ho
      exact op_ge pins s σ H _ _ v u Q I rx ry ⟨i, j, rfl, rfl, q⟩
    · exfalso
      cases d <;> cases e <;> first | (exact hi ⟨_, _, rfl, rfl⟩) | (cases ho)
  | is =>
    cases e with
    | non =>
      have ey : y = .non := rd2
      subst ey
      refine op_isN pins s σ H _ _ v u Q I rx ry ⟨rfl, ?_⟩
      cases d with
      | non => cases ho; rw [show x = .non from rd1]; exact q
      | bl k => cases ho; rw [show x = .bl k from rd1]; exact q
      | int k => cases ho; rw [show x = .int k from rd1]; exact q
      | str k => cases ho; rw [show x = .str k from rd1]; exact q
      | tup k => cases ho; obtain ⟨a, vs, rfl, _⟩ := rd1; exact q
      | lst k => cases ho; obtain ⟨a, vs, rfl, _⟩ := rd1; exact q
      | fl k => cases ho; obtain ⟨a, vs, rfl, _⟩ := rd1; exact q
      | sc k => cases ho; obtain ⟨a, vs, rfl, _⟩ := rd1; exact q
      | ref k => cases ho; obtain ⟨a, _, rfl⟩ := rd1; exact q
      | g k => cases ho; obtain ⟨a, _, rfl⟩ := rd1; exact q
      | dic ks k => cases ho; obtain ⟨a, vs, rfl, _⟩ := rd1; exact q
    | bl k =>
      cases d with
      | bl j =>
        cases ho
        exact op_isBl pins s σ H _ _ v u Q I rx ry ⟨j, k, rd1, rd2, q⟩
      | _ => cases ho
    | _ => cases d <;> cases ho
  | isnot =>
    cases e with
    | non =>
      have ey : y = .non := rd2
      subst ey
      refine op_notN pins s σ H _ _ v u Q I rx ry ⟨rfl, ?_⟩
      cases d with
      | non => cases ho; rw [show x = .non from rd1]; exact q
      | bl k => cases ho; rw [show x = .bl k from rd1]; exact q
      | int k => cases ho; rw [show x = .int k from rd1]; exact q
      | str k => cases ho; rw [show x = .str k from rd1]; exact q
      | tup k => cases ho; obtain ⟨a, vs, rfl, _⟩ := rd1; exact q
      | lst k => cases ho; obtain ⟨a, vs, rfl, _⟩ := rd1; exact q
      | fl k => cases ho; obtain ⟨a, vs, rfl, _⟩ := rd1; exact q
      | sc k => cases ho; obtain ⟨a, vs, rfl, _⟩ := rd1; exact q
      | ref k => cases ho; obtain ⟨a, _, rfl⟩ := rd1; exact q
      | g k => cases ho; obtain ⟨a, _, rfl⟩ := rd1; exact q
      | dic ks k => cases ho; obtain ⟨a, vs, rfl, _⟩ := rd1; exact q
    | bl k =>
      cases d with
      | bl j =>
        cases ho
        exact op_notBl pins s σ H _ _ v u Q I rx ry ⟨j, k, rd1, rd2, q⟩
      | _ => cases ho
    | _ => cases d <;> cases ho
  | isin =>
    have ho : (if isFlat d then (w.seq e).bind fun ys => if ys.all isFlat then some (ys.any fun z => flatEq z d) else none else inD d e w) = some b := by
      rw [← ho]
      cases d <;> cases e <;> rfl
    split at ho
    · rename_i hf
      obtain ⟨ys, e1, ho⟩ := Option.bind_eq_some_iff.mp ho
      split at ho
      · rename_i ha
        cases ho
        obtain ⟨a, vs, rfl, rs, hq⟩ := S.seq rd2 e1
        obtain ⟨c1, c2⟩ := flats_rd hf rd1 ha rs
        refine op_in_seq pins s σ H _ _ v u Q I rx ry ⟨a, vs, rfl, ?_, (flat_rd hf rd1).1, c1, ?_⟩
        · rcases hq with hq | hq
          · exact .inr hq.2
          · exact .inl hq.2
        · rw [if_neg Bool.false_ne_true, c2]
          exact q
      · cases ho
    · obtain ⟨p1, e1, ho⟩ := Option.bind_eq_some_iff.mp ho
      obtain ⟨p2, e2, ho⟩ := Option.bind_eq_some_iff.mp ho
      cases p2 with
      | list ps =>
        have ho : (if SeqAt.shaped p1 && SeqAt.shaped (.list ps) then some (ps.any fun z => PyData.eqv z p1) else none) = some b := ho
        split at ho
        · rename_i hs
          obtain ⟨s1, s2⟩ := Bool.and_eq_true_iff.mp hs
          cases ho
          exact op_inD hu65 pins s σ H _ _ v u Q I rx ry ⟨p1, ps, S.dp e1 rd1, S.dp e2 rd2, s1, s2, q⟩
        · cases ho
      | tuple ps =>
        have ho : (if SeqAt.shaped p1 && SeqAt.shaped (.tuple ps) then some (ps.any fun z => PyData.eqv z p1) else none) = some b := ho
        split at ho
        · rename_i hs
          obtain ⟨s1, s2⟩ := Bool.and_eq_true_iff.mp hs
          cases ho
          exact op_inDt hu65 pins s σ H _ _ v u Q I rx ry ⟨p1, ps, S.dp e1 rd1, S.dp e2 rd2, s1, s2, q⟩
        · cases ho
      | _ => cases ho
  | notin =>
    have ho : (if isFlat d then (w.seq e).bind fun ys => if ys.all isFlat then some (!(ys.any fun z => flatEq z d)) else none else (inD d e w).map fun b => !b) = some b := by
      rw [← ho]
      cases d <;> cases e <;> rfl
    split at ho
    · rename_i hf
      obtain ⟨ys, e1, ho⟩ := Option.bind_eq_some_iff.mp ho
      split at ho
      · rename_i ha
        cases ho
        obtain ⟨a, vs, rfl, rs, hq⟩ := S.seq rd2 e1
        obtain ⟨c1, c2⟩ := flats_rd hf rd1 ha rs
        refine op_notIn_seq pins s σ H _ _ v u Q I rx ry ⟨a, vs, rfl, ?_, (flat_rd hf rd1).1, c1, ?_⟩
        · rcases hq with hq | hq
          · exact .inr hq.2
          · exact .inl hq.2
        · rw [if_pos rfl, c2]
          exact q
      · cases ho
    · obtain ⟨b', ho, eb⟩ := Option.map_eq_some_iff.mp ho
      obtain ⟨p1, e1, ho⟩ := Option.bind_eq_some_iff.mp ho
      obtain ⟨p2, e2, ho⟩ := Option.bind_eq_some_iff.mp ho
      subst eb
      cases p2 with
      | list ps =>
        have ho : (if SeqAt.shaped p1 && SeqAt.shaped (.list ps) then some (ps.any fun z => PyData.eqv z p1) else none) = some b' := ho
        split at ho
        · rename_i hs
          obtain ⟨s1, s2⟩ := Bool.and_eq_true_iff.mp hs
          cases ho
          exact op_notInD hu65 pins s σ H _ _ v u Q I rx ry ⟨p1, ps, S.dp e1 rd1, S.dp e2 rd2, s1, s2, q⟩
        · cases ho
      | tuple ps =>
        have ho : (if SeqAt.shaped p1 && SeqAt.shaped (.tuple ps) then some (ps.any fun z => PyData.eqv z p1) else none) = some b' := ho
        split at ho
        · rename_i hs
          obtain ⟨s1, s2⟩ := Bool.and_eq_true_iff.mp hs
          cases ho
          exact op_notInDt hu65 pins s σ H _ _ v u Q I rx ry ⟨p1, ps, S.dp e1 rd1, S.dp e2 rd2, s1, s2, q⟩
        · cases ho
      | _ => cases ho
end
end Fz

/-! Q6: repr of data, ints of up to 4300 figures within. -/
namespace Fz
open PySem PySem.Spec PyProof.Rows L2

section
variable {prog : Program} {w : World} {A : Around} {E : Value → Shared → Prop} {s : Shared}
theorem intRepr {a : Int} {t : Tok} {Q : Value → Shared → Prop} (hn : s.heap.NoDigits) (lt : a.natAbs < 10 ^ 4300) (h : Q (.str (toString a) s.toks) { s with toks := s.toks + 1 }) :
    wpAny (model prog w) A (call (.builtin "int.__repr__") [.int a t]) Q E s := by
  refine wpAny_call_entry F.slot_int_repr (typeIs_int s a t) F.entry_int_repr ?_ (F.args_int_repr_1 _)
  unfold Builtin.«int.__repr__»
  show wpAny _ _ (do let z ← Builtin.overDigitLimit? a; _) _ _ s
  refine wpAny_bind (overDigitLimit_any hn (fun _ => ?_) fun ge => absurd lt (Nat.not_lt.mpr ge))
  exact wpAny_bind (wpAny_mkStr (wpAny_pure ⟨_, rfl, h⟩) (int_text_fits10 lt))
theorem intReprObj {a : Int} {t : Tok} {Q : Value → Shared → Prop} (hu : A.units < cLine) (hn : s.heap.NoDigits) (lt : a.natAbs < 10 ^ 4300) (h : Q (.str (toString a) s.toks) { s with toks := s.toks + 1 }) :
    wpAny (model prog w) A (pyReprObj (.int a t)) Q E s :=
  wpAny_pyReprObj_slot hu (typeIs_int s a t) F.slot_int_repr.toG (intRepr hn lt ⟨_, _, rfl, h⟩)
theorem intK {h0 : Heap} {a : Int} {t : Tok} (hn : h0.NoDigits) (lt : a.natAbs < 10 ^ 4300) : ReprK prog w [] h0 0 (.int a t) (toString a) := by
  intro base hb B g E' s' Q hg _ hu hk hQ
  rw [pyReprUnder_leaf (v := .int a t) (by omega) (fun _ e => nomatch e)]
  unfold pyRepr
  exact wpAny_bind (intReprObj (by omega) (Heap.NoDigits.keeps hn hk) lt (wpAny_pure (hQ s'.heap _ fun _ _ e => e)))
end
section
variable {prog : Program} {w : World} {h0 : Heap}
mutual
theorem showK (hn : h0.NoDigits) : ∀ {v : Value} {p : PyData} {as : List Addr}, Reads h0 v p as → canShow p = true → p.shown.length ≤ sizeLine → ∃ bs, ReadAtMost h0 p.depth bs ∧ ReprK prog w bs h0 p.depth v p.shown
  | _, _, _, .none, _, _ => ⟨[], (fun _ h => nomatch h), by
      simp only [PyData.shown]
      exact ReprK.of_is ReprIs.none _ _ _⟩
  | _, _, _, .bool b, _, _ => ⟨[], (fun _ h => nomatch h), by
      simp only [PyData.shown]
      exact ReprK.of_is (ReprIs.bool b) _ _ _⟩
  | _, _, _, .int i t, c, _ => ⟨[], (fun _ h => nomatch h), by
      simp only [PyData.shown, PyData.depth]
      exact intK hn (by simpa [canShow] using c)⟩
  | _, _, _, .str x t, _, z => ⟨[], (fun _ h => nomatch h), by
      simp only [PyData.shown]
      exact ReprK.of_is (ReprIs.str x t (by simpa only [PyData.shown] using z)) _ _ _⟩
  | _, _, _, .list (a := a) (vs := vs) (xs := ps) e1 e2 e3 e4, c, z => by
    have z' : (listText (PyData.shownAll ps)).length ≤ sizeLine := by simpa only [PyData.shown] using z
    obtain ⟨bs, m, k⟩ := showsK hn e4 (by simpa [canShow] using c) fun t ht => Nat.le_trans (listText_mem_le ht) z'
    have rr : Reads h0 (.ref a) (.list ps) _ := .list e1 e2 e3 e4
    have no : a ∉ bs := not_mem_of_deeper rr (by simp only [PyData.depth]; omega) m
    refine ⟨a :: bs, ReadAtMost.cons rr (by simp only [PyData.depth]; omega) m, ?_⟩
    simp only [PyData.depth, PyData.shown]
    obtain ⟨l⟩ := vs
    cases l with
    | nil =>
      have e5 : ReadsAll h0 [] ps _ := e4
      cases e5
      simp only [PyData.shownAll, listText_nil]
      exact ReprK.listEmpty e1 e2 e3
    | cons y l =>
      refine ReprK.list e1 e2 e3 no (by simpa using k.length_eq) fun i y e => ?_
      exact k.item i y (by simpa using e)
  | _, _, _, .tuple (a := a) (xs := ps) e1 e2 e3 e4, c, z => by
    have z' : (tupleText (PyData.shownAll ps)).length ≤ sizeLine := by simpa only [PyData.shown] using z
    obtain ⟨bs, m, k⟩ := showsK hn e4 (by simpa [canShow] using c) fun t ht => Nat.le_trans (tupleText_mem_le ht) z'
    have rr : Reads h0 (.ref a) (.tuple ps) _ := .tuple e1 e2 e3 e4
    have no : a ∉ bs := not_mem_of_deeper rr (by simp only [PyData.depth]; omega) m
    refine ⟨a :: bs, ReadAtMost.cons rr (by simp only [PyData.depth]; omega) m, ?_⟩
    simp only [PyData.depth, PyData.shown]
    exact ReprK.tuple e1 e2 e3 no k
  | _, _, _, .dict _ _ _ _ _, c, _ => by simp [canShow] at c
theorem showsK (hn : h0.NoDigits) : ∀ {vs : List Value} {ps : List PyData} {as : List Addr}, ReadsAll h0 vs ps as → canShows ps = true → (∀ t ∈ PyData.shownAll ps, t.length ≤ sizeLine) →
    ∃ bs, ReadAtMost h0 (PyData.depthAll ps) bs ∧ ReprAllK prog w bs h0 (PyData.depthAll ps) vs (PyData.shownAll ps)
  | _, _, _, .nil, _, _ => ⟨[], (fun _ h => nomatch h), by
      simp only [PyData.shownAll]
      exact ReprAllK.nil⟩
  | _, _, _, .cons (d := p) (ds := ps) r q, c, z => by
    obtain ⟨c1, c2⟩ := Bool.and_eq_true_iff.mp (show (canShow p && canShows ps) = true by simpa [canShows] using c)
    simp only [PyData.shownAll, List.mem_cons] at z
    obtain ⟨b1, m1, k1⟩ := showK hn r c1 (z _ (.inl rfl))
    obtain ⟨b2, m2, k2⟩ := showsK hn q c2 fun t ht => z t (.inr ht)
    refine ⟨b1 ++ b2, fun b hb => ?_, ?_⟩
    · simp only [PyData.depthAll]
      rcases List.mem_append.mp hb with hb | hb
      · obtain ⟨d', as', r', l⟩ := m1 b hb
        exact ⟨d', as', r', Nat.le_trans l (Nat.le_max_left _ _)⟩
      · obtain ⟨d', as', r', l⟩ := m2 b hb
        exact ⟨d', as', r', Nat.le_trans l (Nat.le_max_right _ _)⟩
    · simp only [PyData.depthAll, PyData.shownAll]
      refine ReprAllK.cons ((k1.more fun b hb => ?_).level_le (Nat.le_max_left _ _)) (k2.more_le (fun b hb => ?_) (Nat.le_max_right _ _))
      · exact List.mem_append_left _ hb
      · exact List.mem_append_right _ hb
end
end
section
variable {X : Cx}
theorem Inv.nodig {pins : List (Addr × Obj)} {σ : Sl} {H : Hp} {s : Shared} (I : Inv X pins σ H s) (hn : X.base.NoDigits) : s.heap.NoDigits := hn.keeps I.bk
theorem reprCall {prog : Program} {w : World} {A : Around} {E : Value → Shared → Prop} {s : Shared} {Q : Value → Shared → Prop} (hs : s.heap.NoDigits) (hg : A.guards = some []) (hu : A.units + 64 < cLine) :
    ∀ {u : Value} {p : PyData} {as : List Addr}, Reads s.heap u p as → canShow p = true → p.depth ≤ 60 → p.shown.length ≤ sizeLine →
      (∀ h' u' tk, (∀ b o, s.heap.get? b = some o → h'.get? b = some o) → Q (.str p.shown u') { s with heap := h', toks := tk }) → wpAny (model prog w) A (call (.builtin "repr") [u]) Q E s
  | _, _, _, .none, _, _, _, fin => by
    simp only [PyData.shown] at fin
    exact PySem.P.repr_of_none (fin s.heap _ _ fun _ _ e => e)
  | _, _, _, .bool b, _, _, _, fin => by
    simp only [PyData.shown] at fin
    exact PySem.P.repr_of_bool (fin s.heap _ _ fun _ _ e => e)
  | _, _, _, .int i t, ok, _, _, fin => by
    simp only [PyData.shown] at fin
    have hu1 : A.units + 1 < cLine := by omega
    exact call_repr_slot hu1 (typeIs_int s i t) F.slot_int_repr.toG (intRepr hs (by simpa [canShow] using ok) ⟨_, _, rfl, fin s.heap _ _ fun _ _ e => e⟩)
  | _, _, _, .str y t, _, _, z1, fin => by
    simp only [PyData.shown] at fin z1
    exact PySem.P.repr_of_str (fin s.heap _ _ fun _ _ e => e) z1
  | _, _, _, .list (a := a) (o := o) (vs := vs) (xs := ps) e1 e2 e3 e4, ok, z3, z1, fin => by
    simp only [PyData.shown] at z1 fin
    simp only [PyData.depth] at z3
    obtain ⟨bs, m, k⟩ := showsK (prog := prog) (w := w) hs e4 (by simpa [canShow] using ok) fun t ht => Nat.le_trans (listText_mem_le ht) z1
    have no : a ∉ bs := not_mem_of_deeper (.list e1 e2 e3 e4) (by simp only [PyData.depth]; omega) m
    have hu1 : A.units + 1 < cLine := by omega
    refine call_repr_slot hu1 ⟨o, e1, e2⟩ F.slot_list_repr.toG ?_
    obtain ⟨l⟩ := vs
    cases l with
    | nil =>
      have e5 : ReadsAll s.heap [] ps _ := e4
      cases e5
      simp only [PyData.shownAll, listText_nil] at fin
      exact call_list_repr_empty ⟨o, e1, e2⟩ e1 e3 ⟨_, _, rfl, fin s.heap _ _ fun _ _ e => e⟩
    | cons y l =>
      refine call_list_reprK e1 e2 e3 no (by simpa using k.length_eq) (fun i y e => k.item i y (by simpa using e)) (A := A.in1) hg (fun b _ => Clear.nil b) ?_ (fun _ _ e => e) (fun h' u' tk hk => ⟨_, _, rfl, fin h' u' tk hk⟩) z1
      show A.units + 1 + _ < cLine
      omega
  | _, _, _, .tuple (a := a) (o := o) (xs := ps) e1 e2 e3 e4, ok, z3, z1, fin => by
    simp only [PyData.shown] at z1 fin
    simp only [PyData.depth] at z3
    obtain ⟨bs, m, k⟩ := showsK (prog := prog) (w := w) hs e4 (by simpa [canShow] using ok) fun t ht => Nat.le_trans (tupleText_mem_le ht) z1
    have no : a ∉ bs := not_mem_of_deeper (.tuple e1 e2 e3 e4) (by simp only [PyData.depth]; omega) m
    have hu1 : A.units + 1 < cLine := by omega
    refine call_repr_slot hu1 ⟨o, e1, e2⟩ F.slot_tuple_repr ?_
    refine call_tuple_reprK e1 e2 e3 no k (A := A.in1) hg (fun b _ => Clear.nil b) ?_ (fun _ _ e => e) (fun h' u' tk hk => ⟨_, _, rfl, fin h' u' tk hk⟩) z1
    show A.units + 1 + _ < cLine
    omega
  | _, _, _, .dict _ _ _ _ _, ok, _, _, _ => by simp [canShow] at ok
theorem call_reprD (hn : X.base.NoDigits) (hg : X.A.guards = some []) (hu : X.A.units + 64 < cLine) :
    CallR X (.builtin "repr") fun xs H Q => ∃ x p, xs = [x] ∧ Dp X.K H x p ∧ reprOk p = true ∧ Q (.str p.shown) H := by
  intro pins s σ H xs us Q I r h
  obtain ⟨x, p, rfl, dp, ok, q⟩ := h
  obtain ⟨u, rfl, ru⟩ := vals1 r
  obtain ⟨as, rr⟩ := Dp.reads I p x u dp ru
  obtain ⟨ok, z⟩ := Bool.and_eq_true_iff.mp ok
  obtain ⟨ok, z2⟩ := Bool.and_eq_true_iff.mp ok
  refine reprCall (Inv.nodig I hn) hg hu rr ok (of_decide_eq_true z2) (Nat.le_trans (of_decide_eq_true z) (by decide)) fun h' u' tk k => ?_
  exact ⟨.str p.shown, H, I.kept k, ⟨_, rfl⟩, q⟩
end
end Fz

/-! Q6d: the sum of a tuple; a dict out of pairs. -/
namespace Fz
open PySem PySem.Spec PyProof.Rows L2
section
variable {prog : Program} {w : World} {A : Around} {E : Value → Shared → Prop} {s : Shared} {l : Addr}
theorem sum_intTup {xs : Array (Int × Tok)} {Q : Value → Shared → Prop} (hh : A.handled = none) (hl : s.heap.IsTuple l (intItems xs))
    (h : ∀ h' tk t', (∀ b o, s.heap.get? b = some o → h'.get? b = some o) → Q (.int (preSum (numAt xs) xs.size) t') { s with heap := h', toks := tk }) :
    wpAny (model prog w) A (call (.builtin "sum") [.ref l]) Q E s := by
  have hlt : l < s.heap.objs.size := by obtain ⟨_, e, _⟩ := hl; exact Heap.lt_size e
  refine call_sum_walkG (wpAny_pyIter_tuple hl ?_)
  have hsz : (s.heap.push { cls := .type "tuple_iterator", data := .fields #[.ref l, .int 0 0] }).objs.size = s.heap.objs.size + 1 := Heap.size_push ..
  refine ⟨_, [_, l], [_], _, _, _, numAt xs, rfl, Walks.tuple (A := A.in1) hh _ l (Nat.ne_of_lt hlt) (intItems xs), ⟨⟨_, Heap.get?_push_size _ rfl, rfl, rfl⟩, hl.push _⟩, fun c hc => ?_, (fun _ _ => intItems_at), fun h' tk t' hk => ?_⟩
  · show c < (s.heap.push _).objs.size
    rw [Heap.size_push]
    rcases List.mem_cons.mp hc with rfl | hc
    · exact Nat.lt_succ_self _
    · rw [List.mem_singleton] at hc; rw [hc]; exact Nat.lt_succ_of_lt hlt
  · have := h h' tk t' (fun b o e => hk b o (fun z => by rw [List.mem_singleton] at z; subst z; exact absurd (Heap.lt_size e) (Nat.lt_irrefl _)) (Heap.get?_push_of_some _ e))
    simpa [intItems] using this
theorem sumT_raw {its : List Value} {ns : List Int} {Q : Value → Shared → Prop} (hh : A.handled = none) (hl : s.heap.IsTuple l its.toArray) (hi : IntsAre its ns)
    (h : ∀ h' tk t', (∀ b o, s.heap.get? b = some o → h'.get? b = some o) → Q (.int ns.sum t') { s with heap := h', toks := tk }) : wpAny (model prog w) A (call (.builtin "sum") [.ref l]) Q E s := by
  obtain ⟨xs, e⟩ := hi.allInts.items
  have hn : numsOf (intItems xs).toList = ns := by rw [← e]; exact hi.numsOf
  rw [nums_intItems] at hn
  rw [e] at hl
  refine sum_intTup hh hl fun h' tk t' hk => ?_
  have := h h' tk t' hk
  rw [preSum_eq, List.take_of_length_le (by simp), hn]; exact this
end
section
variable {X : Cx}
theorem cr_sumT (hc : X.calm = true) : CallR X (.builtin "sum") (fun vs H Q => ∃ (a : Addr) (ns : List Int), vs = [V.ref a] ∧ SqT X.K H a (ns.map V.int) ∧ Q (.int ns.sum) H) := by
  intro pins s σ H vs us Q I r h
  obtain ⟨a, ns, rfl, hs, q⟩ := h
  obtain ⟨its, rv, hl, _⟩ := I.tuple hs
  rw [Vals.ref1 r]
  exact sumT_raw (I.ok.hd hc) hl rv.ints fun h' tk t' hk => ⟨.int _, H, I.kept hk, ⟨_, rfl⟩, q⟩
end
/-! ### a dict's keys -/
theorem putK_new {kvs : List (Key × V)} {k : Key} {v : V} (h : k ∉ kvs.map Prod.fst) : putK kvs k v = kvs ++ [(k, v)] := by
  unfold putK
  rw [if_neg]
  intro z
  obtain ⟨kv, hkv, e⟩ := List.any_eq_true.mp z
  exact h (List.mem_map.mpr ⟨kv, hkv, of_decide_eq_true e⟩)
theorem mergeK_app : ∀ (more kvs : List (Key × V)), ((kvs ++ more).map Prod.fst).Nodup → mergeK kvs more = kvs ++ more
  | [], kvs, _ => by simp [mergeK]
  | (k, v) :: r, kvs, h => by
    show mergeK (putK kvs k v) r = _
    rw [putK_new (by
      rw [List.map_append, List.nodup_append] at h
      intro z
      exact h.2.2 k z k (by simp) rfl), mergeK_app r _ (by simpa using h)]
    simp
theorem mergeK_nil {kvs : List (Key × V)} (h : (kvs.map Prod.fst).Nodup) : mergeK [] kvs = kvs := by
  rw [mergeK_app kvs [] (by simpa using h)]
  rfl
theorem lkp_at {K : PySem.W.Frag} {H : Hp} {A : Ad} : ∀ {ks : List Str} {ds : List D} {kvs : List (Key × V)} {x : Str} {d : D}, kvs.map Prod.fst = ks.map Sum.inr → RDs K H A ds (kvs.map Prod.snd) → lkp ks ds x = some d → ∃ v, valV kvs (.inr x) = some v ∧ RD K H A d v
  | [], _, _, _, _, _, _, e => by simp [lkp] at e
  | k :: ks, [], _, _, _, _, _, e => by simp [lkp] at e
  | k :: ks, d :: ds, [], _, _, h, _, _ => by simp at h
  | k :: ks, d :: ds, (k', v) :: kvs, x, d', h, r, e => by
    obtain ⟨h1, h2⟩ : k' = .inr k ∧ kvs.map Prod.fst = ks.map Sum.inr := by simpa using h
    obtain ⟨r1, r2⟩ := RDs.cons_iff.mp (show RDs K H A (d :: ds) (v :: kvs.map Prod.snd) from r)
    subst h1
    unfold lkp at e
    unfold valV
    by_cases hx : k = x
    · subst hx
      rw [if_pos rfl] at e
      cases e
      exact ⟨v, by simp, r1⟩
    · rw [if_neg hx] at e
      obtain ⟨v', q1, q2⟩ := lkp_at h2 r2 e
      refine ⟨v', ?_, q2⟩
      rw [List.find?_cons_of_neg (by simpa using hx)]
      exact q1
theorem prs_at {K : PySem.W.Frag} {H : Hp} {A : Ad} : ∀ {xs : List D} {vs : List V} {ks : List Str} {ds : List D}, RDs K H A xs vs → prsD xs = some (ks, ds) → ∃ (ps : List Addr) (kvs : List (Key × V)), vs = ps.map V.ref ∧ Paired (fun p kv => SqT K H p [kV kv.1, kv.2]) ps kvs ∧ kvs.map Prod.fst = ks.map Sum.inr ∧ RDs K H A ds (kvs.map Prod.snd)
  | [], _, ks, ds, h, e => by
    rw [show _ = [] from h]
    cases e
    exact ⟨[], [], rfl, .nil, rfl, rfl⟩
  | x :: xs, vs, ks, ds, h, e => by
    obtain ⟨v, r, rfl, h1, h2⟩ := h
    unfold prsD at e
    split at e
    · rename_i z
      cases z
    · rename_i k d rest heq
      cases heq
      obtain ⟨p, e1, e2⟩ := Option.map_eq_some_iff.mp e
      cases e2
      obtain ⟨ps, kvs, rfl, q1, q2, q3⟩ := prs_at h2 e1
      obtain ⟨a, us, rfl, t1, t2⟩ := h1
      obtain ⟨u1, us1, rfl, t3, t4⟩ := t2
      obtain ⟨u2, us2, rfl, t5, t6⟩ := t4
      rw [show us2 = [] from t6] at t1
      rw [show u1 = .str k from t3] at t1
      exact ⟨a :: ps, (.inr k, u2) :: kvs, rfl, .cons t1 q1, by simp [q2], RDs.cons_iff.mpr ⟨t5, q3⟩⟩
    · cases e
section
variable {K : PySem.W.Frag} {H H' : Hp} {A A' : Ad} {w w' : Wd} {σ : Sl} {Q : VK}
theorem Aft.newD {ks : List Str} {ds : List D} {kvs : List (Key × V)} (S : Sim K H A w σ) (h0 : ks ≠ []) (hn : ks.Nodup) (e : kvs.map Prod.fst = ks.map Sum.inr) (r : RDs K H A ds (kvs.map Prod.snd)) (q : Aft K A H σ (.dic ks ds) w Q) :
    ∀ p, H p = none → Q (.ref p) (upd H p (.dK (mergeK [] kvs))) := by
  intro p hp
  have hk : (kvs.map Prod.fst).Nodup := by
    rw [e]
    exact List.nodup_iff_pairwise_ne.mpr (List.pairwise_map.mpr ((List.nodup_iff_pairwise_ne.mp hn).imp fun h z => h (Sum.inr.inj z)))
  rw [mergeK_nil hk]
  obtain ⟨⟨f1, f2, f4⟩, f3⟩ := S.fresh hp
  have s0 : Step A H A (upd H p (.dK kvs)) := Step.new hp f4
  exact q A _ _ s0 (S.new hp) ⟨p, kvs, rfl, upd_same, ⟨f1, f2, f4⟩, f3, ⟨h0, hn, e⟩, r.step s0.toCar⟩
end
end Fz

/-! Q6s: sorted lists of ints, of tuples of ints; in, by values. -/
namespace Fz
open PySem PySem.Spec PyProof.Rows L2
/-! ### one sorted list -/
theorem perm_back {α β : Type} (f : α → β) {l m : List β} (h : l.Perm m) : ∀ ks : List α, m = ks.map f → ∃ L : List α, L.Perm ks ∧ l = L.map f := by
  induction h with
  | nil => intro ks e; exact ⟨[], by rw [List.map_eq_nil_iff.mp e.symm], rfl⟩
  | @cons x l1 l2 _ ih =>
    intro ks e
    cases ks with
    | nil => cases e
    | cons k ks =>
      rw [List.map_cons] at e
      obtain ⟨e1, e2⟩ := List.cons.inj e
      obtain ⟨L, p, e3⟩ := ih ks e2
      exact ⟨k :: L, p.cons k, by rw [List.map_cons, e1, e3]⟩
  | swap x y l =>
    intro ks e
    cases ks with
    | nil => cases e
    | cons k ks =>
      cases ks with
      | nil => cases e
      | cons k2 ks =>
        rw [List.map_cons, List.map_cons] at e
        obtain ⟨e1, e2⟩ := List.cons.inj e
        obtain ⟨e2, e3⟩ := List.cons.inj e2
        exact ⟨k2 :: k :: ks, List.Perm.swap _ _ _, by rw [List.map_cons, List.map_cons, e1, e2, e3]⟩
  | trans _ _ ih1 ih2 =>
    intro ks e
    obtain ⟨L, p, e1⟩ := ih2 ks e
    obtain ⟨L2, p2, e2⟩ := ih1 L e1
    exact ⟨L2, p2.trans p, e2⟩
theorem sorted_uniq {α : Type} (c : α → Int) : ∀ {l m : List α}, (∀ x ∈ l, ∀ y ∈ l, c x = c y → x = y) → l.Perm m → l.Pairwise (fun x y => c x ≤ c y) → m.Pairwise (fun x y => c x ≤ c y) → l = m
  | [], m, _, h, _, _ => (List.Perm.eq_nil h.symm).symm
  | x :: l, [], _, h, _, _ => absurd h.length_eq (by simp)
  | x :: l, y :: m, hi, h, hl, hm => by
    obtain ⟨l1, l2⟩ := List.pairwise_cons.mp hl
    obtain ⟨m1, m2⟩ := List.pairwise_cons.mp hm
    have hx : x ∈ y :: m := h.mem_iff.mp List.mem_cons_self
    have hy : y ∈ x :: l := h.mem_iff.mpr List.mem_cons_self
    have e1 : c x ≤ c y := by
      rcases List.mem_cons.mp hy with e | e
      · rw [e]; exact Int.le_refl _
      · exact l1 y e
    have e2 : c y ≤ c x := by
      rcases List.mem_cons.mp hx with e | e
      · rw [e]; exact Int.le_refl _
      · exact m1 x e
    have e : x = y := hi x List.mem_cons_self y hy (Int.le_antisymm e1 e2)
    subst e
    rw [sorted_uniq c (fun a ha b hb => hi a (List.mem_cons_of_mem _ ha) b (List.mem_cons_of_mem _ hb)) h.cons_inv l2 m2]
/-! ### ints -/
theorem insI_perm (x : Int) : ∀ l, (insI x l).Perm (x :: l)
  | [] => List.Perm.refl _
  | y :: ys => by
    unfold insI
    split
    · exact List.Perm.refl _
    · exact ((insI_perm x ys).cons y).trans (List.Perm.swap _ _ _)
theorem sortI_perm : ∀ l, (sortI l).Perm l
  | [] => List.Perm.refl _
  | x :: xs => (insI_perm x (sortI xs)).trans ((sortI_perm xs).cons x)
theorem insI_srt (x : Int) : ∀ l : List Int, l.Pairwise (· ≤ ·) → (insI x l).Pairwise (· ≤ ·)
  | [], _ => List.pairwise_singleton _ _
  | y :: ys, h => by
    obtain ⟨h1, h2⟩ := List.pairwise_cons.mp h
    unfold insI
    split
    · rename_i hxy
      refine List.pairwise_cons.mpr ⟨fun z hz => ?_, h⟩
      rcases List.mem_cons.mp hz with e | e
      · rw [e]; exact hxy
      · exact Int.le_trans hxy (h1 z e)
    · rename_i hxy
      refine List.pairwise_cons.mpr ⟨fun z hz => ?_, insI_srt x ys h2⟩
      rcases List.mem_cons.mp ((insI_perm x ys).mem_iff.mp hz) with e | e
      · rw [e]; omega
      · exact h1 z e
theorem sortI_srt : ∀ l, (sortI l).Pairwise (· ≤ ·)
  | [] => List.Pairwise.nil
  | x :: xs => insI_srt x _ (sortI_srt xs)
/-! ### tuples of ints -/
theorem insT_perm (x : List Int) : ∀ l, (insT x l).Perm (x :: l)
  | [] => List.Perm.refl _
  | y :: ys => by
    unfold insT
    split
    · exact List.Perm.refl _
    · exact ((insT_perm x ys).cons y).trans (List.Perm.swap _ _ _)
theorem sortT_perm : ∀ l, (sortT l).Perm l
  | [] => List.Perm.refl _
  | x :: xs => (insT_perm x (sortT xs)).trans ((sortT_perm xs).cons x)
theorem lex_code {B : Int} : ∀ {x y : List Int}, x.length = y.length → TS.Bd B x → TS.Bd B y → (lexLe x y = true → TS.code B x ≤ TS.code B y) ∧ (lexLe x y = false → TS.code B y ≤ TS.code B x) ∧ (TS.code B x = TS.code B y → x = y)
  | [], [], _, _, _ => ⟨fun _ => Int.le_refl _, fun _ => Int.le_refl _, fun _ => rfl⟩
  | [], _ :: _, h, _, _ => nomatch h
  | _ :: _, [], h, _, _ => nomatch h
  | a :: x, b :: y, hl, hx, hy => by
    have hl' : x.length = y.length := by simpa using hl
    have ih := lex_code hl' hx.tail hy.tail
    unfold lexLe
    by_cases h1 : a < b
    · have h := TS.code_lt hl' hx.tail hy.tail h1
      refine ⟨fun _ => Int.le_of_lt h, fun z => ?_, fun z => ?_⟩
      · rw [if_pos h1] at z; cases z
      · omega
    · by_cases h2 : b < a
      · have h := TS.code_lt hl'.symm hy.tail hx.tail h2
        refine ⟨fun z => ?_, fun _ => Int.le_of_lt h, fun z => ?_⟩
        · rw [if_neg h1, if_pos h2] at z; cases z
        · omega
      · have e : a = b := by omega
        subst e
        rw [if_neg h1, if_neg h2]
        have c1 : TS.code B (a :: x) = a * B ^ x.length + TS.code B x := rfl
        have c2 : TS.code B (a :: y) = a * B ^ y.length + TS.code B y := rfl
        rw [c1, c2, hl']
        refine ⟨fun z => ?_, fun z => ?_, fun z => ?_⟩
        · have := ih.1 z; omega
        · have := ih.2.1 z; omega
        · rw [ih.2.2 (by omega)]
theorem insT_srt {B : Int} {d : Nat} (x : List Int) (hx : x.length = d ∧ TS.Bd B x) : ∀ l : List (List Int), (∀ y ∈ l, y.length = d ∧ TS.Bd B y) → l.Pairwise (fun a b => TS.code B a ≤ TS.code B b) → (insT x l).Pairwise (fun a b => TS.code B a ≤ TS.code B b)
  | [], _, _ => List.pairwise_singleton _ _
  | y :: ys, hy, h => by
    obtain ⟨h1, h2⟩ := List.pairwise_cons.mp h
    have hy0 := hy y List.mem_cons_self
    have lc := lex_code (hx.1.trans hy0.1.symm) hx.2 hy0.2
    unfold insT
    split
    · rename_i hxy
      refine List.pairwise_cons.mpr ⟨fun z hz => ?_, h⟩
      rcases List.mem_cons.mp hz with e | e
      · rw [e]; exact lc.1 hxy
      · exact Int.le_trans (lc.1 hxy) (h1 z e)
    · rename_i hxy
      refine List.pairwise_cons.mpr ⟨fun z hz => ?_, insT_srt x hx ys (fun z hz => hy z (List.mem_cons_of_mem _ hz)) h2⟩
      rcases List.mem_cons.mp ((insT_perm x ys).mem_iff.mp hz) with e | e
      · rw [e]; exact lc.2.1 (by simpa using hxy)
      · exact h1 z e
theorem sortT_srt {B : Int} {d : Nat} : ∀ l : List (List Int), (∀ y ∈ l, y.length = d ∧ TS.Bd B y) → (sortT l).Pairwise (fun a b => TS.code B a ≤ TS.code B b)
  | [], _ => List.Pairwise.nil
  | x :: xs, h => insT_srt x (h x List.mem_cons_self) _ (fun y hy => h y (List.mem_cons_of_mem _ ((sortT_perm xs).mem_iff.mp hy))) (sortT_srt xs fun y hy => h y (List.mem_cons_of_mem _ hy))
theorem tupOk_of : ∀ {l : List (List Int)}, tupOk l = true → l.length < 64 ∧ ∃ d, 1 ≤ d ∧ ∀ y ∈ l, y.length = d ∧ TS.Bd 1000000000 y
  | [], _ => ⟨by decide, 1, Nat.le_refl _, fun _ h => nomatch h⟩
  | x :: xs, h => by
    obtain ⟨h1, h2⟩ := Bool.and_eq_true_iff.mp (show (decide (1 ≤ x.length ∧ (x :: xs).length < 64) && (x :: xs).all fun y => decide (y.length = x.length) && y.all fun i => decide (0 ≤ i ∧ i < 1000000000)) = true from h)
    obtain ⟨h3, h4⟩ := of_decide_eq_true h1
    refine ⟨h4, x.length, h3, fun y hy => ?_⟩
    obtain ⟨h5, h6⟩ := Bool.and_eq_true_iff.mp (List.all_eq_true.mp h2 y hy)
    exact ⟨of_decide_eq_true h5, fun i hi => of_decide_eq_true (List.all_eq_true.mp h6 i hi)⟩
theorem tups_at {K : PySem.W.Frag} {H : Hp} {A : Ad} : ∀ {xs : List D} {vs : List V} {ts : List (List Int)}, RDs K H A xs vs → tupD xs = some ts → ∃ ks : List (Addr × List Int), vs = ks.map (fun p => V.ref p.1) ∧ (∀ p ∈ ks, SqT K H p.1 (p.2.map V.int)) ∧ ks.map (·.2) = ts
  | [], vs, ts, h, e => by
    rw [show vs = [] from h]
    cases e
    exact ⟨[], rfl, fun _ h => (nomatch h), rfl⟩
  | x :: xs, vs, ts, h, e => by
    obtain ⟨v, r, rfl, h1, h2⟩ := h
    cases x with
    | tup ds =>
      obtain ⟨ns, e1, e⟩ := Option.bind_eq_some_iff.mp (show ((intD ds).bind fun ns => (tupD xs).map fun xs => ns :: xs) = some ts from e)
      obtain ⟨rest, e2, rfl⟩ := Option.map_eq_some_iff.mp e
      obtain ⟨a, us, rfl, t1, t2⟩ := h1
      obtain ⟨ks, rfl, k1, k2⟩ := tups_at h2 e2
      have ev := t2.ints e1
      subst ev
      refine ⟨(a, ns) :: ks, rfl, fun p hp => ?_, by rw [List.map_cons, k2]⟩
      rcases List.mem_cons.mp hp with rfl | hp
      · exact t1
      · exact k1 p hp
    | _ => cases e
theorem tups_rd {K : PySem.W.Frag} {H : Hp} {A : Ad} : ∀ {ks : List (Addr × List Int)}, (∀ p ∈ ks, SqT K H p.1 (p.2.map V.int)) → RDs K H A ((ks.map (·.2)).map tupI) (ks.map fun p => V.ref p.1)
  | [], _ => (rfl : _ = _)
  | p :: ks, h => by
    have ri : ∀ ns : List Int, RDs K H A (ns.map D.int) (ns.map V.int) := fun ns => by
      induction ns with
      | nil => exact (rfl : _ = _)
      | cons n ns ih => exact RDs.cons_iff.mpr ⟨rfl, ih⟩
    exact RDs.cons_iff.mpr ⟨⟨p.1, _, rfl, h p List.mem_cons_self, ri p.2⟩, tups_rd fun q hq => h q (List.mem_cons_of_mem _ hq)⟩
section
variable {X : Cx}
theorem cr_sortedTs : CallR X (.builtin "sorted") (fun vs H Q => ∃ (a : Addr) (ks : List (Addr × List Int)) (d : Nat) (B : Int), vs = [V.ref a] ∧ SqL X.K H a (ks.map fun p => V.ref p.1) ∧ (∀ p ∈ ks, SqT X.K H p.1 (p.2.map V.int)) ∧ ks.length < 64 ∧ 1 ≤ d ∧ (∀ p ∈ ks, p.2.length = d ∧ TS.Bd B p.2) ∧
    ∀ (L : List (Addr × List Int)) (p : Addr), L.Perm ks → L.Pairwise (fun q r => TS.code B q.2 ≤ TS.code B r.2) → H p = none → Q (.ref p) (upd H p (.lst (L.map fun q => V.ref q.1)))) := by
  intro pins s σ H vs us Q I r h
  obtain ⟨a, ks, d, B, rfl, hl, hk, h64, hd, hB, q⟩ := h
  rw [Vals.ref1 r]
  obtain ⟨its, rv, pl, hz⟩ := I.list hl
  have ei := refs_of_vals rv
  subst ei
  have ti : ∀ p ∈ ks, TS.TupInts s.heap (.ref p.1) p.2 := fun p hp => by
    obtain ⟨us, r2, t, _⟩ := I.tuple (hk p hp)
    exact ⟨p.1, us.toArray, rfl, t, by simpa using r2.ints⟩
  refine TS.sorted_tups (d := d) (B := B) pl.isList (by rw [List.length_map]; exact h64) hd (fun v hv => ?_) fun out h1 h2 => ?_
  · obtain ⟨p, hp, rfl⟩ := List.mem_map.mp hv
    exact ⟨p.2, ti p hp, hB p hp⟩
  obtain ⟨L, pm, eo⟩ := perm_back (fun p : Addr × List Int => Value.ref p.1) h1 ks rfl
  have pw : L.Pairwise (fun q r => TS.code B q.2 ≤ TS.code B r.2) := by
    rw [eo, List.pairwise_map] at h2
    refine List.Pairwise.imp_of_mem (fun {q r} hq hr h => ?_) h2
    rw [(ti q (pm.mem_iff.mp hq)).ints, (ti r (pm.mem_iff.mp hr)).ints] at h
    exact h
  obtain ⟨ep, he'⟩ := PyProof.Rows.sortedAll_at s.heap (ks.map fun p => Value.ref p.1) out
  have hlen : (L.map fun q => V.ref q.1).length ≤ sizeLine := by rw [List.length_map, pm.length_eq, sizeLine_eq]; omega
  refine ⟨.ref _, upd H (s.heap.objs.size + 1) (.lst (L.map fun q => V.ref q.1)), I.laid (t' := s.toks) (fun _ _ => PyProof.Rows.sortedAll_old) (Nat.le_succ _) ⟨hlen, out.toList, ep, by rw [eo]; exact vals_of_refs L, by rw [Array.toArray_toList]; exact he'⟩, rfl, q L _ pm pw (I.hok.fresh (Nat.le_succ _))⟩
end
end Fz

/-! Q6p: sorted lists of pairs of a number and a tuple, no two numbers alike. -/
namespace TS
open PySem PyProof.Rows
/-- a pair of a number and something on the heap -/
def PrIn (h : Heap) (v : Value) (n : Int) : Prop := ∃ a t b, v = .ref a ∧ IsTup h a #[.int n t, .ref b]
def rk (h : Heap) (v : Value) : Int := ((intsOf h v)[0]?).getD 0
theorem PrIn.rk {h : Heap} {v : Value} {n : Int} (x : PrIn h v n) : rk h v = n := by
  obtain ⟨a, t, b, rfl, ⟨o, ho, hc, k, hd⟩⟩ := x
  simp only [TS.rk, intsOf, ho, hd]
  rfl
theorem PrIn.keeps {h h' : Heap} {v : Value} {n : Int} (x : PrIn h v n) (k : ∀ b o, h.get? b = some o → o.cls = .type "tuple" → h'.get? b = some o) : PrIn h' v n := by
  obtain ⟨a, t, b, e, ⟨o, ho, hc, hd⟩⟩ := x
  exact ⟨a, t, b, e, ⟨o, k _ _ ho hc, hc, hd⟩⟩
structure PrsOk (h : Heap) (vs : List Value) : Prop where
  at_ : ∀ v, v ∈ vs → ∃ n, PrIn h v n
  inj : ∀ u, u ∈ vs → ∀ v, v ∈ vs → ∀ n, PrIn h u n → PrIn h v n → u = v
theorem PrsOk.keeps {h h' : Heap} {vs : List Value} (x : PrsOk h vs) (k : ∀ b o, h.get? b = some o → o.cls = .type "tuple" → h'.get? b = some o) : PrsOk h' vs := by
  refine ⟨fun v hv => ?_, fun u hu v hv n pu pv => ?_⟩
  · obtain ⟨n, p⟩ := x.at_ v hv
    exact ⟨n, p.keeps k⟩
  · obtain ⟨a, p⟩ := x.at_ u hu
    obtain ⟨b, q⟩ := x.at_ v hv
    have e1 : a = n := (p.keeps k).rk.symm.trans pu.rk
    have e2 : b = n := (q.keeps k).rk.symm.trans pv.rk
    subst e1
    subst e2
    exact x.inj u hu v hv _ p q
theorem prs_firsts {h : Heap} : ∀ vs : List Value, (∀ v, v ∈ vs → ∃ n, PrIn h v n) → ∃ fs, PySem.W.KatTups h vs fs ∧ fs.length = vs.length ∧ ∀ f, f ∈ fs → ∃ n t, f = Value.int n t
  | [], _ => ⟨[], PySem.W.KatTups.nil, rfl, fun f hf => by simp at hf⟩
  | v :: vs, x => by
    obtain ⟨fs, k, hl, hi⟩ := prs_firsts vs fun u hu => x u (List.mem_cons_of_mem _ hu)
    obtain ⟨n, a, t, b, rfl, ⟨o, ho, hc, m, hdt⟩⟩ := x v (List.mem_cons_self ..)
    refine ⟨.int n t :: fs, PySem.W.KatTups.cons ho hc hdt rfl k, by simp [hl], ?_⟩
    intro f hf
    rcases List.mem_cons.mp hf with rfl | hf
    · exact ⟨n, t, rfl⟩
    · exact hi f hf
section
variable {prog : Program} {w : World} {A : Around} {E : Value → Shared → Prop} {s : Shared}
theorem eqBool_same {v : Value} {Q : Bool → Shared → Prop} (h : Q true s) : wpAny (model prog w) A (eqBool v v) Q E s := by
  unfold eqBool
  refine wpAny_holding ?_
  refine wpAny_ite_split (fun _ => ?_) (fun hab => absurd (beq_self_eq_true v) hab)
  exact wpAny_bind (wpAny_rule (wpAny_pure h))
theorem kind_prs {vs : List Value} (h2 : 2 ≤ vs.length) (x : PrsOk s.heap vs) (r : Value → Int) (hr : ∀ v, v ∈ vs → ∀ n, PrIn s.heap v n → r v = n) (Q : SortKind → Shared → Prop)
    (h : ∀ κ, Cmp prog w A s κ (pairsOf vs) r → Q κ s) : wpAny (model prog w) A (keyKind' vs.toArray) Q E s := by
  obtain ⟨fs, k, hl, hi⟩ := prs_firsts vs x.at_
  refine PySem.W.kat_kind (T := Value.type "int") k (by omega) (fun f hf => ?_) rfl (h _ ?_)
  · obtain ⟨n, t, rfl⟩ := hi f hf
    exact PySem.W.Looks.of_pure rfl
  · intro p q hp hq Q' E' hQ
    rw [pairsOf_toList] at hp hq
    have mp := (mem_zip_self hp).2
    have mq := (mem_zip_self hq).2
    obtain ⟨n, pp⟩ := x.at_ _ mp
    obtain ⟨m, pq⟩ := x.at_ _ mq
    have ep := hr _ mp _ pp
    have eq2 := hr _ mq _ pq
    rw [ep, eq2] at hQ
    by_cases e : n = m
    · subst e
      have same := x.inj _ mp _ mq n pp pq
      rw [← same]
      obtain ⟨a, t, b, e1, ⟨o, ho, hc, k1, hdt⟩⟩ := pp
      rw [e1]
      refine PySem.W.kat_lt ho hdt ho hdt ?_
      have sz : decide ((#[Value.int n t, .ref b] : Array Value).size < (#[Value.int n t, .ref b] : Array Value).size) = false := decide_eq_false (Nat.lt_irrefl _)
      rw [sz]
      have hQ' : Q' false s := by
        have z : decide (n < n) = false := decide_eq_false (Int.lt_irrefl _)
        rw [z] at hQ
        exact hQ
      refine PySem.W.kat_cons (eqBool_same (PySem.W.kat_yes ?_))
      exact PySem.W.kat_cons (eqBool_same (PySem.W.kat_yes (PySem.W.kat_nil hQ')))
    · obtain ⟨a, t, b, e1, ⟨o, ho, hc, k1, hdt⟩⟩ := pp
      obtain ⟨a', t', b', e2, ⟨o', ho', hc', k2, hdt'⟩⟩ := pq
      rw [e1, e2]
      refine PySem.W.kat_lt ho hdt ho' hdt' ?_
      refine PySem.W.kat_cons (wpAny_eqBool_int ?_)
      have z : (n == m) = false := by simpa using e
      rw [z]
      exact PySem.W.kat_no (oneLt_ints _ hQ)
theorem sort_prs {a : Addr} {vs : List Value} {n : Nat} {P : PySem.Fin → Shared → Prop} (ho : s.heap.get? a = some (seqObj "list" vs.toArray n)) (h64 : vs.length < 64) (x : PrsOk s.heap vs)
    (r : Value → Int) (hr : ∀ v, v ∈ vs → ∀ n, PrIn s.heap v n → r v = n)
    (h : ∀ out : Array Value, out.toList.Perm vs → out.toList.Pairwise (fun u v => r u ≤ r v) → P (.done (.ret .none)) { s with heap := sortedHeap s.heap a vs out }) :
    wpAny (model prog w) A (Builtin.«list.sort» ⟨[.ref a], []⟩) P E s := by
  have keep : ∀ b o, s.heap.get? b = some o → o.cls = .type "tuple" → (midHeap s.heap a vs).get? b = some o := fun b o e hc => by
    refine midHeap_old ?_ e
    rintro rfl
    rw [ho] at e
    have e' : seqObj "list" vs.toArray n = o := Option.some.inj e
    rw [← e'] at hc
    have c' : Value.type "list" = Value.type "tuple" := hc
    injection c' with c''
    exact absurd c'' (by decide)
  refine SK.plain_sort (r := r) ho h64 (fun h2 Q hQ => ?_) fun ps out h1 h2 h3 => ?_
  · refine kind_prs (s := { s with heap := midHeap s.heap a vs }) h2 (x.keeps keep) r (fun v hv n t => ?_) Q hQ
    obtain ⟨m, t0⟩ := x.at_ v hv
    have e : n = m := t.rk.symm.trans (t0.keeps keep).rk
    rw [e]
    exact hr v hv m t0
  · obtain ⟨p, o⟩ := out_rank h1 h2 h3
    exact h out p o
theorem sorted_prs {l : Addr} {vs : List Value} {Q : Value → Shared → Prop} (hl : s.heap.IsList l vs.toArray) (h64 : vs.length < 64) (x : PrsOk s.heap vs)
    (h : ∀ out : Array Value, out.toList.Perm vs → out.toList.Pairwise (fun u v => rk s.heap u ≤ rk s.heap v) → Q (.ref (s.heap.objs.size + 1)) { s with heap := sortedAll s.heap vs out }) :
    wpAny (model prog w) A (call (.builtin "sorted") [.ref l]) Q E s := by
  refine Calls.call_function_entry kind_sorted plain_sorted entry_sorted (args_sorted1 _) ?_
  unfold Builtin.«sorted»
  refine wpAny_bind (m := checkCount "sorted" 1 1 _) (wpAny_pure ?_)
  refine wpAny_bind (collect_list hl ?_ (by rw [sizeLine_eq]; omega))
  refine wpAny_bind (wpAny_newList ?_ (by rw [sizeLine_eq]; omega))
  have hsz : ((s.heap.push (seqObj "list" #[] 0)).update s.heap.objs.size (Obj.mapSeq (· ++ vs.toArray))).objs.size = s.heap.objs.size + 1 := by
    rw [Heap.size_update, size_push']
  have hoL : (((s.heap.push (seqObj "list" #[] 0)).update s.heap.objs.size (Obj.mapSeq (· ++ vs.toArray))).push (seqObj "list" vs.toArray 0)).get? (s.heap.objs.size + 1) = some (seqObj "list" vs.toArray 0) := by
    rw [← hsz]; exact Heap.get?_push_size _ rfl
  have keep : ∀ b o, s.heap.get? b = some o → o.cls = .type "tuple" → (((s.heap.push (seqObj "list" #[] 0)).update s.heap.objs.size (Obj.mapSeq (· ++ vs.toArray))).push (seqObj "list" vs.toArray 0)).get? b = some o := fun b o q _ => by
    have hlt : b < s.heap.objs.size := Heap.lt_size q
    rw [Heap.get?_push_ne _ _ _ (by rw [hsz]; exact Nat.ne_of_lt (Nat.lt_succ_of_lt hlt)), Heap.get?_update_ne _ _ _ _ (Nat.ne_of_lt hlt), Heap.get?_push_ne _ _ _ (Nat.ne_of_lt hlt)]
    exact q
  show wpAny _ _ _ _ _ { s with heap := ((s.heap.push (seqObj "list" #[] 0)).update s.heap.objs.size (Obj.mapSeq (· ++ vs.toArray))).push (seqObj "list" vs.toArray 0) }
  rw [hsz]
  refine wpAny_bind (wpAny_holding (wpAny_call_entry slot_list_sort ⟨_, hoL, rfl⟩ entry_list_sort (sort_prs hoL h64 (x.keeps keep) (fun v => rk s.heap v) (fun v hv n t => ?_) fun out a1 a2 => ⟨_, rfl, ?_⟩) (args_list_sort _)))
  · obtain ⟨m, t0⟩ := x.at_ v hv
    have e : n = m := t.rk.symm.trans (t0.keeps keep).rk
    rw [e]
    exact t0.rk
  · exact wpAny_pure ⟨_, rfl, h out a1 a2⟩
end
end TS
namespace Fz
open PySem PySem.Spec PyProof.Rows L2
/-! ### pairs -/
theorem insP_perm (x : Int × List D) : ∀ l, (insP x l).Perm (x :: l)
  | [] => List.Perm.refl _
  | y :: ys => by
    unfold insP
    split
    · exact List.Perm.refl _
    · exact ((insP_perm x ys).cons y).trans (List.Perm.swap _ _ _)
theorem sortP_perm : ∀ l, (sortP l).Perm l
  | [] => List.Perm.refl _
  | x :: xs => (insP_perm x (sortP xs)).trans ((sortP_perm xs).cons x)
theorem insP_srt (x : Int × List D) : ∀ l : List (Int × List D), l.Pairwise (fun a b => a.1 ≤ b.1) → (insP x l).Pairwise (fun a b => a.1 ≤ b.1)
  | [], _ => List.pairwise_singleton _ _
  | y :: ys, h => by
    obtain ⟨h1, h2⟩ := List.pairwise_cons.mp h
    unfold insP
    split
    · rename_i hxy
      refine List.pairwise_cons.mpr ⟨fun z hz => ?_, h⟩
      rcases List.mem_cons.mp hz with e | e
      · rw [e]; exact hxy
      · exact Int.le_trans hxy (h1 z e)
    · rename_i hxy
      refine List.pairwise_cons.mpr ⟨fun z hz => ?_, insP_srt x ys h2⟩
      rcases List.mem_cons.mp ((insP_perm x ys).mem_iff.mp hz) with e | e
      · rw [e]; omega
      · exact h1 z e
theorem sortP_srt : ∀ l, (sortP l).Pairwise (fun a b => a.1 ≤ b.1)
  | [] => List.Pairwise.nil
  | x :: xs => insP_srt x _ (sortP_srt xs)
/-- a pair as it stands: its place, the number, the tuple's place, the tuple's items -/
structure Prs where
  a : Addr
  k : Int
  b : Addr
  ds : List D
def Prs.q (p : Prs) : Int × List D := (p.k, p.ds)
theorem prq_at {K : PySem.W.Frag} {H : Hp} {A : Ad} : ∀ {xs : List D} {vs : List V} {ts : List (Int × List D)}, RDs K H A xs vs → pairD xs = some ts → ∃ ks : List Prs, vs = ks.map (fun p => V.ref p.a) ∧ (∀ p ∈ ks, SqT K H p.a [.int p.k, .ref p.b] ∧ RD K H A (.tup p.ds) (.ref p.b)) ∧ ks.map Prs.q = ts
  | [], vs, ts, h, e => by
    rw [show vs = [] from h]
    cases e
    exact ⟨[], rfl, fun _ h => (nomatch h), rfl⟩
  | x :: xs, vs, ts, h, e => by
    obtain ⟨v, r, rfl, h1, h2⟩ := h
    match x, e with
    | .tup [.int k, .tup ds], e =>
      obtain ⟨rest, e2, rfl⟩ := Option.map_eq_some_iff.mp (show (pairD xs).map (fun xs => (k, ds) :: xs) = some ts from e)
      obtain ⟨a, us, rfl, t1, t2⟩ := h1
      obtain ⟨u1, r1, rfl, g1, g2⟩ := t2
      obtain ⟨u2, r2, rfl, g3, g4⟩ := g2
      obtain rfl : r2 = [] := g4
      obtain rfl : u1 = V.int k := g1
      obtain ⟨b, ws, rfl, w1, w2⟩ := id g3
      obtain ⟨ks, rfl, k1, k2⟩ := prq_at h2 e2
      refine ⟨⟨a, k, b, ds⟩ :: ks, rfl, fun p hp => ?_, by rw [List.map_cons, k2]; rfl⟩
      rcases List.mem_cons.mp hp with rfl | hp
      · exact ⟨t1, g3⟩
      · exact k1 p hp
theorem prq_rd {K : PySem.W.Frag} {H : Hp} {A : Ad} : ∀ {ks : List Prs}, (∀ p ∈ ks, SqT K H p.a [.int p.k, .ref p.b] ∧ RD K H A (.tup p.ds) (.ref p.b)) → RDs K H A ((ks.map Prs.q).map pairI) (ks.map fun p => V.ref p.a)
  | [], _ => (rfl : _ = _)
  | p :: ks, h => by
    obtain ⟨h1, h2⟩ := h p List.mem_cons_self
    exact RDs.cons_iff.mpr ⟨⟨p.a, _, rfl, h1, RDs.cons_iff.mpr ⟨rfl, RDs.cons_iff.mpr ⟨h2, (rfl : _ = _)⟩⟩⟩, prq_rd fun q hq => h q (List.mem_cons_of_mem _ hq)⟩
section
variable {X : Cx}
theorem cr_sortedPr : CallR X (.builtin "sorted") (fun vs H Q => ∃ (a : Addr) (ks : List Prs), vs = [V.ref a] ∧ SqL X.K H a (ks.map fun p => V.ref p.a) ∧ (∀ p ∈ ks, SqT X.K H p.a [.int p.k, .ref p.b]) ∧ ks.length < 64 ∧ (ks.map Prs.k).Nodup ∧
    ∀ (L : List Prs) (p : Addr), L.Perm ks → L.Pairwise (fun q r => q.k ≤ r.k) → H p = none → Q (.ref p) (upd H p (.lst (L.map fun q => V.ref q.a)))) := by
  intro pins s σ H vs us Q I r h
  obtain ⟨a, ks, rfl, hl, hk, h64, hnd, q⟩ := h
  rw [Vals.ref1 r]
  obtain ⟨its, rv, pl, hz⟩ := I.list hl
  have ei : its = ks.map fun p => Value.ref p.a := by
    clear hl hk h64 hnd q pl hz
    induction ks generalizing its with
    | nil => cases rv; rfl
    | cons p ks ih =>
      cases rv with
      | cons r1 r2 =>
        cases r1
        rw [List.map_cons, ih _ r2]
  subst ei
  have ti : ∀ p ∈ ks, TS.PrIn s.heap (.ref p.a) p.k := fun p hp => by
    obtain ⟨us, r2, t, _⟩ := I.tuple (hk p hp)
    cases r2 with
    | cons g1 g2 =>
      cases g2 with
      | cons g3 g4 =>
        cases g4
        obtain ⟨tk, rfl⟩ := g1
        cases g3
        exact ⟨p.a, tk, p.b, rfl, t⟩
  have inj : ∀ p ∈ ks, ∀ q ∈ ks, p.k = q.k → p = q := fun p hp q hq e => by
    obtain ⟨i, hi, rfl⟩ := List.mem_iff_getElem.mp hp
    obtain ⟨j, hj, rfl⟩ := List.mem_iff_getElem.mp hq
    have : i = j := (List.getElem_inj (i := i) (j := j) (h₀ := by rw [List.length_map]; exact hi) (h₁ := by rw [List.length_map]; exact hj) hnd).mp (by rw [List.getElem_map, List.getElem_map]; exact e)
    subst this
    rfl
  refine TS.sorted_prs pl.isList (by rw [List.length_map]; exact h64) ⟨fun v hv => ?_, fun u hu v hv n pu pv => ?_⟩ fun out h1 h2 => ?_
  · obtain ⟨p, hp, rfl⟩ := List.mem_map.mp hv
    exact ⟨p.k, ti p hp⟩
  · obtain ⟨p, hp, rfl⟩ := List.mem_map.mp hu
    obtain ⟨p2, hp2, rfl⟩ := List.mem_map.mp hv
    have e1 : p.k = n := (ti p hp).rk.symm.trans pu.rk
    have e2 : p2.k = n := (ti p2 hp2).rk.symm.trans pv.rk
    rw [inj p hp p2 hp2 (e1.trans e2.symm)]
  obtain ⟨L, pm, eo⟩ := perm_back (fun p : Prs => Value.ref p.a) h1 ks rfl
  have pw : L.Pairwise (fun q r => q.k ≤ r.k) := by
    rw [eo, List.pairwise_map] at h2
    refine List.Pairwise.imp_of_mem (fun {q r} hq hr h => ?_) h2
    rw [(ti q (pm.mem_iff.mp hq)).rk, (ti r (pm.mem_iff.mp hr)).rk] at h
    exact h
  obtain ⟨ep, he'⟩ := PyProof.Rows.sortedAll_at s.heap (ks.map fun p => Value.ref p.a) out
  have hlen : (L.map fun q => V.ref q.a).length ≤ sizeLine := by rw [List.length_map, pm.length_eq, sizeLine_eq]; omega
  have vl : ∀ M : List Prs, Vals (M.map fun q => V.ref q.a) (M.map fun q => Value.ref q.a) := fun M => by
    induction M with
    | nil => exact .nil
    | cons m M ih => exact .cons rfl ih
  refine ⟨.ref _, upd H (s.heap.objs.size + 1) (.lst (L.map fun q => V.ref q.a)), I.laid (t' := s.toks) (fun _ _ => PyProof.Rows.sortedAll_old) (Nat.le_succ _) ⟨hlen, out.toList, ep, by rw [eo]; exact vl L, by rw [Array.toArray_toList]; exact he'⟩, rfl, q L _ pm pw (I.hok.fresh (Nat.le_succ _))⟩
end
end Fz

/-! Q7: built-ins and methods upon data. -/
namespace Fz
open PySem PySem.Spec PyProof.Rows L2

theorem maxL_spec : ∀ (xs : List Int), xs ≠ [] → maxL xs ∈ xs ∧ ∀ y ∈ xs, y ≤ maxL xs
  | [], h => absurd rfl h
  | [x], _ => ⟨by simp [maxL], by simp [maxL]⟩
  | x :: y :: r, _ => by
    obtain ⟨h1, h2⟩ := maxL_spec (y :: r) (by simp)
    show (if x < maxL (y :: r) then maxL (y :: r) else x) ∈ _ ∧ ∀ z ∈ _, z ≤ (if x < maxL (y :: r) then maxL (y :: r) else x)
    split
    · refine ⟨List.mem_cons_of_mem _ h1, fun z hz => ?_⟩
      rcases List.mem_cons.mp hz with rfl | hz
      · omega
      · exact h2 z hz
    · refine ⟨List.mem_cons_self, fun z hz => ?_⟩
      rcases List.mem_cons.mp hz with rfl | hz
      · omega
      · have := h2 z hz
        omega
theorem minL_spec : ∀ (xs : List Int), xs ≠ [] → minL xs ∈ xs ∧ ∀ y ∈ xs, minL xs ≤ y
  | [], h => absurd rfl h
  | [x], _ => ⟨by simp [minL], by simp [minL]⟩
  | x :: y :: r, _ => by
    obtain ⟨h1, h2⟩ := minL_spec (y :: r) (by simp)
    show (if minL (y :: r) < x then minL (y :: r) else x) ∈ _ ∧ ∀ z ∈ _, (if minL (y :: r) < x then minL (y :: r) else x) ≤ z
    split
    · refine ⟨List.mem_cons_of_mem _ h1, fun z hz => ?_⟩
      rcases List.mem_cons.mp hz with rfl | hz
      · omega
      · exact h2 z hz
    · refine ⟨List.mem_cons_self, fun z hz => ?_⟩
      rcases List.mem_cons.mp hz with rfl | hz
      · omega
      · have := h2 z hz
        omega
/-- how a built-in stands in the program: its name, its value -/
def biName : Bi → Str
  | .len => "len"
  | .abs => "abs"
  | .int => "int"
  | .bool => "bool"
  | .repr => "repr"
  | .sum => "sum"
  | .max => "max"
  | .min => "min"
  | .tuple => "tuple"
  | .list => "list"
  | .sorted => "sorted"
  | .all => "all"
  | .any => "any"
  | .str => "str"
  | .isinst => "isinstance"
  | .dict => "dict"
/-- its kind: a function, or a class -/
def biTy : Bi → Bool
  | .int => true
  | .bool => true
  | .tuple => true
  | .list => true
  | .str => true
  | .dict => true
  | _ => false
def biS : Bi → String
  | .len => "len"
  | .abs => "abs"
  | .int => "int"
  | .bool => "bool"
  | .repr => "repr"
  | .sum => "sum"
  | .max => "max"
  | .min => "min"
  | .tuple => "tuple"
  | .list => "list"
  | .sorted => "sorted"
  | .all => "all"
  | .any => "any"
  | .str => "str"
  | .isinst => "isinstance"
  | .dict => "dict"
def biV (b : Bi) : Value := if biTy b then .type (biS b) else .builtin (biS b)
def rBi (K : PySem.W.Frag) (b : Bi) (md : Nat) : List V → Hp → VK → Prop := fun vs H Q => ∃ A w σ ds r w', Sim K H A w σ ∧ RDs K H A ds vs ∧ biF b md ds w = .ok (r, w') ∧ Aft K A H σ r w' Q
section
variable {X : Cx}
theorem one_of {K : PySem.W.Frag} {H : Hp} {A : Ad} {d : D} {vs : List V} (h : RDs K H A [d] vs) : ∃ v, vs = [v] ∧ RD K H A d v := by
  obtain ⟨v, r, rfl, x, y⟩ := h
  rw [show r = [] from y]
  exact ⟨v, rfl, x⟩
theorem two_of {K : PySem.W.Frag} {H : Hp} {A : Ad} {d e : D} {vs : List V} (h : RDs K H A [d, e] vs) : ∃ v u, vs = [v, u] ∧ RD K H A d v ∧ RD K H A e u := by
  obtain ⟨v, r, rfl, x, y⟩ := h
  obtain ⟨u, rfl, z⟩ := one_of y
  exact ⟨v, u, rfl, x, z⟩
theorem intsL {K : PySem.W.Frag} {H : Hp} {A : Ad} {w : Wd} {σ : Sl} (S : Sim K H A w σ) {d : D} {v : V} {ns : List Int} (r : RD K H A d v) (t : isT d = false) (e : (w.seq d).bind intD = some ns) : ∃ a, v = .ref a ∧ SqL K H a (ns.map V.int) := by
  obtain ⟨xs, e1, e2⟩ := Option.bind_eq_some_iff.mp e
  obtain ⟨a, vs, rfl, rs, h⟩ := S.seq r e1
  have ev := rs.ints e2
  subst ev
  rcases h with ⟨h, _⟩ | ⟨_, h⟩
  · rw [t] at h
    cases h
  · exact ⟨a, rfl, h⟩
theorem boolsL {K : PySem.W.Frag} {H : Hp} {A : Ad} {w : Wd} {σ : Sl} (S : Sim K H A w σ) {d : D} {v : V} {ns : List Bool} (r : RD K H A d v) (t : isT d = false) (e : (w.seq d).bind boolD = some ns) : ∃ a, v = .ref a ∧ SqL K H a (ns.map V.bl) := by
  obtain ⟨xs, e1, e2⟩ := Option.bind_eq_some_iff.mp e
  obtain ⟨a, vs, rfl, rs, h⟩ := S.seq r e1
  have ev := rs.bools e2
  subst ev
  rcases h with ⟨h, _⟩ | ⟨_, h⟩
  · rw [t] at h
    cases h
  · exact ⟨a, rfl, h⟩
theorem bi_len {md : Nat} : CallR X (biV .len) (rBi X.K .len md) := by
  intro pins s σ H vs us Q I rv h
  obtain ⟨A, w, σ', ds, r, w', S, rs, ho, q⟩ := h
  match ds, ho with
  | [], ho => cases ho
  | _ :: _ :: _, ho => 
    exfalso
    rename_i d e t
    cases d <;> cases ho
  | [d], ho =>
    obtain ⟨v, rfl, rd1⟩ := one_of rs
    by_cases hs : ∃ z, d = .str z
    · obtain ⟨z, rfl⟩ := hs
      have ho : (if z.length ≤ mxLen then R.ok (D.int z.length, w) else .err) = .ok (r, w') := ho
      split at ho
      · rename_i hz
        cases ho
        obtain rfl : v = .str z := rd1
        exact call_len pins s σ H _ us Q I rv ⟨.str z, z.length, rfl, ⟨Nat.le_trans hz (by decide), rfl⟩, q.here S rfl⟩
      · cases ho
    · have ho : ((R.of (w.seq d)).bd fun xs => R.ok (D.int xs.length, w)) = .ok (r, w') := by
        rw [← ho]
        cases d <;> first | rfl | exact absurd ⟨_, rfl⟩ hs
      obtain ⟨xs, e1, ho⟩ := bd_split ho
      cases ho
      obtain ⟨a, ys, rfl, rs2, hq⟩ := S.seq rd1 (of_split e1)
      refine call_len pins s σ H _ us Q I rv ⟨.ref a, xs.length, rfl, ?_, q.here S rfl⟩
      rcases hq with ⟨_, hq⟩ | ⟨_, hq⟩
      · exact .inr ⟨ys, hq, rs2.length.symm⟩
      · exact .inl ⟨ys, hq, rs2.length.symm⟩
theorem bi_abs {md : Nat} : CallR X (biV .abs) (rBi X.K .abs md) := by
  intro pins s σ H vs us Q I rv h
  obtain ⟨A, w, σ', ds, r, w', S, rs, ho, q⟩ := h
  match ds, ho with
  | [], ho => cases ho
  | d :: _ :: _, ho => cases d <;> cases ho
  | [d], ho =>
    obtain ⟨v, rfl, rd1⟩ := one_of rs
    cases d with
    | int i =>
      cases ho
      obtain rfl : v = .int i := rd1
      exact call_abs pins s σ H _ us Q I rv ⟨i, rfl, q.here S rfl⟩
    | _ => cases ho
theorem bi_int {md : Nat} : CallR X (biV .int) (rBi X.K .int md) := by
  intro pins s σ H vs us Q I rv h
  obtain ⟨A, w, σ', ds, r, w', S, rs, ho, q⟩ := h
  match ds, ho with
  | [], ho => cases ho
  | d :: _ :: _, ho => cases d <;> cases ho
  | [d], ho =>
    obtain ⟨v, rfl, rd1⟩ := one_of rs
    cases d with
    | int i =>
      cases ho
      obtain rfl : v = .int i := rd1
      exact call_int1 pins s σ H _ us Q I rv (.inl ⟨i, rfl, q.here S rfl⟩)
    | bl i =>
      cases ho
      obtain rfl : v = .bl i := rd1
      exact call_int1 pins s σ H _ us Q I rv (.inr ⟨i, rfl, q.here S rfl⟩)
    | _ => cases ho
theorem bi_bool {md : Nat} : CallR X (biV .bool) (rBi X.K .bool md) := by
  intro pins s σ H vs us Q I rv h
  obtain ⟨A, w, σ', ds, r, w', S, rs, ho, q⟩ := h
  match ds, ho with
  | [], ho => cases ho
  | d :: _ :: _, ho => cases d <;> cases ho
  | [d], ho =>
    obtain ⟨v, rfl, rd1⟩ := one_of rs
    cases d with
    | int i =>
      cases ho
      obtain rfl : v = .int i := rd1
      exact call_bool1 pins s σ H _ us Q I rv (.inl ⟨i, rfl, q.here S rfl⟩)
    | bl i =>
      cases ho
      obtain rfl : v = .bl i := rd1
      exact call_bool1 pins s σ H _ us Q I rv (.inr ⟨i, rfl, q.here S rfl⟩)
    | _ => cases ho
theorem bi_repr {md : Nat} (hn : X.base.NoDigits) (hg : X.A.guards = some []) (hu : X.A.units + 64 < cLine) : CallR X (biV .repr) (rBi X.K .repr md) := by
  intro pins s σ H vs us Q I rv h
  obtain ⟨A, w, σ', ds, r, w', S, rs, ho, q⟩ := h
  match ds, ho with
  | [], ho => cases ho
  | _ :: _ :: _, ho => cases ho
  | [d], ho =>
    obtain ⟨v, rfl, rd1⟩ := one_of rs
    obtain ⟨p, e1, ho⟩ := bd_split (show ((R.of (w.py d)).bd fun p => if reprOk p then R.ok (D.str p.shown, w) else .err) = .ok (r, w') from ho)
    split at ho
    · rename_i hp
      cases ho
      exact call_reprD hn hg hu pins s σ H _ us Q I rv ⟨v, p, rfl, S.dp (of_split e1) rd1, hp, q.here S rfl⟩
    · cases ho
theorem bi_sum {md : Nat} (hc : X.calm = true) : CallR X (biV .sum) (rBi X.K .sum md) := by
  intro pins s σ H vs us Q I rv h
  obtain ⟨A, w, σ', ds, r, w', S, rs, ho, q⟩ := h
  match ds, ho with
  | [], ho => cases ho
  | _ :: _ :: _, ho => cases ho
  | [d], ho =>
    obtain ⟨v, rfl, rd1⟩ := one_of rs
    obtain ⟨ns, e1, ho⟩ := bd_split (show ((R.of ((w.seq d).bind intD)).bd fun xs => R.ok (D.int xs.sum, w)) = .ok (r, w') from ho)
    cases ho
    obtain ⟨xs, e2, e3⟩ := Option.bind_eq_some_iff.mp (of_split e1)
    obtain ⟨a, ys, rfl, rs2, hq⟩ := S.seq rd1 e2
    have ev := rs2.ints e3
    subst ev
    rcases hq with ⟨_, hq⟩ | ⟨_, hq⟩
    · exact cr_sumT hc pins s σ H _ us Q I rv ⟨a, ns, rfl, hq, q.here S rfl⟩
    · exact cr_sum hc pins s σ H _ us Q I rv ⟨a, ns, rfl, hq, q.here S rfl⟩
theorem bi_sorted {md : Nat} : CallR X (biV .sorted) (rBi X.K .sorted md) := by
  intro pins s σ H vs us Q I rv h
  obtain ⟨A, w, σ', ds, r, w', S, rs, ho, q⟩ := h
  match ds, ho with
  | [], ho => cases ho
  | _ :: _ :: _, ho => cases ho
  | [d], ho =>
    obtain ⟨v, rfl, rd1⟩ := one_of rs
    have ho : (if isT d then R.err else (R.of (w.seq d)).bd fun xs => match intD xs with
      | some ns => newL md ((sortI ns).map D.int) w
      | none => match tupD xs with
        | some ts => if tupOk ts then newL md ((sortT ts).map tupI) w else .err
        | none => (R.of (pairD xs)).bd fun ps => if decide (ps.length < 64 ∧ (ps.map (·.1)).Nodup) then newL md ((sortP ps).map pairI) w else .err) = .ok (r, w') := ho
    split at ho
    · cases ho
    · rename_i ht
      obtain ⟨xs, e1, ho⟩ := bd_split ho
      obtain ⟨a, ys, rfl, rs2, hq⟩ := S.seq rd1 (of_split e1)
      rcases hq with ⟨z, _⟩ | ⟨_, hq⟩
      · exact absurd z ht
      split at ho
      · rename_i ns hns
        have ev := rs2.ints hns
        subst ev
        refine cr_sortedI pins s σ H _ us Q I rv ⟨a, ns, rfl, hq, fun ns' p pm pw hp => ?_⟩
        have e : ns' = sortI ns := sorted_uniq id (fun _ _ _ _ h => h) (pm.trans (sortI_perm ns).symm) pw (sortI_srt ns)
        subst e
        have ri : RDs X.K H A ((sortI ns).map D.int) ((sortI ns).map V.int) := by
          generalize sortI ns = l
          induction l with
          | nil => exact (rfl : _ = _)
          | cons n l ih => exact RDs.cons_iff.mpr ⟨rfl, ih⟩
        exact (Aft.newL ho S ri q).2 p hp
      · split at ho
        · rename_i ts e2
          split at ho
          · rename_i hok
            obtain ⟨h64, d, hd, hB⟩ := tupOk_of hok
            obtain ⟨ks, rfl, k1, k2⟩ := tups_at rs2 e2
            have hB' : ∀ p ∈ ks, p.2.length = d ∧ TS.Bd 1000000000 p.2 := fun p hp => hB p.2 (by rw [← k2]; exact List.mem_map.mpr ⟨p, hp, rfl⟩)
            refine cr_sortedTs pins s σ H _ us Q I rv ⟨a, ks, d, 1000000000, rfl, hq, k1, by rw [← k2, List.length_map] at h64; exact h64, hd, hB', fun L p pm pw hp => ?_⟩
            have e : L.map (·.2) = sortT ts := by
              refine sorted_uniq (TS.code 1000000000) (fun x hx y hy hc => ?_) ?_ ?_ (sortT_srt ts hB)
              · obtain ⟨px, hpx, rfl⟩ := List.mem_map.mp hx
                obtain ⟨py, hpy, rfl⟩ := List.mem_map.mp hy
                have b1 := hB' px (pm.mem_iff.mp hpx)
                have b2 := hB' py (pm.mem_iff.mp hpy)
                exact (lex_code (b1.1.trans b2.1.symm) b1.2 b2.2).2.2 hc
              · exact ((pm.map (·.2)).trans (List.Perm.of_eq k2)).trans (sortT_perm ts).symm
              · exact List.pairwise_map.mpr pw
            have ri := tups_rd (K := X.K) (H := H) (A := A) (ks := L) fun p hp => k1 p (pm.mem_iff.mp hp)
            rw [e] at ri
            exact (Aft.newL ho S ri q).2 p hp
          · cases ho
        · obtain ⟨ps, e2, ho⟩ := bd_split ho
          split at ho
          · rename_i hok
            obtain ⟨h64, hnd⟩ := of_decide_eq_true hok
            obtain ⟨ks, rfl, k1, k2⟩ := prq_at rs2 (of_split e2)
            have l : ks.length = ps.length := by rw [← k2, List.length_map]
            have nd : (ks.map Prs.k).Nodup := by
              rw [← k2, List.map_map] at hnd
              exact hnd
            refine cr_sortedPr pins s σ H _ us Q I rv ⟨a, ks, rfl, hq, fun p hp => (k1 p hp).1, by rw [l]; exact h64, nd, fun L p pm pw hp => ?_⟩
            have e : L.map Prs.q = sortP ps := by
              refine sorted_uniq (fun x => x.1) (fun x hx y hy hc => ?_) (((pm.map Prs.q).trans (List.Perm.of_eq k2)).trans (sortP_perm ps).symm) (List.pairwise_map.mpr pw) (sortP_srt ps)
              obtain ⟨px, hpx, rfl⟩ := List.mem_map.mp hx
              obtain ⟨py, hpy, rfl⟩ := List.mem_map.mp hy
              obtain ⟨i, hi, rfl⟩ := List.mem_iff_getElem.mp (pm.mem_iff.mp hpx)
              obtain ⟨j, hj, rfl⟩ := List.mem_iff_getElem.mp (pm.mem_iff.mp hpy)
              have : i = j := (List.getElem_inj (i := i) (j := j) (h₀ := by rw [List.length_map]; exact hi) (h₁ := by rw [List.length_map]; exact hj) nd).mp (by rw [List.getElem_map, List.getElem_map]; exact hc)
              subst this
              rfl
            have ri := prq_rd (K := X.K) (H := H) (A := A) (ks := L) fun p hp => k1 p (pm.mem_iff.mp hp)
            rw [e] at ri
            exact (Aft.newL ho S ri q).2 p hp
          · cases ho
theorem bi_dict {md : Nat} (hc : X.calm = true) : CallR X (biV .dict) (rBi X.K .dict md) := by
  intro pins s σ H vs us Q I rv h
  obtain ⟨A, w, σ', ds, r, w', S, rs, ho, q⟩ := h
  match ds, ho with
  | [], ho => cases ho
  | _ :: _ :: _, ho => cases ho
  | [d], ho =>
    obtain ⟨v, rfl, rd1⟩ := one_of rs
    have ho : (if isT d then R.err else (R.of ((w.seq d).bind prsD)).bd fun p => if p.1.Nodup ∧ p.1 ≠ [] ∧ p.1.length ≤ 15 then R.ok (D.dic p.1 p.2, w) else R.err) = .ok (r, w') := ho
    split at ho
    · cases ho
    · rename_i ht
      obtain ⟨⟨ks, es⟩, e1, ho⟩ := bd_split ho
      split at ho
      · rename_i hk
        cases ho
        obtain ⟨xs, e2, e3⟩ := Option.bind_eq_some_iff.mp (of_split e1)
        obtain ⟨a, ys, rfl, rs2, hq⟩ := S.seq rd1 e2
        rcases hq with ⟨z, _⟩ | ⟨_, hq⟩
        · exact absurd z ht
        · obtain ⟨ps, kvs, rfl, q1, q2, q3⟩ := prs_at rs2 e3
          exact call_dictP hc pins s σ H _ us Q I rv ⟨a, ps, kvs, rfl, hq, q1, Aft.newD S hk.2.1 hk.1 q2 q3 q⟩
      · cases ho
theorem bi_max {md : Nat} (hc : X.calm = true) : CallR X (biV .max) (rBi X.K .max md) := by
  intro pins s σ H vs us Q I rv h
  obtain ⟨A, w, σ', ds, r, w', S, rs, ho, q⟩ := h
  match ds, ho with
  | [], ho => cases ho
  | d :: e :: _ :: _, ho => cases d <;> first | (cases ho) | (cases e <;> cases ho)
  | [d, e], ho =>
    obtain ⟨v, u, rfl, rd1, rd2⟩ := two_of rs
    cases d with
    | int i =>
      cases e with
      | int j =>
        cases ho
        obtain rfl : v = .int i := rd1
        obtain rfl : u = .int j := rd2
        exact call_max2 hc pins s σ H _ us Q I rv ⟨i, j, rfl, q.here S rfl⟩
      | _ => cases ho
    | _ => cases e <;> cases ho
  | [d], ho =>
    obtain ⟨v, rfl, rd1⟩ := one_of rs
    have ho : (if isT d then R.err else (R.of ((w.seq d).bind intD)).bd fun xs => if xs.isEmpty then R.err else R.ok (D.int (maxL xs), w)) = .ok (r, w') := by
      rw [← ho]
      cases d <;> rfl
    split at ho
    · cases ho
    · rename_i ht
      obtain ⟨ns, e1, ho⟩ := bd_split ho
      split at ho
      · cases ho
      · rename_i he
        cases ho
        obtain ⟨a, rfl, hq⟩ := intsL S rd1 (by simpa using ht) (of_split e1)
        have hne : ns ≠ [] := fun z => he (by rw [z]; rfl)
        obtain ⟨m1, m2⟩ := maxL_spec ns hne
        refine cr_max hc pins s σ H _ us Q I rv ⟨a, ns, rfl, hq, List.length_pos_iff.mpr hne, fun m hm hle => ?_⟩
        have em : m = maxL ns := Int.le_antisymm (m2 m hm) (hle _ m1)
        rw [em]
        exact q.here S rfl
theorem bi_min {md : Nat} (hc : X.calm = true) : CallR X (biV .min) (rBi X.K .min md) := by
  intro pins s σ H vs us Q I rv h
  obtain ⟨A, w, σ', ds, r, w', S, rs, ho, q⟩ := h
  match ds, ho with
  | [], ho => cases ho
  | d :: e :: _ :: _, ho => cases d <;> first | (cases ho) | (cases e <;> cases ho)
  | [d, e], ho =>
    obtain ⟨v, u, rfl, rd1, rd2⟩ := two_of rs
    cases d with
    | int i =>
      cases e with
      | int j =>
        cases ho
        obtain rfl : v = .int i := rd1
        obtain rfl : u = .int j := rd2
        exact call_min2 hc pins s σ H _ us Q I rv ⟨i, j, rfl, q.here S rfl⟩
      | _ => cases ho
    | _ => cases e <;> cases ho
  | [d], ho =>
    obtain ⟨v, rfl, rd1⟩ := one_of rs
    have ho : (if isT d then R.err else (R.of ((w.seq d).bind intD)).bd fun xs => if xs.isEmpty then R.err else R.ok (D.int (minL xs), w)) = .ok (r, w') := by
      rw [← ho]
      cases d <;> rfl
    split at ho
    · cases ho
    · rename_i ht
      obtain ⟨ns, e1, ho⟩ := bd_split ho
      split at ho
      · cases ho
      · rename_i he
        cases ho
        obtain ⟨a, rfl, hq⟩ := intsL S rd1 (by simpa using ht) (of_split e1)
        have hne : ns ≠ [] := fun z => he (by rw [z]; rfl)
        obtain ⟨m1, m2⟩ := minL_spec ns hne
        refine cr_min hc pins s σ H _ us Q I rv ⟨a, ns, rfl, hq, List.length_pos_iff.mpr hne, fun m hm hle => ?_⟩
        have em : m = minL ns := Int.le_antisymm (hle _ m1) (m2 m hm)
        rw [em]
        exact q.here S rfl
theorem bi_tuple {md : Nat} : CallR X (biV .tuple) (rBi X.K .tuple md) := by
  intro pins s σ H vs us Q I rv h
  obtain ⟨A, w, σ', ds, r, w', S, rs, ho, q⟩ := h
  match ds, ho with
  | [], ho => cases ho
  | _ :: _ :: _, ho => cases ho
  | [d], ho =>
    obtain ⟨v, rfl, rd1⟩ := one_of rs
    obtain ⟨xs, e1, ho⟩ := bd_split (show ((R.of (w.seq d)).bd fun xs => newT xs w) = .ok (r, w') from ho)
    obtain ⟨a, ys, rfl, rs2, hq⟩ := S.seq rd1 (of_split e1)
    obtain ⟨_, qn⟩ := Aft.newT ho S rs2 q
    obtain ⟨rfl, rfl, _⟩ := newT_ok ho rs2
    rcases hq with ⟨_, hq⟩ | ⟨_, hq⟩
    · exact call_tuple_of pins s σ H _ us Q I rv ⟨a, ys, rfl, .inr ⟨hq, q.here S ⟨a, ys, rfl, hq, rs2⟩⟩⟩
    · exact call_tuple_of pins s σ H _ us Q I rv ⟨a, ys, rfl, .inl ⟨hq, qn⟩⟩
theorem bi_list {md : Nat} : CallR X (biV .list) (rBi X.K .list md) := by
  intro pins s σ H vs us Q I rv h
  obtain ⟨A, w, σ', ds, r, w', S, rs, ho, q⟩ := h
  match ds, ho with
  | [], ho => cases ho
  | _ :: _ :: _, ho => cases ho
  | [d], ho =>
    obtain ⟨v, rfl, rd1⟩ := one_of rs
    obtain ⟨xs, e1, ho⟩ := bd_split (show ((R.of (w.seq d)).bd fun xs => newL md xs w) = .ok (r, w') from ho)
    obtain ⟨a, ys, rfl, rs2, hq⟩ := S.seq rd1 (of_split e1)
    obtain ⟨_, qn⟩ := Aft.newL ho S rs2 q
    refine call_list_of pins s σ H _ us Q I rv ⟨a, ys, rfl, ?_, qn⟩
    rcases hq with ⟨_, hq⟩ | ⟨_, hq⟩
    · exact .inr hq
    · exact .inl hq
theorem bi_all {md : Nat} (hc : X.calm = true) : CallR X (biV .all) (rBi X.K .all md) := by
  intro pins s σ H vs us Q I rv h
  obtain ⟨A, w, σ', ds, r, w', S, rs, ho, q⟩ := h
  match ds, ho with
  | [], ho => cases ho
  | _ :: _ :: _, ho => cases ho
  | [d], ho =>
    obtain ⟨v, rfl, rd1⟩ := one_of rs
    have ho : (if isT d then R.err else (R.of ((w.seq d).bind boolD)).bd fun xs => R.ok (D.bl (xs.all id), w)) = .ok (r, w') := ho
    split at ho
    · cases ho
    · rename_i ht
      obtain ⟨ns, e1, ho⟩ := bd_split ho
      cases ho
      obtain ⟨a, rfl, hq⟩ := boolsL S rd1 (by simpa using ht) (of_split e1)
      exact cr_all hc pins s σ H _ us Q I rv ⟨a, ns, rfl, hq, q.here S rfl⟩
theorem bi_any {md : Nat} (hc : X.calm = true) : CallR X (biV .any) (rBi X.K .any md) := by
  intro pins s σ H vs us Q I rv h
  obtain ⟨A, w, σ', ds, r, w', S, rs, ho, q⟩ := h
  match ds, ho with
  | [], ho => cases ho
  | _ :: _ :: _, ho => cases ho
  | [d], ho =>
    obtain ⟨v, rfl, rd1⟩ := one_of rs
    have ho : (if isT d then R.err else (R.of ((w.seq d).bind boolD)).bd fun xs => R.ok (D.bl (xs.any id), w)) = .ok (r, w') := ho
    split at ho
    · cases ho
    · rename_i ht
      obtain ⟨ns, e1, ho⟩ := bd_split ho
      cases ho
      obtain ⟨a, rfl, hq⟩ := boolsL S rd1 (by simpa using ht) (of_split e1)
      exact cr_any hc pins s σ H _ us Q I rv ⟨a, ns, rfl, hq, q.here S rfl⟩
theorem bi_sound (b : Bi) (md : Nat) (hc : X.calm = true) (hn : X.base.NoDigits) (hg : X.A.guards = some []) (hu : X.A.units + 64 < cLine) : CallR X (biV b) (rBi X.K b md) := by
  cases b with
  | len => exact bi_len
  | abs => exact bi_abs
  | int => exact bi_int
  | bool => exact bi_bool
  | repr => exact bi_repr hn hg hu
  | sum => exact bi_sum hc
  | max => exact bi_max hc
  | min => exact bi_min hc
  | tuple => exact bi_tuple
  | list => exact bi_list
  | all => exact bi_all hc
  | any => exact bi_any hc
  | dict => exact bi_dict hc
  | sorted => exact bi_sorted
  | _ =>
    intro pins s σ H vs us Q I rv h
    obtain ⟨A, w, σ', ds, r, w', S, rs, ho, q⟩ := h
    cases ho
end
end Fz

/-! Q8: methods; what a def promises; the context. -/
namespace Fz
open PySem PySem.Spec PyProof.Rows L2

/-! ### methods -/
def meName : Me → Str
  | .append => "append"
  | .extend => "extend"
  | .pop => "pop"
  | .insert => "insert"
  | .index => "index"
  | .count => "count"
  | .remove => "remove"
def rMe (K : PySem.W.Frag) (m : Me) : V → List V → Hp → VK → Prop := fun x vs H Q => ∃ A w σ d ds r w', Sim K H A w σ ∧ RD K H A d x ∧ RDs K H A ds vs ∧ meF m d ds w = .ok (r, w') ∧ Aft K A H σ r w' Q
section
variable {X : Cx}
theorem put_use {K : PySem.W.Frag} {H : Hp} {A : Ad} {w w' : Wd} {σ : Sl} {d r : D} {v : V} {xs ys : List D} {Q : VK} (S : Sim K H A w σ) (r1 : RD K H A d v) (e1 : w.seq d = some xs) (e2 : w.put d ys = some w') (q : Aft K A H σ r w' Q) :
    ∃ a us, v = .ref a ∧ H a = some (.lst us) ∧ RDs K H A xs us ∧ ∀ vs z, RDs K H A ys vs → RD K H A r z → Q z (upd H a (.lst vs)) := by
  obtain ⟨a, us, ys', rfl, h1, h2, h3, h4⟩ := put_ok e1 e2 S r1
  rw [e1] at h2
  cases h2
  refine ⟨a, us, rfl, h1, h3, fun vs z hv hz => ?_⟩
  obtain ⟨s, S'⟩ := h4 vs hv
  exact q A z _ s S' (hz.step s.toCar)
theorem me_append : MtM X "list.append" (rMe X.K .append) := by
  intro pins s σ H x vs v us Q I rx rv h
  obtain ⟨A, w, σ', d, ds, r, w', S, rd1, rs, ho, q⟩ := h
  match ds, ho with
  | [], ho => cases ho
  | _ :: _ :: _, ho => cases ho
  | [e], ho =>
    obtain ⟨u, rfl, rd2⟩ := one_of rs
    obtain ⟨xs, e1, ho⟩ := bd_split (show ((R.of (w.seq d)).bd fun xs => if xs.length < mxLen then (R.of (w.put d (xs ++ [e]))).bd fun w' => R.ok (D.non, w') else R.err) = .ok (r, w') from ho)
    split at ho
    · rename_i hz
      obtain ⟨w2, e2, ho⟩ := bd_split ho
      cases ho
      obtain ⟨a, ys, rfl, h1, h2, h3⟩ := put_use S rd1 (of_split e1) (of_split e2) q
      exact mt_append pins s σ H _ _ v us Q I rx rv ⟨a, ys, u, rfl, rfl, h1, Nat.lt_of_lt_of_le (by rw [h2.length]; exact hz) (by decide), h3 _ _ (h2.append (RDs.one rd2)) rfl⟩
    · cases ho
theorem me_extend : MtM X "list.extend" (rMe X.K .extend) := by
  intro pins s σ H x vs v us Q I rx rv h
  obtain ⟨A, w, σ', d, ds, r, w', S, rd1, rs, ho, q⟩ := h
  match ds, ho with
  | [], ho => cases ho
  | _ :: _ :: _, ho => cases ho
  | [e], ho =>
    obtain ⟨u, rfl, rd2⟩ := one_of rs
    have ho : (if isL e && !deq e d then (R.of (w.seq d)).bd fun xs => (R.of (w.seq e)).bd fun ys => if xs.length + ys.length ≤ mxLen then (R.of (w.put d (xs ++ ys))).bd fun w' => R.ok (D.non, w') else R.err else R.err) = .ok (r, w') := ho
    split at ho
    · rename_i hl
      obtain ⟨xs, e1, ho⟩ := bd_split ho
      obtain ⟨ys, e2, ho⟩ := bd_split ho
      split at ho
      · rename_i hz
        obtain ⟨w2, e3, ho⟩ := bd_split ho
        cases ho
        obtain ⟨b, zs, rfl, h5, h6⟩ := S.lst rd2 (Bool.and_eq_true_iff.mp hl).1 (of_split e2)
        obtain ⟨a, ys', rfl, h1, h2, h3⟩ := put_use S rd1 (of_split e1) (of_split e3) q
        exact mt_extend pins s σ H _ _ v us Q I rx rv ⟨a, b, ys', zs, rfl, rfl, h1, h6, Nat.le_trans (by rw [h2.length, h5.length]; exact hz) (by decide), h3 _ _ (h2.append h5) rfl⟩
      · cases ho
    · cases ho
theorem ixI_seq {n : Nat} {i : Int} {j : Nat} (h : ixI n i = some j) : seqIndex? i n = some j ∧ j < n ∧ -(n : Int) ≤ i ∧ i < n := ixN_seq h
theorem me_pop : MtM X "list.pop" (rMe X.K .pop) := by
  intro pins s σ H x vs v us Q I rx rv h
  obtain ⟨A, w, σ', d, ds, r, w', S, rd1, rs, ho, q⟩ := h
  match ds, ho with
  | e :: _ :: _, ho => cases e <;> cases ho
  | [], ho =>
    obtain rfl : vs = [] := rs
    obtain ⟨xs, e1, ho⟩ := bd_split (show ((R.of (w.seq d)).bd fun xs => (R.of xs[xs.length - 1]?).bd fun y => (R.of (w.put d xs.dropLast)).bd fun w' => R.ok (y, w')) = .ok (r, w') from ho)
    obtain ⟨y, e2, ho⟩ := bd_split ho
    obtain ⟨w2, e3, ho⟩ := bd_split ho
    cases ho
    obtain ⟨a, ys, rfl, h1, h2, h3⟩ := put_use S rd1 (of_split e1) (of_split e3) q
    obtain ⟨z, hz, rz⟩ := h2.get (of_split e2)
    exact mt_pop pins s σ H _ _ v us Q I rx rv ⟨a, ys, z, rfl, rfl, h1, by rw [h2.length]; exact hz, h3 _ _ h2.dropLast rz⟩
  | [e], ho =>
    cases e with
    | int i =>
      obtain ⟨u, rfl, rd2⟩ := one_of rs
      obtain rfl : u = .int i := rd2
      obtain ⟨xs, e1, ho⟩ := bd_split (show ((R.of (w.seq d)).bd fun xs => (R.of (ixI xs.length i)).bd fun k => (R.of xs[k]?).bd fun y => (R.of (w.put d (xs.eraseIdx k))).bd fun w' => R.ok (y, w')) = .ok (r, w') from ho)
      obtain ⟨k, e4, ho⟩ := bd_split ho
      obtain ⟨y, e2, ho⟩ := bd_split ho
      obtain ⟨w2, e3, ho⟩ := bd_split ho
      cases ho
      obtain ⟨a, ys, rfl, h1, h2, h3⟩ := put_use S rd1 (of_split e1) (of_split e3) q
      obtain ⟨z, hz, rz⟩ := h2.get (of_split e2)
      obtain ⟨l1, l2, l3, l4⟩ := ixI_seq (of_split e4)
      have zl : xs.length ≤ sizeLine := by
        obtain ⟨_, _, _, _, z⟩ := I.lst h1
        rw [← h2.length]
        exact z
      rw [sizeLine_eq] at zl
      exact mt_popAt pins s σ H _ _ v us Q I rx rv ⟨a, ys, i, k, z, rfl, rfl, h1, by omega, by omega, by rw [h2.length]; exact l1, hz, h3 _ _ (h2.eraseIdx k) rz⟩
    | _ => cases ho
end

/-! ### a def's promise -/
/-- a def by what it is worth -/
def spD (K : PySem.W.Frag) (F : List D → List (List D) → R (D × List (List D))) (n : Nat) : Sp := fun vs H Q _ => ∃ (A : Ad) (g : List (List D)) (ds : List D) (d : D) (g' : List (List D)), A.mu = [] ∧ A.cn = [] ∧ Sim K H A ⟨[], [], g⟩ [] ∧ RDs K H A ds vs ∧ ds.length = n ∧ F ds g = .ok (d, g') ∧
  ∀ A' v H', Step A H A' H' → A'.mu = [] → Sim K H' A' ⟨[], [], g'⟩ [] → RD K H' A' d v → Q v H'
/-- FnOk with no guard around -/
structure FnG (P : Program) (w : World) (K : PySem.W.Frag) (mg : Str → Option Value) (base : Heap) (k : Nat) (f : Addr) (fd : FuncData) (ps : List Str) (sp : Sp) : Prop where
  run : ∀ (A : Around) (outer : List Env) (s : Shared) (H : Hp) (args : Args) (us : List Value) (vs : List V) (Q : VK) (E : XK), Room k A → A.guards = some [] → Env0 P w K mg base A outer s H → BindsTo s fd args (ps.zip us) → Vals vs us → sp vs H Q E →
    codeAny (model P w) A (.call (.ref f) args) (CR CX0 outer P w H s Q E) s
theorem FnG.mono {P : Program} {w : World} {K : PySem.W.Frag} {mg : Str → Option Value} {base : Heap} {j k : Nat} {f : Addr} {fd : FuncData} {ps : List Str} {sp : Sp} (F : FnG P w K mg base j f fd ps sp) (h : j ≤ k) : FnG P w K mg base k f fd ps sp :=
  ⟨fun A outer s H args us vs Q E hr => F.run A outer s H args us vs Q E (hr.mono h)⟩

structure Tb where
  free : List Str
  defs : List (Str × List Str)
  cons : List (Str × D)
  /-- def, positional values, keywords, the order -/
  binds : List (Nat × Nat × List Str × Option (List Nat))
def BindOk (fd : FuncData) (ps : List Str) (n : Nat) (ks : List Str) (p : Option (List Nat)) : Prop :=
  ∀ (s : Shared) (us ws zs : List Value), us.length = n → ws.length = ks.length → arrD p (us ++ ws) = some zs → BindsTo s fd ⟨us, ks.zip ws⟩ (ps.zip zs)
/-- cells that may be stored -/
def wrT (top : Option Scope) (x : Str) : Bool := match top with
  | none => true
  | some scope => scope.names.lookup x == some .cell
structure GX (T : Tb) (P : Pg) (lv : Nat) (N : List Str) (sc : Scope) (top : Option Scope) (X : Cx) : Prop where
  hN : X.N = N
  nd : N.Nodup
  sco : X.env.scope = sc
  kind : sc.kind = .function
  calm : X.calm = true
  xe : X.xe = fun _ _ => False
  room : Room lv X.A
  gd : X.A.guards = some []
  dig : X.base.NoDigits
  fn : ∀ x, wrT top x = true → X.fn x = true
  free : ∀ x ∈ T.free, X.mg x = none
  defs : ∀ (j : Nat) d, T.defs[j]? = some d → j < lv → ∃ f fd, X.mg d.1 = some (.ref f) ∧ PySem.W.keepIn X.K (.ref f) = true ∧ FnG X.prog X.w X.K X.mg X.base lv f fd d.2 (spD X.K (P.F j) d.2.length) ∧
    (∀ n ks p, (j, n, ks, p) ∈ T.binds → BindOk fd d.2 n ks p) ∧ ∀ ds g r g', P.F j ds g = .ok (r, g') → okRet r = true
  cons : ∀ (i : Nat) c, T.cons[i]? = some c → P.C[i]? = some c.2 ∧ ∃ u v, X.mg c.1 = some u ∧ RelV v u ∧ ∀ H A, RD X.K H A c.2 v
theorem blkScope {X : Cx} {scope : Scope} {cl : List (Str × Addr)} {C : Addr} {s : Shared} {H : Hp} {fp : List Addr} : (X.blk s H scope (compEnvC scope cl C X.env) fp).env.scope = relS scope X.env.scope := rfl
theorem GX.blk {T : Tb} {P : Pg} {lv : Nat} {N : List Str} {sc : Scope} {top : Option Scope} {X : Cx} (G : GX T P lv N sc top X) {scope : Scope} (hk : scope.kind = .function) (s : Shared) (H : Hp) (C : Addr) (cl : List (Str × Addr)) (fp : List Addr) :
    GX T P lv N (relS scope sc) (some scope) (X.blk s H scope (compEnvC scope cl C X.env) fp) where
  hN := G.hN
  nd := G.nd
  sco := by rw [blkScope, G.sco]
  kind := hk
  calm := G.calm
  xe := rfl
  room := G.room
  gd := G.gd
  dig := G.dig
  fn := fun x h => h
  free := G.free
  defs := G.defs
  cons := G.cons
end Fz

/-! Q9: comprehensions: the list in the making; targets; what is walked. -/
namespace Fz
open PySem PySem.Spec PyProof.Rows L2
section
variable {K : PySem.W.Frag} {H H' : Hp} {A A' : Ad} {w : Wd} {σ : Sl}
/-- a list in the making -/
theorem Car.opens {p : Addr} (hp : H p = none) (o : HO) : Car A H { A with cn := p :: A.cn } (upd H p o) := by
  refine ⟨fun a u h x => ⟨upd_some hp h, x.1, x.2.1, fun z => ?_⟩, fun a vs h => upd_some hp h, fun a o u h => upd_some hp h, fun _ _ h => h, fun _ _ h => h, rfl⟩
  rcases List.mem_cons.mp z with rfl | z
  · rw [hp] at h
    cases h
  · exact x.2.2 z
theorem Sim.opens (S : Sim K H A w σ) {p : Addr} (hp : H p = none) (vs : List V) : Sim K (upd H p (.lst vs)) { A with cn := p :: A.cn } w σ := by
  have c : Car A H { A with cn := p :: A.cn } (upd H p (.lst vs)) := Car.opens hp _
  obtain ⟨⟨f1, f2, f4⟩, f3⟩ := S.fresh hp
  refine ⟨fun i d e => let ⟨v, e1, r⟩ := S.loc i d e; ⟨v, e1, r.step c d v⟩, S.len, RL.carry (fun xs vs h => h.step c) (fun a _ vs h => upd_some hp h) S.mu, RL.carry (fun xs vs h => h.step c) (fun a _ vs h => upd_some hp h) S.ga, S.nd, S.ndg, S.dj, S.djg, fun a h => ?_, fun a h => ?_, fun a h => ?_, S.gk⟩
  · obtain ⟨o, e⟩ := S.bt a h
    exact ⟨o, upd_some hp e⟩
  · rcases List.mem_cons.mp h with rfl | h
    · exact ⟨vs, upd_same⟩
    · obtain ⟨us, e⟩ := S.cnt a h
      exact ⟨us, upd_some hp e⟩
  · rcases List.mem_cons.mp h with rfl | h
    · exact ⟨f1, f2, f3⟩
    · exact S.cnd a h
theorem Sim.grow (S : Sim K H A w σ) {p : Addr} (hp : p ∈ A.cn) {us : List V} (e : H p = some (.lst us)) (vs : List V) : Sim K (upd H p (.lst vs)) A w σ := by
  have c : Car A H A (upd H p (.lst vs)) := Car.store (.inr (.inr hp)) e
  obtain ⟨c1, c2, c3⟩ := S.cnd p hp
  refine ⟨fun i d e => let ⟨v, e1, r⟩ := S.loc i d e; ⟨v, e1, r.step c d v⟩, S.len, RL.carry (fun xs vs h => h.step c) (fun a ha ws h => ?_) S.mu, RL.carry (fun xs vs h => h.step c) (fun a ha ws h => ?_) S.ga, S.nd, S.ndg, S.dj, S.djg, fun a h => ?_, fun a h => ?_, S.cnd, S.gk⟩
  · rw [upd_ne (show a ≠ p from fun z => c1 (z ▸ ha))]
    exact h
  · rw [upd_ne (show a ≠ p from fun z => c2 (z ▸ ha))]
    exact h
  · obtain ⟨o, q⟩ := S.bt a h
    exact ⟨o, by rw [upd_ne (show a ≠ p from fun z => c3 (z ▸ h))]; exact q⟩
  · by_cases z : a = p
    · subst z
      exact ⟨vs, upd_same⟩
    · obtain ⟨ws, q⟩ := S.cnt a h
      exact ⟨ws, by rw [upd_ne z]; exact q⟩
/-- the slots of an earlier state -/
theorem Sim.back {w0 : Wd} {H0 : Hp} {A0 : Ad} {σ0 : Sl} (S : Sim K H A w σ) (S0 : Sim K H0 A0 w0 σ0) (c : Car A0 H0 A H) : Sim K H A { w with σ := w0.σ } σ0 :=
  ⟨fun i d e => let ⟨v, e1, r⟩ := S0.loc i d e; ⟨v, e1, r.step c d v⟩, S0.len, S.mu, S.ga, S.nd, S.ndg, S.dj, S.djg, S.bt, S.cnt, S.cnd, S.gk⟩
/-- the list is made: it becomes a value -/
theorem Sim.closes {md : Nat} {xs : List D} {vs : List V} {d : D} {w' : Wd} {p : Addr} {cn : List Addr} (e : newL md xs w = .ok (d, w')) (S : Sim K H A w σ) (hc : A.cn = p :: cn) (hn : p ∉ cn) (hp : H p = some (.lst vs)) (r : RDs K H A xs vs) :
    ∃ A', Car A H A' H ∧ A'.cn = cn ∧ Sim K H A' w' σ ∧ RD K H A' d (.ref p) := by
  unfold newL at e
  by_cases hl : xs.length ≤ mxLen
  · rw [if_pos hl] at e
    have hpc : p ∈ A.cn := by rw [hc]; exact List.mem_cons_self
    have sub : ∀ {a}, a ∈ cn → a ∈ A.cn := fun h => by rw [hc]; exact List.mem_cons_of_mem _ h
    have out : ∀ {a}, A.out a → a ≠ p := fun h z => by subst z; exact h.2.2 hpc
    obtain ⟨c1, c2, c3⟩ := S.cnd p hpc
    match md, e with
    | 0, e =>
      cases e
      have c : Car A H { A with cn := cn } H := ⟨fun a u h x => ⟨h, x.1, x.2.1, fun z => x.2.2 (sub z)⟩, fun _ _ h => h, fun _ _ _ h => h, fun _ _ h => h, fun _ _ h => h, rfl⟩
      exact ⟨_, c, rfl, ⟨fun i d e => let ⟨v, e1, r⟩ := S.loc i d e; ⟨v, e1, r.step c d v⟩, S.len, RL.carry (fun xs vs h => h.step c) (fun a _ vs h => h) S.mu, RL.carry (fun xs vs h => h.step c) (fun a _ vs h => h) S.ga, S.nd, S.ndg, S.dj, S.djg, S.bt, fun a h => S.cnt a (sub h), fun a h => S.cnd a (sub h), S.gk⟩,
        p, vs, rfl, hp, ⟨c1, c2, hn⟩, c3, r.step c⟩
    | 1, e =>
      cases e
      have c : Car A H { A with mu := A.mu ++ [p], cn := cn } H := ⟨fun a u h x => ⟨h, not_snoc x.1 (out x), x.2.1, fun z => x.2.2 (sub z)⟩, fun _ _ h => h, fun _ _ _ h => h, fun k a h => get_snoc h, fun _ _ h => h, rfl⟩
      refine ⟨_, c, rfl, ⟨fun i d e => let ⟨v, e1, r⟩ := S.loc i d e; ⟨v, e1, r.step c d v⟩, S.len, ?_, RL.carry (fun xs vs h => h.step c) (fun a _ vs h => h) S.ga, nodup_snoc S.nd c1, S.ndg, fun a ha => ?_, S.djg, S.bt, fun a h => S.cnt a (sub h),
        fun a h => ⟨not_snoc (S.cnd a (sub h)).1 (fun z => hn (z ▸ h)), (S.cnd a (sub h)).2⟩, S.gk⟩, p, ?_, rfl⟩
      · exact RL.append (RL.carry (fun xs vs h => h.step c) (fun a _ vs h => h) S.mu) ⟨xs, [], rfl, Cell.mk hp (r.step c), rfl⟩
      · rcases List.mem_append.mp ha with z | z
        · exact S.dj a z
        · have e : a = p := by simpa using z
          subst e
          exact ⟨c2, c3⟩
      · show (A.mu ++ [p])[w.m.length]? = some p
        rw [S.mu.length]
        simp
    | n + 2, e =>
      have e : (if xs.all gOk then R.ok (D.g w.g.length, { w with g := w.g ++ [xs] }) else R.err) = .ok (d, w') := e
      split at e
      case isFalse => cases e
      rename_i hg
      cases e
      have c : Car A H { A with ga := A.ga ++ [p], cn := cn } H := ⟨fun a u h x => ⟨h, x.1, not_snoc x.2.1 (out x), fun z => x.2.2 (sub z)⟩, fun _ _ h => h, fun _ _ _ h => h, fun _ _ h => h, fun k a h => get_snoc h, rfl⟩
      refine ⟨_, c, rfl, ⟨fun i d e => let ⟨v, e1, r⟩ := S.loc i d e; ⟨v, e1, r.step c d v⟩, S.len, RL.carry (fun xs vs h => h.step c) (fun a _ vs h => h) S.mu, ?_, S.nd, nodup_snoc S.ndg c2, fun a ha => ⟨not_snoc (S.dj a ha).1 (fun z => c1 (z ▸ ha)), (S.dj a ha).2⟩, fun a ha => not_snoc (S.djg a ha) (fun z => c3 (z ▸ ha)), S.bt, fun a h => S.cnt a (sub h),
        fun a h => ⟨(S.cnd a (sub h)).1, not_snoc (S.cnd a (sub h)).2.1 (fun z => hn (z ▸ h)), (S.cnd a (sub h)).2.2⟩, fun ys hy => (List.mem_append.mp hy).elim (S.gk ys) fun z => (by simpa using z : ys = xs) ▸ hg⟩, p, ?_, rfl⟩
      · exact RL.append (RL.carry (fun xs vs h => h.step c) (fun a _ vs h => h) S.ga) ⟨xs, [], rfl, Cell.mk hp (r.step c), rfl⟩
      · show (A.ga ++ [p])[w.g.length]? = some p
        rw [S.ga.length]
        simp
  · rw [if_neg hl] at e
    cases e

/-! ### slots forgotten -/
theorem wipe_get (σ : Sl) : ∀ (vs : List Nat) (j : Nat), (wipe σ vs)[j]? = if j ∈ vs then (σ[j]?).map (fun _ => none) else σ[j]?
  | [], j => by simp [wipe]
  | v :: vs, j => by
    show ((wipe σ vs).set v none)[j]? = _
    rw [List.getElem?_set, wipe_get σ vs j, wipe_length]
    by_cases e : v = j
    · subst e
      simp only [if_true, List.mem_cons, true_or, if_true]
      by_cases h : v < σ.length
      · simp [h]
      · simp [h, List.getElem?_eq_none (Nat.le_of_not_lt h)]
    · rw [if_neg e]
      simp only [List.mem_cons, show ¬ j = v from fun z => e z.symm, false_or]
theorem wipeD_get (σ : List (Option D)) : ∀ (vs : List Nat) (j : Nat), (wipeD σ vs)[j]? = if j ∈ vs then (σ[j]?).map (fun _ => none) else σ[j]?
  | [], j => by simp [wipeD]
  | v :: vs, j => by
    have hl : ∀ vs : List Nat, (wipeD σ vs).length = σ.length := fun vs => by
      induction vs with
      | nil => rfl
      | cons v vs ih =>
        show ((wipeD σ vs).set v none).length = _
        rw [List.length_set, ih]
    show ((wipeD σ vs).set v none)[j]? = _
    rw [List.getElem?_set, wipeD_get σ vs j, hl]
    by_cases e : v = j
    · subst e
      simp only [if_true, List.mem_cons, true_or, if_true]
      by_cases h : v < σ.length
      · simp [h]
      · simp [h, List.getElem?_eq_none (Nat.le_of_not_lt h)]
    · rw [if_neg e]
      simp only [List.mem_cons, show ¬ j = v from fun z => e z.symm, false_or]
theorem wipeD_length (σ : List (Option D)) : ∀ vs : List Nat, (wipeD σ vs).length = σ.length
  | [] => rfl
  | v :: vs => by
    show ((wipeD σ vs).set v none).length = _
    rw [List.length_set, wipeD_length σ vs]
theorem wipe_set (σ : Sl) {vs : List Nat} {i : Nat} (h : i ∈ vs) (v : Option V) : wipe (σ.set i v) vs = wipe σ vs := by
  apply List.ext_getElem?
  intro j
  rw [wipe_get, wipe_get]
  by_cases e : j ∈ vs
  · rw [if_pos e, if_pos e, List.getElem?_set]
    by_cases z : i = j
    · subst z
      rw [if_pos rfl]
      by_cases q : i < σ.length
      · simp [q]
      · simp [q, List.getElem?_eq_none (Nat.le_of_not_lt q)]
    · rw [if_neg z]
  · rw [if_neg e, if_neg e, List.getElem?_set_ne (show i ≠ j from fun z => e (z ▸ h))]
theorem Sim.wiped (S : Sim K H A w σ) (vs : List Nat) : Sim K H A { w with σ := wipeD w.σ vs } (wipe σ vs) := by
  refine ⟨fun i d e => ?_, by rw [wipe_length]; exact (wipeD_length _ _).trans S.len, S.mu, S.ga, S.nd, S.ndg, S.dj, S.djg, S.bt, S.cnt, S.cnd, S.gk⟩
  have e : (wipeD w.σ vs)[i]? = some (some d) := e
  rw [wipeD_get] at e
  rw [wipe_get]
  by_cases h : i ∈ vs
  · rw [if_pos h] at e
    cases q : w.σ[i]? <;> rw [q] at e <;> cases e
  · rw [if_neg h] at e ⊢
    exact S.loc i d e
end

/-! ### targets -/
mutual
def slotsT : Tg → List Nat
  | .nm i => [i]
  | .tu ts => slotsTs ts
def slotsTs : List Tg → List Nat
  | [] => []
  | t :: ts => slotsT t ++ slotsTs ts
end
def gD (K : PySem.W.Frag) (t : Tg) : TG := fun v σ H Q => ∃ A w d w', Sim K H A w σ ∧ RD K H A d v ∧ asg t d w = some w' ∧
  ∀ σ', Sim K H A w' σ' → w'.m = w.m → w'.g = w.g → (∀ own : List Nat, (∀ i ∈ slotsT t, i ∈ own) → wipe σ' own = wipe σ own) → Q σ' H
def gDs (K : PySem.W.Frag) (ts : List Tg) : TGs := fun vs σ H Q => ∃ A w ds w', Sim K H A w σ ∧ RDs K H A ds vs ∧ asgL ts ds w = some w' ∧
  ∀ σ', Sim K H A w' σ' → w'.m = w.m → w'.g = w.g → (∀ own : List Nat, (∀ i ∈ slotsTs ts, i ∈ own) → wipe σ' own = wipe σ own) → Q σ' H
/-- (a, b, ..) = a tuple or a list of that length -/
def gTup2 (K : PySem.W.Frag) (n : Nat) (t : TGs) : TG := fun v σ H Q => ∃ a xs, v = .ref a ∧ (SqT K H a xs ∨ SqL K H a xs) ∧ xs.length = n ∧ t xs σ H Q
theorem pg_tup2 {X : Cx} {pos : Pos} {es : List Expr} {k : Nat} {t : TGs} {n : Nat} (hc : X.calm = true) (h : PGs X es t)
    (hn : (assignEach es X.env).length = n) (hst : (assignEach es X.env).findIdx? (·.1) = none) : PG X (.Tuple es k pos) (gTup2 X.K n t) := by
  refine ⟨fun pins s σ H v u Q I r hw => ?_⟩
  obtain ⟨a, xs, e1, hq, hl, hw⟩ := hw
  subst e1
  cases r
  rcases hq with hq | hq
  · obtain ⟨its, rv, ht, hz⟩ := I.tuple hq
    refine assign_Tuple_tuple (I.ok.hd hc) ht (by simp [hn, ← hl, rv.length]) hst fun h' hx => ?_
    have I1 : Inv X pins σ H { s with heap := h' } := I.kept (t' := s.toks) fun b o e => hx b o (Nat.ne_of_lt (Heap.lt_size e)) e
    exact h.run pins _ σ H xs _ Q I1 (by simpa using rv) hw
  · obtain ⟨its, rv, ht, hz⟩ := I.list hq
    have en : (assignEach es X.env).length = its.toArray.size := by simp [hn, ← hl, rv.length]
    rw [assign_Tuple]
    refine wpAny_bind (wpAny_standAt ?_)
    unfold unpack
    rw [en, hst]
    refine wpAny_bind (wpAny_holding (PySem.W.kun_itemsOf (I.ok.hd hc) ht.isList fun h' hx => ?_))
    have I1 : Inv X pins σ H { s with heap := h' } := I.kept (t' := s.toks) fun b o e => hx b o (Nat.ne_of_lt (Heap.lt_size e)) e
    exact h.run pins _ σ H xs _ Q I1 (by simpa using rv) hw
theorem PGimp {X : Cx} {e : Expr} {t t' : TG} (h : PG X e t) (i : ∀ v σ H Q, t' v σ H Q → t v σ H Q) : PG X e t' := ⟨fun pins s σ H v u Q I r q => h.run pins s σ H v u Q I r (i v σ H Q q)⟩
theorem PGsimp {X : Cx} {e : List Expr} {t t' : TGs} (h : PGs X e t) (i : ∀ v σ H Q, t' v σ H Q → t v σ H Q) : PGs X e t' := ⟨fun pins s σ H v u Q I r q => h.run pins s σ H v u Q I r (i v σ H Q q)⟩
theorem Sim.set {K : PySem.W.Frag} {H : Hp} {A : Ad} {w : Wd} {σ : Sl} (S : Sim K H A w σ) (i : Nat) {d : D} {v : V} (r : RD K H A d v) : Sim K H A { w with σ := w.σ.set i (some d) } (σ.set i (some v)) := by
  refine ⟨fun j e q => ?_, by
    show (w.σ.set i (some d)).length = (σ.set i (some v)).length
    rw [List.length_set, List.length_set]
    exact S.len, S.mu, S.ga, S.nd, S.ndg, S.dj, S.djg, S.bt, S.cnt, S.cnd, S.gk⟩
  have q : (w.σ.set i (some d))[j]? = some (some e) := q
  rw [List.getElem?_set] at q ⊢
  by_cases z : i = j
  · subst z
    rw [if_pos rfl] at q ⊢
    rw [← S.len]
    by_cases l : i < w.σ.length
    · rw [if_pos l] at q ⊢
      cases q
      exact ⟨v, rfl, r⟩
    · rw [if_neg l] at q
      cases q
  · rw [if_neg z] at q ⊢
    exact S.loc j e q
def noStar : Expr → Bool
  | .Starred _ _ => false
  | _ => true
theorem assignEach_cons {e : Expr} {es : List Expr} {env : Env} (h : noStar e = true) : assignEach (e :: es) env = (false, assign e env) :: assignEach es env := by
  cases e <;> first | rfl | cases h
/-- a name that may be stored -/
def wrB (sc : Scope) (top : Option Scope) (x : Str) : Bool := match sc.names.lookup x with
  | some .local => true
  | some .cell => wrT top x
  | _ => false
mutual
def ckT (N : List Str) (sc : Scope) (top : Option Scope) : Tg → Expr → Bool
  | .nm i, .Name x _ => decide (N[i]? = some x) && wrB sc top x
  | .tu ts, .Tuple es _ _ => ckTs N sc top ts es
  | _, _ => false
def ckTs (N : List Str) (sc : Scope) (top : Option Scope) : List Tg → List Expr → Bool
  | [], [] => true
  | t :: ts, e :: es => noStar e && ckT N sc top t e && ckTs N sc top ts es
  | _, _ => false
end
section
variable {T : Tb} {P : Pg} {lv : Nat} {N : List Str} {sc : Scope} {top : Option Scope} {X : Cx}
theorem assignEach_plain : ∀ {ts : List Tg} {es : List Expr} {env : Env}, ckTs N sc top ts es = true → (assignEach es env).length = ts.length ∧ (assignEach es env).findIdx? (·.1) = none
  | [], [], _, _ => ⟨rfl, rfl⟩
  | [], _ :: _, _, h => nomatch h
  | _ :: _, [], _, h => nomatch h
  | t :: ts, e :: es, env, h => by
    simp only [ckTs, Bool.and_eq_true] at h
    obtain ⟨h1, h2⟩ := assignEach_plain (env := env) h.2
    rw [assignEach_cons h.1.1]
    refine ⟨by simp [h1], ?_⟩
    simp [List.findIdx?_cons, h2]
mutual
theorem sndT (G : GX T P lv N sc top X) : ∀ (t : Tg) (e : Expr), ckT N sc top t e = true → PG X e (gD X.K t)
  | .nm i, e, h => by
    cases e with
    | Name x pos =>
      simp only [ckT, Bool.and_eq_true, decide_eq_true_eq] at h
      obtain ⟨h1, h2⟩ := h
      have hx : Loc X.env.scope x ∧ (X.fn x = true ∨ X.env.scope.names.lookup x = some .local) := by
        unfold wrB at h2
        rw [G.sco]
        cases q : sc.names.lookup x with
        | none => rw [q] at h2; cases h2
        | some k =>
          rw [q] at h2
          cases k with
          | «local» => exact ⟨.inl q, .inr rfl⟩
          | cell => exact ⟨.inr q, .inl (G.fn x h2)⟩
          | _ => cases h2
      refine PGimp (pg_name (i := i) (by rw [G.hN]; exact G.nd) (by rw [G.hN]; exact h1) hx.1 hx.2) fun v σ H Q q => ?_
      obtain ⟨A, w, d, w', S, r, ha, q⟩ := q
      cases ha
      refine q _ (S.set i r) rfl rfl fun own ho => ?_
      exact wipe_set σ (ho i (by simp [slotsT])) _
    | _ => cases h
  | .tu ts, e, h => by
    cases e with
    | Tuple es k pos =>
      simp only [ckT] at h
      obtain ⟨h1, h2⟩ := assignEach_plain (env := X.env) h
      have hl : ∀ {ts : List Tg} {ds : List D} {w w' : Wd}, asgL ts ds w = some w' → ds.length = ts.length := fun {ts} => by
        induction ts with
        | nil =>
          intro ds w w' e
          cases ds with
          | nil => rfl
          | cons _ _ => cases e
        | cons t ts ih =>
          intro ds w w' e
          cases ds with
          | nil => cases e
          | cons d ds =>
            obtain ⟨w1, _, e2⟩ := Option.bind_eq_some_iff.mp (show (asg t d w).bind (fun w' => asgL ts ds w') = some w' from e)
            rw [List.length_cons, List.length_cons, ih e2]
      refine PGimp (pg_tup2 (n := ts.length) G.calm (sndTs G ts es h) h1 h2) fun v σ H Q q => ?_
      obtain ⟨A, w, d, w', S, r, ha, q⟩ := q
      cases d with
      | tup ds =>
        obtain ⟨a, vs, rfl, ht, rs⟩ := r
        have ha : asgL ts ds w = some w' := ha
        refine ⟨a, vs, rfl, .inl ht, by rw [rs.length]; exact hl ha, A, w, ds, w', S, rs, ha, fun σ' S' m g ho => q σ' S' m g fun own h => ho own h⟩
      | lst ds =>
        obtain ⟨a, vs, rfl, ht, _, _, rs⟩ := r
        have ha : asgL ts ds w = some w' := ha
        refine ⟨a, vs, rfl, .inr (.inl (.inl ht)), by rw [rs.length]; exact hl ha, A, w, ds, w', S, rs, ha, fun σ' S' m g ho => q σ' S' m g fun own h => ho own h⟩
      | _ => cases ha
    | _ => cases h
theorem sndTs (G : GX T P lv N sc top X) : ∀ (ts : List Tg) (es : List Expr), ckTs N sc top ts es = true → PGs X es (gDs X.K ts)
  | [], es, h => by
    cases es with
    | nil =>
      refine PGsimp pgs_nil fun vs σ H Q q => ?_
      obtain ⟨A, w, ds, w', S, rs, ha, q⟩ := q
      cases ds with
      | nil =>
        cases ha
        exact ⟨rs, q σ S rfl rfl fun _ _ => rfl⟩
      | cons _ _ => cases ha
    | cons _ _ => cases h
  | t :: ts, es, h => by
    cases es with
    | nil => cases h
    | cons e es =>
      simp only [ckTs, Bool.and_eq_true] at h
      refine PGsimp (pgs_cons (sndT G t e h.1.2) (sndTs G ts es h.2) (by rw [assignEach_cons h.1.1]; rfl)) fun vs σ H Q q => ?_
      obtain ⟨A, w, ds, w', S, rs, ha, q⟩ := q
      cases ds with
      | nil => cases ha
      | cons d ds =>
        obtain ⟨v, r, rfl, r1, r2⟩ := rs
        obtain ⟨w1, e1, e2⟩ := Option.bind_eq_some_iff.mp (show (asg t d w).bind (fun w' => asgL ts ds w') = some w' from ha)
        refine ⟨v, r, rfl, A, w, d, w1, S, r1, e1, fun σ1 S1 m1 g1 o1 => ?_⟩
        refine ⟨A, w1, ds, w', S1, r2, e2, fun σ2 S2 m2 g2 o2 => q σ2 S2 (m2.trans m1) (g2.trans g1) fun own ho => ?_⟩
        have ho' : ∀ i, i ∈ slotsT t ++ slotsTs ts → i ∈ own := fun i hi => ho i (by simpa [slotsTs] using hi)
        exact (o2 own fun i hi => ho' i (List.mem_append_right _ hi)).trans (o1 own fun i hi => ho' i (List.mem_append_left _ hi))
end
end

/-! ### what is walked -/
structure WalkD (K : PySem.W.Frag) (J : L2.It) (it : Itd) (A0 : Ad) (H0 : Hp) : Prop where
  go : ∀ A H w σ i, Car A0 H0 A H → Sim K H A w σ → it.ok w = true → i < it.xs.length → J.go i H ∧ ∀ v H', J.yld i H v H' → Step A H A H' ∧ Sim K H' A w σ ∧ ∀ d, it.xs[i]? = some d → RD K H' A d v
  stop : ∀ A H w σ, Car A0 H0 A H → Sim K H A w σ → it.ok w = true → J.stop it.xs.length H
def rdI (K : PySem.W.Frag) (f : Wd → R (Itd × Wd)) : TI := fun σ H Rr => ∃ A w, Sim K H A w σ ∧ ∃ it w', f w = .ok (it, w') ∧ ∀ A' H' J, Step A H A' H' → Sim K H' A' w' σ → it.ok w' = true → WalkD K J it A' H' → Rr J H'
theorem PIimp {X : Cx} {tg e : Expr} {t t' : TI} (h : PI X tg e t) (i : ∀ σ H Q, t' σ H Q → t σ H Q) : PI X tg e t' := ⟨fun pins s σ H Q I q => h.run pins s σ H Q I (i σ H Q q)⟩
/-- a list or a tuple, whichever comes -/
def iSeq (K : PySem.W.Frag) (tl : TE) : TI := fun σ H Rr => tl σ H fun x H1 => ∃ a, x = .ref a ∧ ((∃ xs, SqL K H1 a xs ∧ Rr (Itl K a) H1) ∨ ∃ xs, SqT K H1 a xs ∧ Rr (Itt K a) H1)
theorem pi_seq {X : Cx} {tg l : Expr} {tl : TE} (hl : PE X l tl) : PI X tg l (iSeq X.K tl) := by
  refine ⟨fun pins s σ H Rr I h => ?_⟩
  refine thn (hl.run pins s σ H _ I h) fun v s1 ⟨x, H1, I1, r1, a, e, q⟩ => ?_
  subst e
  cases r1
  have fp : ∀ b ∈ [s1.heap.objs.size], FpOk X pins H1 b := fun b hb => by
    obtain rfl : b = s1.heap.objs.size := by simpa using hb
    exact I1.fpOk (Nat.le_refl _) (I1.hok.fresh (Nat.le_refl _))
  rcases q with ⟨xs, hq, q⟩ | ⟨xs, hq, q⟩
  · obtain ⟨its, rv, p, hz⟩ := I1.list hq
    refine wpAny_pyIter_list p.isList ⟨_, [s1.heap.objs.size], _, _, H1, rfl, ?_, turn_list a _, ⟨_, Heap.get?_push_size _ rfl, rfl, rfl⟩, fp, q⟩
    exact I1.kept (t' := s1.toks) fun b o e => Heap.get?_push_of_some _ e
  · obtain ⟨its, rv, p, hz⟩ := I1.tuple hq
    refine wpAny_pyIter_tuple (show s1.heap.IsTuple a its.toArray from p) ⟨_, [s1.heap.objs.size], _, _, H1, rfl, ?_, turn_tuple a _, ⟨_, Heap.get?_push_size _ rfl, rfl, rfl⟩, fp, q⟩
    exact I1.kept (t' := s1.toks) fun b o e => Heap.get?_push_of_some _ e
theorem src_seq {w : Wd} {d : D} {xs : List D} {w0 : Wd} (e : w0.seq d = some xs) (h : (srcOf d).ok xs w = true) : w.seq d = some xs := by
  cases d with
  | ref k =>
    have h : (w.m[k]?).any (fun ys => deqL ys xs) = true := h
    obtain ⟨_, n⟩ := seq_ref_some e
    show (w.m[k]?).bind lsq = some xs
    cases q : w.m[k]? with
    | none => rw [q] at h; cases h
    | some ys =>
      rw [q] at h
      rw [deqL_eq ys xs h]
      show lsq xs = some xs
      unfold lsq
      rw [n]
      rfl
  | g k =>
    have h : (w.g[k]?).any (fun ys => deqL ys xs) = true := h
    show w.g[k]? = some xs
    cases q : w.g[k]? with
    | none => rw [q] at h; cases h
    | some ys => rw [q] at h; rw [deqL_eq ys xs h]
  | _ => exact e
theorem src_ok {w : Wd} {d : D} {xs : List D} (e : w.seq d = some xs) : (srcOf d).ok xs w = true := by
  cases d with
  | ref k =>
    have e : w.m[k]? = some xs := (seq_ref_some e).1
    show (w.m[k]?).any (fun ys => deqL ys xs) = true
    rw [e]
    exact deqL_refl xs
  | g k =>
    have e : w.g[k]? = some xs := e
    show (w.g[k]?).any (fun ys => deqL ys xs) = true
    rw [e]
    exact deqL_refl xs
  | _ => rfl
theorem walk_l {K : PySem.W.Frag} {A0 : Ad} {H0 : Hp} {w0 : Wd} {d : D} {a : Addr} {xs : List D} (e : w0.seq d = some xs) (r : RD K H0 A0 d (.ref a)) (t : isT d = false) : WalkD K (Itl K a) ⟨xs, (srcOf d).ok xs⟩ A0 H0 := by
  have get : ∀ {A H w σ}, Car A0 H0 A H → Sim K H A w σ → (srcOf d).ok xs w = true → ∃ vs, SqL K H a vs ∧ RDs K H A xs vs := fun {A H w σ} c S ok => by
    obtain ⟨b, vs, eb, rs, h⟩ := S.seq (r.step c d _) (src_seq e ok)
    cases eb
    rcases h with ⟨h, _⟩ | ⟨_, h⟩
    · rw [t] at h; cases h
    · exact ⟨vs, h, rs⟩
  refine ⟨fun A H w σ i c S ok hi => ?_, fun A H w σ c S ok => ?_⟩
  · obtain ⟨vs, h, rs⟩ := get c S ok
    obtain ⟨v, hv, rv⟩ := rs.get (List.getElem?_eq_getElem hi)
    refine ⟨⟨vs, v, h, hv⟩, fun x H' y => ?_⟩
    obtain ⟨rfl, y⟩ := y
    have ev := (y vs h).symm.trans hv
    cases ev
    exact ⟨Step.refl A _, S, fun d' e' => by rw [List.getElem?_eq_getElem hi] at e'; cases e'; exact rv⟩
  · obtain ⟨vs, h, rs⟩ := get c S ok
    exact ⟨vs, h, Nat.le_of_eq rs.length⟩
theorem walk_t {K : PySem.W.Frag} {A0 : Ad} {H0 : Hp} {w0 : Wd} {d : D} {a : Addr} {xs : List D} (e : w0.seq d = some xs) (r : RD K H0 A0 d (.ref a)) (t : isT d = true) : WalkD K (Itt K a) ⟨xs, (srcOf d).ok xs⟩ A0 H0 := by
  have get : ∀ {A H w σ}, Car A0 H0 A H → Sim K H A w σ → (srcOf d).ok xs w = true → ∃ vs, SqT K H a vs ∧ RDs K H A xs vs := fun {A H w σ} c S ok => by
    obtain ⟨b, vs, eb, rs, h⟩ := S.seq (r.step c d _) (src_seq e ok)
    cases eb
    rcases h with ⟨_, h⟩ | ⟨h, _⟩
    · exact ⟨vs, h, rs⟩
    · rw [t] at h; cases h
  refine ⟨fun A H w σ i c S ok hi => ?_, fun A H w σ c S ok => ?_⟩
  · obtain ⟨vs, h, rs⟩ := get c S ok
    obtain ⟨v, hv, rv⟩ := rs.get (List.getElem?_eq_getElem hi)
    refine ⟨⟨vs, v, h, hv⟩, fun x H' y => ?_⟩
    obtain ⟨rfl, y⟩ := y
    have ev := (y vs h).symm.trans hv
    cases ev
    exact ⟨Step.refl A _, S, fun d' e' => by rw [List.getElem?_eq_getElem hi] at e'; cases e'; exact rv⟩
  · obtain ⟨vs, h, rs⟩ := get c S ok
    exact ⟨vs, h, Nat.le_of_eq rs.length⟩
theorem rngL_get : ∀ (n : Nat) (lo : Int) (i : Nat), i < n → (rngL lo n)[i]? = some (.int (lo + i))
  | 0, _, _, h => absurd h (Nat.not_lt_zero _)
  | n + 1, lo, 0, _ => by simp [rngL]
  | n + 1, lo, i + 1, h => by
    show (rngL (lo + 1) n)[i]? = _
    rw [rngL_get n (lo + 1) i (by omega)]
    congr 2
    omega
theorem rngL_length : ∀ (n : Nat) (lo : Int), (rngL lo n).length = n
  | 0, _ => rfl
  | n + 1, lo => by
    show (rngL (lo + 1) n).length + 1 = _
    rw [rngL_length n]
theorem stepL_get : ∀ (n : Nat) (lo c : Int) (i : Nat), i < n → (stepL lo c n)[i]? = some (.int (lo + (i : Nat) * c))
  | 0, _, _, _, h => absurd h (Nat.not_lt_zero _)
  | n + 1, lo, c, 0, _ => by simp [stepL]
  | n + 1, lo, c, i + 1, h => by
    show (stepL (lo + c) c n)[i]? = _
    rw [stepL_get n (lo + c) c i (by omega)]
    congr 2
    rw [Int.natCast_succ, Int.add_mul, Int.one_mul]
    omega
theorem stepL_length : ∀ (n : Nat) (lo c : Int), (stepL lo c n).length = n
  | 0, _, _ => rfl
  | n + 1, lo, c => by
    show (stepL (lo + c) c n).length + 1 = _
    rw [stepL_length n]
theorem walk_c {K : PySem.W.Frag} {A0 : Ad} {H0 : Hp} {lo c : Int} {n : Nat} : WalkD K (Itc lo c n) ⟨stepL lo c n, fun _ => true⟩ A0 H0 := by
  refine ⟨fun A H w σ i _ S ok hi => ?_, fun A H w σ _ S ok => Nat.le_of_eq (stepL_length n lo c).symm⟩
  have hi : i < n := by rw [← stepL_length n lo c]; exact hi
  refine ⟨hi, fun x H' y => ?_⟩
  obtain ⟨rfl, rfl⟩ := y
  refine ⟨Step.refl A _, S, fun d' e' => ?_⟩
  rw [show (⟨stepL lo c n, fun _ => true⟩ : Itd).xs = stepL lo c n from rfl, stepL_get n lo c i hi] at e'
  cases e'
  exact rfl
theorem walk_r {K : PySem.W.Frag} {A0 : Ad} {H0 : Hp} {lo : Int} {n : Nat} : WalkD K (Itr lo n) ⟨rngL lo n, fun _ => true⟩ A0 H0 := by
  refine ⟨fun A H w σ i c S ok hi => ?_, fun A H w σ c S ok => Nat.le_of_eq (rngL_length n lo).symm⟩
  have hi : i < n := by rw [← rngL_length n lo]; exact hi
  refine ⟨hi, fun x H' y => ?_⟩
  obtain ⟨rfl, rfl⟩ := y
  refine ⟨Step.refl A _, S, fun d' e' => ?_⟩
  rw [show (⟨rngL lo n, fun _ => true⟩ : Itd).xs = rngL lo n from rfl, rngL_get n lo i hi] at e'
  cases e'
  exact rfl
end Fz

/-! Q9e: enumerate of lists and tuples, zip of two lists, of two tuples. -/
namespace Fz
open PySem PySem.Spec PyProof.Rows L2

theorem meets_enum1 {v : Value} {o : Obj} {H : Heap → Prop} (B : Begins v o H) :
    Meets (Builtin.«enumerate.__new__» ⟨[.type "enumerate", v], []⟩) (fun _ R s => H s.heap ∧
      R (.ok (.ret (.ref (s.heap.push o).objs.size))) { s with heap := (s.heap.push o).push { cls := .type "enumerate", data := .fields #[.none, .bool false, .ref s.heap.objs.size, rawInt 0, .none, .none] } }) :=
  .of_wp fun prog w A R s h => by
    obtain ⟨hp, g, d, tk, os⟩ := s
    obtain ⟨h1, h⟩ := h
    have hsub := sub_enumerate
    have q1 : ∀ {A' : Around} {E : Value → Shared → Prop} {Q : Value → Shared → Prop}, Q (.ref hp.objs.size) ⟨hp.push o, g, d, tk, os⟩ → wpAny (model prog w) A' (pyIter v) Q E ⟨hp, g, d, tk, os⟩ := fun q => B.iter prog w _ _ ⟨hp, g, d, tk, os⟩ _ h1 q
    wp_walk using q1
    refine wpAny_stack_any fun st => wpAny_pure ?_
    split
    · rename_i c _ _ _ _ _
      cases (c == Value.type "enumerate")
      · wp_walk using q1
        exact ⟨_, rfl, h⟩
      · wp_walk using q1
        exact ⟨_, rfl, h⟩
    · wp_walk using q1
      exact ⟨_, rfl, h⟩
theorem call_enum1 {prog : Program} {w : World} {A : Around} {E : Value → Shared → Prop} {s : Shared} {v : Value} {o : Obj} {H : Heap → Prop} {Q : Value → Shared → Prop} (B : Begins v o H) (h1 : H s.heap)
    (h : ∀ h', IsEnum h' (s.heap.objs.size + 1) s.heap.objs.size 0 .none → h'.get? s.heap.objs.size = some o → h'.objs.size = s.heap.objs.size + 2 → (∀ b o, s.heap.get? b = some o → h'.get? b = some o) → Q (.ref (s.heap.objs.size + 1)) { s with heap := h' }) :
    wpAny (model prog w) A (call (.type "enumerate") [v]) Q E s := by
  refine callType_new F.called_enumerate (by decide) (F.typeCall_enumerate_1 _) (F.newCall_enumerate_1 _) (fun obj => F.args_object_init_2 obj _) F.entry_enumerate_new (meets_enum1 B) ⟨h1, ?_⟩
  have hz : (s.heap.push o).objs.size = s.heap.objs.size + 1 := Heap.size_push ..
  show _ ∧ _
  rw [hz]
  have he : IsEnum ((s.heap.push o).push { cls := .type "enumerate", data := .fields #[.none, .bool false, .ref s.heap.objs.size, rawInt 0, .none, .none] }) (s.heap.objs.size + 1) s.heap.objs.size 0 .none := by
    have := Heap.get?_push_size (s.heap.push o) (o := { cls := .type "enumerate", data := .fields #[.none, .bool false, .ref s.heap.objs.size, rawInt 0, .none, .none] }) rfl
    rw [hz] at this
    exact this
  exact ⟨⟨_, he, rfl⟩, h _ he (Heap.get?_push_of_some _ (Heap.get?_push_size _ B.free)) (by rw [Heap.size_push, hz]) fun b o x => Heap.get?_push_of_some _ (Heap.get?_push_of_some _ x)⟩
theorem enumT_end {prog : Program} {w : World} {A : Around} {E : Value → Shared → Prop} {s : Shared} {e it l : Addr} {i : Nat} {items : Array Value} {old : Value} {Q : Option Value → Shared → Prop} (hh : A.handled = none)
    (he : IsEnum s.heap e it i old) (hit : s.heap.IsTupleIter it l i) (hl : s.heap.IsTuple l items) (hx : items[i]? = none)
    (hQ : ∀ h', Heap.ExtBut it s.heap h' → Q none { s with heap := h' }) : wpAny (model prog w) A (pyNext (.ref e)) Q E s := by
  have hT : s.TypeIs (.ref e) "enumerate" := ⟨_, he, rfl⟩
  unfold pyNext
  refine wpAny_bind (wpAny_attempt (wpAny_callSpecial?_slot (name := Str.ofString "__next__") hT F.slot_enumerate_next (wpAny_call_entry F.slot_enumerate_next hT F.entry_enumerate_next ?_ (F.args_enumerate_next_1 _))))
  show wpAny _ _ (field (.ref e) 2 >>= _) _ _ _
  refine wpAny_bind (wpAny_field he rfl (x := .ref it) rfl ?_)
  refine wpAny_bind (wpAny_nextOf_tuple_end hh hit hl hx fun h' x he' hx' => ?_)
  obtain ⟨o, ho, hc⟩ := hx'
  refine wpAny_bind (wpAny_isInstance (T := "StopIteration") (b := true) ⟨o, ho, hc⟩ isSubtype_stop ?_)
  exact wpAny_pure (hQ _ he')
/-- the tuple at a, each item in a new pair -/
def IteT (K : PySem.W.Frag) (a : Addr) : L2.It :=
  ⟨fun i H => ∃ (xs : List V) (x : V), SqT K H a xs ∧ xs[i]? = some x, fun i H v H' => ∃ T x, v = .ref T ∧ H T = none ∧ H' = upd H T (.tup [.int (i : Nat), x]) ∧ ∀ xs, SqT K H a xs → xs[i]? = some x, fun i H => ∃ xs : List V, SqT K H a xs ∧ xs.length ≤ i⟩
theorem turn_enumT {P : Program} {w : World} {K : PySem.W.Frag} {elts : List Expr} {kk : Nat} {tpos : Pos} (a e it : Addr) :
    Turn P w K (.Tuple elts kk tpos) (IteT K a) [e, it] e (fun i h => (∃ old, IsEnum h e it ((i : Nat) : Int) old) ∧ h.IsTupleIter it a i ∧ e ≠ it) where
  mem := by simp
  obj := fun i h st b hb => by
    obtain ⟨⟨old, he⟩, ⟨o, ho, hc, hd⟩, _⟩ := st
    have e' : b = e ∨ b = it := by simpa using hb
    rcases e' with z | z
    · rw [z]; exact ⟨_, he, fun v q => nomatch q⟩
    · rw [z]; exact ⟨o, ho, fun v q => by rw [hd] at q; cases q⟩
  keep := fun i h h' st k => let ⟨⟨old, he⟩, hi, hne⟩ := st; ⟨⟨old, k e (by simp) _ he⟩, hi.at fun o q => k it (by simp) o q, hne⟩
  item := by
    intro X hP hw hK hc i pins s σ H E I hf st hg
    subst hP hw hK
    obtain ⟨⟨old, he⟩, hit, hne⟩ := st
    obtain ⟨xs, x, hq, hx⟩ := hg
    obtain ⟨its, rv, p, hz⟩ := I.tuple hq
    have p : s.heap.IsTuple a its.toArray := p
    obtain ⟨u, hu, ru⟩ := rv.get hx
    have hel : e < s.heap.objs.size := Heap.lt_size he
    have hil : it < s.heap.objs.size := by obtain ⟨_, q, _⟩ := hit; exact Heap.lt_size q
    have hai : a ≠ it := by
      rintro rfl
      obtain ⟨o1, e1, c1, _⟩ := p
      obtain ⟨o2, e2, c2, _⟩ := hit
      rw [e1] at e2; cases e2
      rw [c1] at c2; exact absurd c2 (by decide)
    have hea : e ≠ a := by
      rintro rfl
      obtain ⟨o1, e1, c1, _⟩ := p
      have he2 : s.heap.get? e = some _ := he
      rw [he2] at e1; cases e1
      exact absurd (show Value.type "enumerate" = Value.type "tuple" from c1) (by decide)
    have hlt : i < its.length := by
      have l := rv.length
      have := (List.getElem?_eq_some_iff.mp hx).1
      omega
    refine wpAny_pyNext_enum_itemC (Draws.tuple (A := X.A.in1) (prog := X.prog) (w := X.w) (I.ok.hd hc) it a hai its.toArray) he ⟨hit, p⟩ (by simpa using hlt) hne (by simp [hne, hea]) fun x' h' tk hx' ho hst' hT hsz hk => ?_
    have hx' : its.toArray[i]? = some x' := hx'
    have ex : x' = u := by
      have : its[i]? = some x' := by simpa using hx'
      rw [hu] at this
      cases this
      rfl
    subst ex
    refine ⟨_, rfl, wpAny_letOwnedTupleGo_enum (s := { s with heap := h', toks := tk + 1 }) ho fun h'' he' sb => ?_⟩
    have hT2 : h''.get? s.heap.objs.size = some { cls := .type "tuple", data := .seq #[.int i tk, x'] } := (sb.2 _ (Nat.ne_of_gt hel)).trans hT
    have new : ObjOk X.prog X.w (upd H s.heap.objs.size (.tup [.int (i : Nat), x])) h'' s.heap.objs.size (.tup [.int (i : Nat), x]) :=
      ⟨by show 2 ≤ sizeLine; decide, [.int i tk, x'], .cons ⟨_, rfl⟩ (.cons ru .nil), ⟨_, hT2, rfl, _, rfl⟩⟩
    have I1 : Inv X pins σ (upd H s.heap.objs.size (.tup [.int (i : Nat), x])) { s with heap := h'', toks := tk + 1 } :=
      I.turnedNew (ch := [e, it]) (fun b ob hb q => (sb.2 b (fun z => hb (by simp [z]))).trans (hk b ob (fun z => hb (by simp [z])) (fun z => hb (by simp [z])) q)) hf (Nat.le_refl _) new
    refine ⟨.ref s.heap.objs.size, _, I1, rfl, ⟨_, x, rfl, I.hok.fresh (Nat.le_refl _), rfl, fun ys hy => by rw [I.tuple_inj hy hq]; exact hx⟩, ⟨⟨x', ?_⟩, hst'.1.at fun o q => (sb.2 it (Ne.symm hne)).trans q, hne⟩, fun b hb => ?_⟩
    · have e1 : ((i + 1 : Nat) : Int) = (i : Int) + 1 := by omega
      rw [e1]
      exact he'
    · have hb' : b < s.heap.objs.size := by
        have e' : b = e ∨ b = it := by simpa using hb
        rcases e' with z | z
        · rw [z]; exact hel
        · rw [z]; exact hil
      rw [upd_ne (Nat.ne_of_lt hb')]
      exact (hf b hb).1
  done := by
    intro X hP hw hK hc i pins s σ H E I hf st hg
    subst hP hw hK
    obtain ⟨⟨old, he⟩, hit, hne⟩ := st
    obtain ⟨xs, hq, hx⟩ := hg
    obtain ⟨its, rv, p, hz⟩ := I.tuple hq
    have p : s.heap.IsTuple a its.toArray := p
    obtain ⟨f0, f1, f2, f3, f4, f5⟩ := hf it (by simp)
    have hl := rv.length
    exact enumT_end (I.ok.hd hc) he hit p (by simp; omega) fun h' eb => ⟨rfl, I.turned (t' := s.toks) (fun b o hb q => eb b o hb q) f0 f1 f3 f4 f5⟩
  self := fun A i s Q E st h => let ⟨⟨_, he⟩, _⟩ := st; wpAny_pyIter_enum he h
def iEnu (K : PySem.W.Frag) (ta : TA) : TI := fun σ H Rr => ta σ H fun vs H1 => ∃ a, vs = [.ref a] ∧ ((∃ xs, SqL K H1 a xs ∧ Rr (Ite K a) H1) ∨ ∃ xs, SqT K H1 a xs ∧ Rr (IteT K a) H1)
theorem pi_enu {X : Cx} {e : Expr} {ta : TA} {p pos tpos : Pos} {elts : List Expr} {kk : Nat} (hg : Gl X "enumerate") (hm : X.mg "enumerate" = none) (ha : PA X [e] ta) (hs : starEach [e] X.env = [(false, eval e X.env)]) :
    PI X (.Tuple elts kk tpos) (.Call (.Name "enumerate" p) [e] [] pos) (iEnu X.K ta) := by
  refine ⟨fun pins s σ H R I h => ?_⟩
  refine Call_ (ld_blt I hg hm boot_enumerate (PyProof.Rows.callWith_type1 (thn (ha.run pos pins s σ H _ I h) fun us s1 ⟨vs, H1, I1, r1, q1⟩ => ?_) hs rfl))
  obtain ⟨a, ex, q⟩ := q1
  subst ex
  cases r1 with
  | cons r rr =>
    cases rr
    cases r
    have fp : ∀ b ∈ [s1.heap.objs.size + 1, s1.heap.objs.size], FpOk X pins H1 b := fun b hb => by
      have e' : b = s1.heap.objs.size + 1 ∨ b = s1.heap.objs.size := by simpa using hb
      have hle : s1.heap.objs.size ≤ b := by
        rcases e' with z | z
        · rw [z]; exact Nat.le_add_right _ _
        · rw [z]; exact Nat.le_refl _
      exact I1.fpOk hle (I1.hok.fresh hle)
    rcases q with ⟨xs, hq, q⟩ | ⟨xs, hq, q⟩
    · obtain ⟨its, rv, p', hz⟩ := I1.list hq
      refine call_enumerate_list p'.isList fun h' he hit hsz hk => wpAny_pyIter_enum he ?_
      have I2 : Inv X pins σ H1 { s1 with heap := h' } := I1.kept (t' := s1.toks) hk
      exact ⟨s1.heap.objs.size + 1, [s1.heap.objs.size + 1, s1.heap.objs.size], _, _, H1, rfl, I2, turn_enum a (s1.heap.objs.size + 1) s1.heap.objs.size, ⟨⟨.none, he⟩, hit, Nat.succ_ne_self _⟩, fp, q⟩
    · obtain ⟨its, rv, p', hz⟩ := I1.tuple hq
      refine call_enum1 (begins_tuple a its.toArray) (show s1.heap.IsTuple a its.toArray from p') fun h' he hit hsz hk => wpAny_pyIter_enum he ?_
      have I2 : Inv X pins σ H1 { s1 with heap := h' } := I1.kept (t' := s1.toks) hk
      exact ⟨s1.heap.objs.size + 1, [s1.heap.objs.size + 1, s1.heap.objs.size], _, _, H1, rfl, I2, turn_enumT a (s1.heap.objs.size + 1) s1.heap.objs.size, ⟨⟨.none, he⟩, ⟨_, hit, rfl, rfl⟩, Nat.succ_ne_self _⟩, fp, q⟩
theorem enuL_get : ∀ (xs : List D) (k : Int) (i : Nat) (x : D), xs[i]? = some x → (enuL k xs)[i]? = some (.tup [.int (k + i), x])
  | [], _, _, _, h => by simp at h
  | y :: ys, k, 0, x, h => by
    simp at h
    subst h
    simp [enuL]
  | y :: ys, k, i + 1, x, h => by
    show (enuL (k + 1) ys)[i]? = _
    rw [enuL_get ys (k + 1) i x (by simpa using h)]
    congr 3
    simp
    omega
theorem enuL_len : ∀ (xs : List D) (k : Int), (enuL k xs).length = xs.length
  | [], _ => rfl
  | y :: ys, k => by show (enuL (k + 1) ys).length + 1 = _; rw [enuL_len ys]; rfl
theorem get_l {K : PySem.W.Frag} {A0 : Ad} {H0 : Hp} {w0 : Wd} {d : D} {a : Addr} {xs : List D} (e : w0.seq d = some xs) (r : RD K H0 A0 d (.ref a)) (t : isT d = false) {A : Ad} {H : Hp} {w : Wd} {σ : Sl} (c : Car A0 H0 A H) (S : Sim K H A w σ) (ok : (srcOf d).ok xs w = true) :
    ∃ vs, SqL K H a vs ∧ RDs K H A xs vs := by
  obtain ⟨b, vs, eb, rs, h⟩ := S.seq (r.step c d _) (src_seq e ok)
  cases eb
  rcases h with ⟨h, _⟩ | ⟨_, h⟩
  · rw [t] at h; cases h
  · exact ⟨vs, h, rs⟩
theorem get_t {K : PySem.W.Frag} {A0 : Ad} {H0 : Hp} {w0 : Wd} {d : D} {a : Addr} {xs : List D} (e : w0.seq d = some xs) (r : RD K H0 A0 d (.ref a)) (t : isT d = true) {A : Ad} {H : Hp} {w : Wd} {σ : Sl} (c : Car A0 H0 A H) (S : Sim K H A w σ) (ok : (srcOf d).ok xs w = true) :
    ∃ vs, SqT K H a vs ∧ RDs K H A xs vs := by
  obtain ⟨b, vs, eb, rs, h⟩ := S.seq (r.step c d _) (src_seq e ok)
  cases eb
  rcases h with ⟨_, h⟩ | ⟨h, _⟩
  · exact ⟨vs, h, rs⟩
  · rw [t] at h; cases h
theorem pair_new {K : PySem.W.Frag} {A : Ad} {H : Hp} {w : Wd} {σ : Sl} {T : Addr} {x y : D} {u v : V} (S : Sim K H A w σ) (hT : H T = none) (rx : RD K H A x u) (ry : RD K H A y v) :
    Step A H A (upd H T (.tup [u, v])) ∧ Sim K (upd H T (.tup [u, v])) A w σ ∧ RD K (upd H T (.tup [u, v])) A (.tup [x, y]) (.ref T) := by
  have hc := (S.fresh hT).1.2.2
  exact ⟨Step.new hT hc, S.new hT, RD.newT hT hc ⟨_, _, rfl, rx, _, _, rfl, ry, rfl⟩⟩
theorem walk_e {K : PySem.W.Frag} {A0 : Ad} {H0 : Hp} {w0 : Wd} {d : D} {a : Addr} {xs : List D} (e : w0.seq d = some xs) (r : RD K H0 A0 d (.ref a)) (t : isT d = false) : WalkD K (Ite K a) ⟨enuL 0 xs, (srcOf d).ok xs⟩ A0 H0 := by
  refine ⟨fun A H w σ i c S ok hi => ?_, fun A H w σ c S ok => ?_⟩
  · have hi : i < xs.length := by rw [← enuL_len xs 0]; exact hi
    obtain ⟨vs, h, rs⟩ := get_l e r t c S ok
    obtain ⟨v, hv, rv⟩ := rs.get (List.getElem?_eq_getElem hi)
    refine ⟨⟨vs, v, h, hv⟩, fun x H' y => ?_⟩
    obtain ⟨T, x', rfl, hT, rfl, f⟩ := y
    have ev := (f vs h).symm.trans hv
    cases ev
    obtain ⟨a1, a2, a3⟩ := pair_new (x := .int i) (u := .int (i : Nat)) S hT rfl rv
    refine ⟨a1, a2, fun d' e' => ?_⟩
    rw [enuL_get xs 0 i _ (List.getElem?_eq_getElem hi)] at e'
    cases e'
    rw [Int.zero_add]
    exact a3
  · obtain ⟨vs, h, rs⟩ := get_l e r t c S ok
    exact ⟨vs, h, by rw [enuL_len]; exact Nat.le_of_eq rs.length⟩
theorem walk_et {K : PySem.W.Frag} {A0 : Ad} {H0 : Hp} {w0 : Wd} {d : D} {a : Addr} {xs : List D} (e : w0.seq d = some xs) (r : RD K H0 A0 d (.ref a)) (t : isT d = true) : WalkD K (IteT K a) ⟨enuL 0 xs, (srcOf d).ok xs⟩ A0 H0 := by
  refine ⟨fun A H w σ i c S ok hi => ?_, fun A H w σ c S ok => ?_⟩
  · have hi : i < xs.length := by rw [← enuL_len xs 0]; exact hi
    obtain ⟨vs, h, rs⟩ := get_t e r t c S ok
    obtain ⟨v, hv, rv⟩ := rs.get (List.getElem?_eq_getElem hi)
    refine ⟨⟨vs, v, h, hv⟩, fun x H' y => ?_⟩
    obtain ⟨T, x', rfl, hT, rfl, f⟩ := y
    have ev := (f vs h).symm.trans hv
    cases ev
    obtain ⟨a1, a2, a3⟩ := pair_new (x := .int i) (u := .int (i : Nat)) S hT rfl rv
    refine ⟨a1, a2, fun d' e' => ?_⟩
    rw [enuL_get xs 0 i _ (List.getElem?_eq_getElem hi)] at e'
    cases e'
    rw [Int.zero_add]
    exact a3
  · obtain ⟨vs, h, rs⟩ := get_t e r t c S ok
    exact ⟨vs, h, by rw [enuL_len]; exact Nat.le_of_eq rs.length⟩
theorem zipD_get : ∀ (xs ys : List D) (i : Nat) (x y : D), xs[i]? = some x → ys[i]? = some y → (zipD xs ys)[i]? = some (.tup [x, y])
  | [], _, _, _, _, h, _ => by simp at h
  | _ :: _, [], _, _, _, _, h => by simp at h
  | a :: as, b :: bs, 0, x, y, h, h2 => by
    simp at h h2
    subst h h2
    rfl
  | a :: as, b :: bs, i + 1, x, y, h, h2 => zipD_get as bs i x y (by simpa using h) (by simpa using h2)
theorem zipD_len : ∀ (xs ys : List D), (zipD xs ys).length = min xs.length ys.length
  | [], _ => by simp [zipD]
  | _ :: _, [] => by simp [zipD]
  | a :: as, b :: bs => by show (zipD as bs).length + 1 = _; rw [zipD_len as bs]; simp
theorem walk_z {K : PySem.W.Frag} {A0 : Ad} {H0 : Hp} {w0 : Wd} {d d2 : D} {a b : Addr} {xs ys : List D} (e : w0.seq d = some xs) (e2 : w0.seq d2 = some ys) (r : RD K H0 A0 d (.ref a)) (r2 : RD K H0 A0 d2 (.ref b)) (t : isT d = false) (t2 : isT d2 = false) :
    WalkD K (Itz K a b) ⟨zipD xs ys, fun w => (srcOf d).ok xs w && (srcOf d2).ok ys w⟩ A0 H0 := by
  refine ⟨fun A H w σ i c S ok hi => ?_, fun A H w σ c S ok => ?_⟩
  · obtain ⟨o1, o2⟩ := Bool.and_eq_true_iff.mp ok
    have hi : i < (zipD xs ys).length := hi
    rw [zipD_len] at hi
    have hx : i < xs.length := by omega
    have hy : i < ys.length := by omega
    obtain ⟨vs, h, rs⟩ := get_l e r t c S o1
    obtain ⟨us, h2, rs2⟩ := get_l e2 r2 t2 c S o2
    obtain ⟨v, hv, rv⟩ := rs.get (List.getElem?_eq_getElem hx)
    obtain ⟨u, hu, ru⟩ := rs2.get (List.getElem?_eq_getElem hy)
    refine ⟨⟨vs, us, v, u, h, h2, hv, hu⟩, fun x H' y => ?_⟩
    obtain ⟨T, x', y', rfl, hT, rfl, f, f2⟩ := y
    have ev := (f vs h).symm.trans hv
    have eu := (f2 us h2).symm.trans hu
    cases ev
    cases eu
    obtain ⟨a1, a2, a3⟩ := pair_new S hT rv ru
    refine ⟨a1, a2, fun d' e' => ?_⟩
    rw [zipD_get xs ys i _ _ (List.getElem?_eq_getElem hx) (List.getElem?_eq_getElem hy)] at e'
    cases e'
    exact a3
  · obtain ⟨o1, o2⟩ := Bool.and_eq_true_iff.mp ok
    obtain ⟨vs, h, rs⟩ := get_l e r t c S o1
    obtain ⟨us, h2, rs2⟩ := get_l e2 r2 t2 c S o2
    refine ⟨vs, us, h, h2, ?_⟩
    have l1 := rs.length
    have l2 := rs2.length
    show vs.length ≤ (zipD xs ys).length ∨ us.length ≤ (zipD xs ys).length
    rw [zipD_len]
    omega
theorem walk_zt {K : PySem.W.Frag} {A0 : Ad} {H0 : Hp} {w0 : Wd} {d d2 : D} {a b : Addr} {xs ys : List D} (e : w0.seq d = some xs) (e2 : w0.seq d2 = some ys) (r : RD K H0 A0 d (.ref a)) (r2 : RD K H0 A0 d2 (.ref b)) (t : isT d = true) (t2 : isT d2 = true) :
    WalkD K (RZ.ItzT K a b) ⟨zipD xs ys, fun w => (srcOf d).ok xs w && (srcOf d2).ok ys w⟩ A0 H0 := by
  refine ⟨fun A H w σ i c S ok hi => ?_, fun A H w σ c S ok => ?_⟩
  · obtain ⟨o1, o2⟩ := Bool.and_eq_true_iff.mp ok
    have hi : i < (zipD xs ys).length := hi
    rw [zipD_len] at hi
    have hx : i < xs.length := by omega
    have hy : i < ys.length := by omega
    obtain ⟨vs, h, rs⟩ := get_t e r t c S o1
    obtain ⟨us, h2, rs2⟩ := get_t e2 r2 t2 c S o2
    obtain ⟨v, hv, rv⟩ := rs.get (List.getElem?_eq_getElem hx)
    obtain ⟨u, hu, ru⟩ := rs2.get (List.getElem?_eq_getElem hy)
    refine ⟨⟨vs, us, v, u, h, h2, hv, hu⟩, fun x H' y => ?_⟩
    obtain ⟨T, x', y', rfl, hT, rfl, f, f2⟩ := y
    have ev := (f vs h).symm.trans hv
    have eu := (f2 us h2).symm.trans hu
    cases ev
    cases eu
    obtain ⟨a1, a2, a3⟩ := pair_new S hT rv ru
    refine ⟨a1, a2, fun d' e' => ?_⟩
    rw [zipD_get xs ys i _ _ (List.getElem?_eq_getElem hx) (List.getElem?_eq_getElem hy)] at e'
    cases e'
    exact a3
  · obtain ⟨o1, o2⟩ := Bool.and_eq_true_iff.mp ok
    obtain ⟨vs, h, rs⟩ := get_t e r t c S o1
    obtain ⟨us, h2, rs2⟩ := get_t e2 r2 t2 c S o2
    refine ⟨vs, us, h, h2, ?_⟩
    have l1 := rs.length
    have l2 := rs2.length
    show vs.length ≤ (zipD xs ys).length ∨ us.length ≤ (zipD xs ys).length
    rw [zipD_len]
    omega
end Fz

/-! Q10: handing data to a callee and back; the checker of expressions. -/
namespace Fz
open PySem PySem.Spec PyProof.Rows L2
section
variable {K : PySem.W.Frag} {H H' : Hp} {A A' : Ad} {w : Wd} {σ : Sl}
mutual
theorem rs_rd {ρ : Nat → Option D} {φ : Bool} (hk : ∀ (k : Nat) a d', ρ k = some d' → A.mu[k]? = some a → RD K H A' d' (.ref a)) (ho : ∀ a, A.out a → A'.out a) (hb : ∀ a, A.out a → a ∉ A.bad → a ∉ A'.bad) (hg : A'.ga = A.ga) :
    ∀ (d : D) (v : V) (d' : D), rs ρ φ d = some d' → RD K H A d v → RD K H A' d' v
  | .non, _, _, e, h => by cases e; exact h
  | .bl _, _, _, e, h => by cases e; exact h
  | .int _, _, _, e, h => by cases e; exact h
  | .str _, _, _, e, h => by cases e; exact h
  | .tup ds, _, _, e, h => by
    obtain ⟨a, vs, rfl, q, r⟩ := h
    simp only [rs, Option.map_eq_some_iff] at e
    obtain ⟨es, e1, rfl⟩ := e
    exact ⟨a, vs, rfl, q, rsL_rd hk ho hb hg ds vs es e1 r⟩
  | .lst ds, _, _, e, h => by
    obtain ⟨a, vs, rfl, q, x, y, r⟩ := h
    simp only [rs, Option.map_eq_some_iff] at e
    obtain ⟨es, e1, rfl⟩ := e
    exact ⟨a, vs, rfl, q, ho a x, hb a x y, rsL_rd hk ho hb hg ds vs es e1 r⟩
  | .fl ds, _, _, e, h => by
    obtain ⟨a, vs, rfl, q, x, r⟩ := h
    simp only [rs] at e
    split at e
    · obtain ⟨es, e1, rfl⟩ := Option.map_eq_some_iff.mp e
      exact ⟨a, vs, rfl, q, ho a x, rsL_rd hk ho hb hg ds vs es e1 r⟩
    · cases e
  | .sc ds, _, _, e, h => by
    obtain ⟨a, vs, rfl, q, r⟩ := h
    simp only [rs] at e
    split at e
    · obtain ⟨es, e1, rfl⟩ := Option.map_eq_some_iff.mp e
      exact ⟨a, vs, rfl, q, rsL_rd hk ho hb hg ds vs es e1 r⟩
    · cases e
  | .ref k, _, _, e, h => by
    obtain ⟨a, q, rfl⟩ := h
    exact hk k a _ e q
  | .g k, _, _, e, h => by
    cases e
    obtain ⟨a, q, rfl⟩ := h
    exact ⟨a, by rw [hg]; exact q, rfl⟩
  | .dic ks ds, _, _, e, h => by
    obtain ⟨a, vs, rfl, q, x, y, z, r⟩ := h
    simp only [rs, Option.map_eq_some_iff] at e
    obtain ⟨es, e1, rfl⟩ := e
    exact ⟨a, vs, rfl, q, ho a x, hb a x y, z, rsL_rd hk ho hb hg ds _ es e1 r⟩
theorem rsL_rd {ρ : Nat → Option D} {φ : Bool} (hk : ∀ (k : Nat) a d', ρ k = some d' → A.mu[k]? = some a → RD K H A' d' (.ref a)) (ho : ∀ a, A.out a → A'.out a) (hb : ∀ a, A.out a → a ∉ A.bad → a ∉ A'.bad) (hg : A'.ga = A.ga) :
    ∀ (ds : List D) (vs : List V) (ds' : List D), rsL ρ φ ds = some ds' → RDs K H A ds vs → RDs K H A' ds' vs
  | [], _, _, e, h => by cases e; exact h
  | d :: ds, _, _, e, h => by
    obtain ⟨v, r, rfl, x, y⟩ := h
    simp only [rsL, Option.bind_eq_some_iff, Option.map_eq_some_iff] at e
    obtain ⟨d', e1, es, e2, rfl⟩ := e
    exact ⟨v, r, rfl, rs_rd hk ho hb hg d v d' e1 x, rsL_rd hk ho hb hg ds r es e2 y⟩
end
/-- the refs from L on as what they hold -/
theorem up_rd (S : Sim K H A w σ) {mk : List D → D} {L : Nat} {φ : Bool} (ho : ∀ a, A.out a → A'.out a) (hb : ∀ a, A.out a → a ∉ A.bad → a ∉ A'.bad) (hg : A'.ga = A.ga)
    (hlow : ∀ (k : Nat) a, k < L → A.mu[k]? = some a → A'.mu[k]? = some a) (hmk : ∀ (k : Nat) a ys vs, ¬ k < L → A.mu[k]? = some a → H a = some (.lst vs) → RDs K H A' ys vs → RD K H A' (mk ys) (.ref a)) :
    ∀ (n k : Nat) (a : Addr) (d' : D), up mk L w.m φ n k = some d' → A.mu[k]? = some a → RD K H A' d' (.ref a)
  | 0, k, a, d', e, h => by
    simp only [up] at e
    split at e
    · rename_i hl
      cases e
      exact ⟨a, hlow k a hl h, rfl⟩
    · cases e
  | n + 1, k, a, d', e, h => by
    simp only [up] at e
    split at e
    · rename_i hl
      cases e
      exact ⟨a, hlow k a hl h, rfl⟩
    · rename_i hl
      simp only [Option.bind_eq_some_iff, Option.map_eq_some_iff] at e
      obtain ⟨ds, e1, ys, e2, rfl⟩ := e
      obtain ⟨e1, n1⟩ := seq_ref_some (Option.bind_eq_some_iff.mpr e1)
      obtain ⟨vs, q2, q3⟩ := S.mu.get h e1 n1
      exact hmk k a ys vs hl h q2 (rsL_rd (fun k a d' e h => up_rd S ho hb hg hlow hmk n k a d' e h) ho hb hg ds vs ys e2 q3)
/-- what a callee stands upon -/
def Ad.sub (A : Ad) : Ad := ⟨[], A.ga, A.bad ++ (A.mu ++ A.cn), []⟩
theorem Ad.sub_out {a : Addr} (h : A.out a) : A.sub.out a := ⟨by simp [Ad.sub], h.2.1, by simp [Ad.sub]⟩
theorem Ad.sub_bad {a : Addr} (h : A.out a) (h2 : a ∉ A.bad) : a ∉ A.sub.bad := fun z => by
  rcases List.mem_append.mp z with z | z
  · exact h2 z
  · rcases List.mem_append.mp z with z | z
    · exact h.1 z
    · exact h.2.2 z
theorem lendL_rd (S : Sim K H A w σ) {ds ds' : List D} {vs : List V} (e : lendL w ds = some ds') (r : RDs K H A ds vs) : RDs K H A.sub ds' vs := by
  refine rsL_rd (fun k a d' e h => up_rd S (fun a h => Ad.sub_out h) (fun a => Ad.sub_bad) rfl (fun k a h => absurd h (Nat.not_lt_zero _)) (fun k a ys vs _ h1 h2 h3 => ?_) 4 k a d' e h) (fun a h => Ad.sub_out h) (fun a => Ad.sub_bad) rfl ds vs ds' e r
  exact ⟨a, vs, rfl, h2, ⟨by simp [Ad.sub], (S.dj a (List.mem_of_getElem? h1)).1, by simp [Ad.sub]⟩, h3⟩
theorem gOk_rd (hg : A'.ga = A.ga ∨ ∀ (k : Nat) a, A.ga[k]? = some a → A'.ga[k]? = some a) : ∀ {xs : List D} {vs : List V}, xs.all gOk = true → RDs K H A xs vs → RDs K H' A' xs vs
  | [], _, _, h => h
  | d :: ds, _, g, h => by
    obtain ⟨v, r, e, x, y⟩ := h
    obtain ⟨g1, g2⟩ := Bool.and_eq_true_iff.mp (show (gOk d && ds.all gOk) = true from g)
    refine ⟨v, r, e, ?_, gOk_rd hg g2 y⟩
    cases d with
    | g k =>
      obtain ⟨a, q, e⟩ := x
      refine ⟨a, ?_, e⟩
      rcases hg with hg | hg
      · rw [hg]; exact q
      · exact hg k a q
    | non => exact x
    | bl _ => exact x
    | int _ => exact x
    | str _ => exact x
    | _ => cases g1
theorem RL.gok (k : ∀ a vs, H a = some (.lst vs) → a ∈ A.ga → H' a = some (.lst vs)) (hg : A'.ga = A.ga ∨ ∀ (k : Nat) a, A.ga[k]? = some a → A'.ga[k]? = some a) : ∀ {as : List Addr} {ms : List (List D)}, (∀ a ∈ as, a ∈ A.ga) → (∀ xs ∈ ms, xs.all gOk = true) → RL K H A as ms → RL K H' A' as ms
  | [], _, _, _, h => h
  | a :: as, _, hm, g, h => by
    obtain ⟨xs, r, rfl, x, z⟩ := h
    obtain ⟨vs, x, y⟩ := x.lst (gOk_noDc (g xs List.mem_cons_self))
    exact ⟨xs, r, rfl, Cell.mk (k a vs x (hm a List.mem_cons_self)) (gOk_rd hg (g xs List.mem_cons_self) y), RL.gok k hg (fun b hb => hm b (List.mem_cons_of_mem _ hb)) (fun ys hy => g ys (List.mem_cons_of_mem _ hy)) z⟩
theorem Sim.sub (S : Sim K H A w σ) : Sim K H A.sub ⟨[], [], w.g⟩ [] where
  loc := fun i d e => by simp at e
  len := rfl
  mu := rfl
  ga := RL.gok (A := A) (A' := A.sub) (fun _ _ h _ => h) (.inl rfl) (fun _ h => h) S.gk S.ga
  nd := List.nodup_nil
  ndg := S.ndg
  dj := fun a h => by simp [Ad.sub] at h
  djg := fun a h => by
    rcases List.mem_append.mp h with h | h
    · exact S.djg a h
    · rcases List.mem_append.mp h with h | h
      · exact (S.dj a h).1
      · exact (S.cnd a h).2.1
  bt := fun a h => by
    rcases List.mem_append.mp h with h | h
    · exact S.bt a h
    · rcases List.mem_append.mp h with h | h
      · exact (S.mu.tracked h).elim fun vs e => ⟨_, e⟩
      · exact (S.cnt a h).elim fun vs e => ⟨_, e⟩
  cnt := fun a h => by simp [Ad.sub] at h
  cnd := fun a h => by simp [Ad.sub] at h
  gk := S.gk
mutual
/-- a callee's result at the caller's -/
theorem ret_rd (ho : ∀ a, A.out a → a ∉ A.bad → A'.out a ∧ a ∉ A'.bad) (hg : A'.ga = A.ga) : ∀ (d : D) (v : V), okRet d = true → RD K H A d v → RD K H A' d v
  | .non, _, _, h => h
  | .bl _, _, _, h => h
  | .int _, _, _, h => h
  | .str _, _, _, h => h
  | .tup ds, _, o, h => by
    obtain ⟨a, vs, rfl, q, r⟩ := h
    exact ⟨a, vs, rfl, q, rets_rd ho hg ds vs (by simpa [okRet] using o) r⟩
  | .lst ds, _, o, h => by
    obtain ⟨a, vs, rfl, q, x, y, r⟩ := h
    obtain ⟨x', y'⟩ := ho a x y
    exact ⟨a, vs, rfl, q, x', y', rets_rd ho hg ds vs (by simpa [okRet] using o) r⟩
  | .fl _, _, o, _ => nomatch o
  | .sc _, _, o, _ => nomatch o
  | .ref _, _, o, _ => nomatch o
  | .g k, _, _, h => by
    obtain ⟨a, q, rfl⟩ := h
    exact ⟨a, by rw [hg]; exact q, rfl⟩
  | .dic ks ds, _, o, h => by
    obtain ⟨a, vs, rfl, q, x, y, z, r⟩ := h
    obtain ⟨x', y'⟩ := ho a x y
    exact ⟨a, vs, rfl, q, x', y', z, rets_rd ho hg ds _ (by simpa [okRet] using o) r⟩
theorem rets_rd (ho : ∀ a, A.out a → a ∉ A.bad → A'.out a ∧ a ∉ A'.bad) (hg : A'.ga = A.ga) : ∀ (ds : List D) (vs : List V), okRets ds = true → RDs K H A ds vs → RDs K H A' ds vs
  | [], _, _, h => h
  | d :: ds, _, o, h => by
    obtain ⟨v, r, rfl, x, y⟩ := h
    obtain ⟨o1, o2⟩ := Bool.and_eq_true_iff.mp (show (okRet d && okRets ds) = true by simpa [okRets] using o)
    exact ⟨v, r, rfl, ret_rd ho hg d v o1 x, rets_rd ho hg ds r o2 y⟩
end
/-- behind a call -/
theorem Sim.behind {A1 : Ad} {g' : List (List D)} {d : D} {v : V} (S : Sim K H A w σ) (st : Step A.sub H A1 H') (hm : A1.mu = []) (S1 : Sim K H' A1 ⟨[], [], g'⟩ []) (o : okRet d = true) (r : RD K H' A1 d v) :
    ∃ A', Step A H A' H' ∧ Sim K H' A' { w with g := g' } σ ∧ RD K H' A' d v := by
  have hc : A1.cn = [] := st.cn
  have hbad : A1.bad = A.bad ++ (A.mu ++ A.cn) := st.bad
  have kp : ∀ a o, H a = some o → a ∉ A.ga → H' a = some o ∧ a ∉ A1.ga := fun a o e h =>
    let ⟨q, x⟩ := st.kept a o e ⟨by simp [Ad.sub], h, by simp [Ad.sub]⟩
    ⟨q, x.2.1⟩
  have c : Car A H ⟨A.mu, A1.ga, A.bad, A.cn⟩ H' := ⟨fun a o e x => let ⟨q, y⟩ := kp a o e x.2.1; ⟨q, x.1, y, x.2.2⟩, st.tup, st.frz, fun _ _ h => h, st.ga, rfl⟩
  have mt : ∀ a ∈ A.mu, ∃ o, H a = some o := fun a h => S.mu.tracked h
  refine ⟨⟨A.mu, A1.ga, A.bad, A.cn⟩, ⟨c, rfl, fun a h => ?_⟩, ⟨fun i d e => let ⟨v, e1, r⟩ := S.loc i d e; ⟨v, e1, r.step c d v⟩, S.len, RL.carry (fun xs vs h => h.step c) (fun a ha vs h => (kp a _ h (S.dj a ha).1).1) S.mu, ?_, S.nd, S1.ndg, fun a ha => ⟨?_, (S.dj a ha).2⟩, fun a ha => ?_, fun a ha => ?_, fun a ha => ?_, fun a ha => ⟨(S.cnd a ha).1, ?_, (S.cnd a ha).2.2⟩, S1.gk⟩, ?_⟩
  · obtain ⟨vs, e⟩ := S.cnt a h
    rw [e]
    exact (kp a _ e (S.cnd a h).2.1).1
  · exact RL.gok (A := A1) (A' := ⟨A.mu, A1.ga, A.bad, A.cn⟩) (fun _ _ h _ => h) (.inl rfl) (fun _ h => h) S1.gk S1.ga
  · obtain ⟨vs, e⟩ := mt a ha
    exact (kp a _ e (S.dj a ha).1).2
  · obtain ⟨o, e⟩ := S.bt a ha
    exact (kp a _ e (S.djg a ha)).2
  · obtain ⟨o, e⟩ := S.bt a ha
    exact ⟨o, (kp a _ e (S.djg a ha)).1⟩
  · obtain ⟨vs, e⟩ := S.cnt a ha
    exact ⟨vs, (kp a _ e (S.cnd a ha).2.1).1⟩
  · obtain ⟨vs, e⟩ := S.cnt a ha
    exact (kp a _ e (S.cnd a ha).2.1).2
  · refine ret_rd (A := A1) (A' := ⟨A.mu, A1.ga, A.bad, A.cn⟩) (fun a x y => ?_) rfl d v o r
    rw [hbad] at y
    exact ⟨⟨fun z => y (List.mem_append_right _ (List.mem_append_left _ z)), x.2.1, fun z => y (List.mem_append_right _ (List.mem_append_right _ z))⟩, fun z => y (List.mem_append_left _ z)⟩
end
theorem arr_vals : ∀ {p : List Nat} {vs : List V} {us : List Value} {vs' : List V}, Vals vs us → arr p vs = some vs' → ∃ us', arr p us = some us' ∧ Vals vs' us'
  | [], _, _, _, _, e => by cases e; exact ⟨[], rfl, .nil⟩
  | i :: p, vs, us, _, r, e => by
    simp only [arr, Option.bind_eq_some_iff, Option.map_eq_some_iff] at e ⊢
    obtain ⟨v, e1, ys, e2, rfl⟩ := e
    obtain ⟨u, h1, h2⟩ := r.get e1
    obtain ⟨zs, h3, h4⟩ := arr_vals (p := p) r e2
    exact ⟨u :: zs, ⟨u, h1, zs, h3, rfl⟩, .cons h2 h4⟩
theorem arr_rds {K : PySem.W.Frag} {H : Hp} {A : Ad} : ∀ {p : List Nat} {ds : List D} {vs : List V} {ds' : List D}, RDs K H A ds vs → arr p ds = some ds' → ∃ vs', arr p vs = some vs' ∧ RDs K H A ds' vs'
  | [], _, _, _, _, e => by cases e; exact ⟨[], rfl, rfl⟩
  | i :: p, ds, vs, _, r, e => by
    simp only [arr, Option.bind_eq_some_iff, Option.map_eq_some_iff] at e ⊢
    obtain ⟨d, e1, ys, e2, rfl⟩ := e
    obtain ⟨v, h1, h2⟩ := r.get e1
    obtain ⟨zs, h3, h4⟩ := arr_rds (p := p) r e2
    exact ⟨v :: zs, ⟨v, h1, zs, h3, rfl⟩, v, zs, rfl, h2, h4⟩
theorem arrD_rds {K : PySem.W.Frag} {H : Hp} {A : Ad} {p : Option (List Nat)} {ds : List D} {vs : List V} {ds' : List D} {us : List Value} (r : RDs K H A ds vs) (q : Vals vs us) (e : arrD p ds = some ds') :
    ∃ vs' us', arrD p us = some us' ∧ Vals vs' us' ∧ RDs K H A ds' vs' := by
  cases p with
  | none =>
    cases e
    exact ⟨vs, us, rfl, q, r⟩
  | some p =>
    obtain ⟨vs', e1, r'⟩ := arr_rds r e
    obtain ⟨us', e2, q'⟩ := arr_vals q e1
    exact ⟨vs', us', e2, q', r'⟩
section
variable {T : Tb} {P : Pg} {lv : Nat} {N : List Str} {sc : Scope} {top : Option Scope} {X : Cx}
/-- a def is called -/
theorem call_sound (G : GX T P lv N sc top X) {j : Nat} {dd : Str × List Str} (hj : T.defs[j]? = some dd) (hlv : j < lv) :
    ∃ f, X.mg dd.1 = some (.ref f) ∧ PySem.W.keepIn X.K (.ref f) = true ∧ ∀ (n : Nat) (ks : List Str) (p : Option (List Nat)), (j, n, ks, p) ∈ T.binds →
      ∀ (pins : List (Addr × Obj)) (s : Shared) (σ : Sl) (H : Hp) (Q : VK) (us ws : List Value) (vs zs : List V) (A : Ad) (w : Wd) (ds es as bs : List D) (d : D) (g' : List (List D)),
        Inv X pins σ H s → Vals vs us → Vals zs ws → Sim X.K H A w σ → RDs X.K H A ds vs → RDs X.K H A es zs → ds.length = n → es.length = ks.length → lendL w (ds ++ es) = some as → arrD p as = some bs → bs.length = dd.2.length →
        P.F j bs w.g = .ok (d, g') → Aft X.K A H σ d { w with g := g' } Q → wpAny (model X.prog X.w) X.A (call (.ref f) us (ks.zip ws)) (EP X pins σ Q) X.xe s := by
  obtain ⟨f, fd, h1, h2, F, hb, hr⟩ := G.defs j dd hj hlv
  refine ⟨f, h1, h2, fun n ks p hm pins s σ H Q us ws vs zs A w ds es as bs d g' I r1 r2 S q1 q2 l1 l2 e1 e2 l3 e3 q => ?_⟩
  have rr := lendL_rd S e1 (q1.append q2)
  obtain ⟨vs', us', e4, q', r'⟩ := arrD_rds rr (r1.append r2) e2
  have hbind := hb n ks p hm s us ws us' (by rw [← r1.length, q1.length]; exact l1) (by rw [← r2.length, q2.length]; exact l2) e4
  have hs : spD X.K (P.F j) dd.2.length vs' H (fun v H' => Q v H') (fun _ _ _ => False) := by
    refine ⟨A.sub, w.g, bs, d, g', rfl, rfl, S.sub, r', l3, e3, fun A1 v H' st hm S1 rv => ?_⟩
    obtain ⟨A', st', S', r''⟩ := S.behind st hm S1 (hr _ _ _ _ e3) rv
    exact q A' v H' st' S' r''
  refine wpAny_call (codeAny_mono (F.run X.A X.stack s H ⟨us, ks.zip ws⟩ us' vs' _ (fun _ _ _ => False) G.room G.gd I.env0 hbind q' hs) fun r s' hq => ?_)
  cases r with
  | error e => exact hq.elim
  | ok fl =>
    cases fl with
    | ret u => exact I.after hq
    | next => exact False.elim hq
    | brk => exact False.elim hq
    | cont => exact False.elim hq
end
end Fz

/-! Q10t: a tuple turned about. -/
namespace HT
open PySem PySem.Spec PyProof.Rows
section
variable {prog : Program} {w : World} {A : Around} {E : Value → Shared → Prop} {s : Shared}
theorem sliceApplied_rev {sl : Addr} {vl vu vs : Value} {n : Nat} {Q : Int × Int × Nat → Shared → Prop} (hs : s.heap.IsSliceOf sl vl vu vs) (pl : IsPart vl none) (pu : IsPart vu none) (ps : IsPart vs (some (-1)))
    (h : Q ((n : Int) - 1, -1, n) s) : wpAny (model prog w) A (Builtin.Slice.sliceApplied (.ref sl) (pure (n : Int))) Q E s := by
  obtain ⟨os, hos, hcs, hds⟩ := id hs
  unfold Builtin.Slice.sliceApplied Builtin.Slice.sliceFields
  refine wpAny_bind (wpAny_bind (wpAny_field hos hds (x := vl) rfl (wpAny_bind (wpAny_field hos hds (x := vu) rfl (wpAny_bind (wpAny_field hos hds (x := vs) rfl (wpAny_pure ?_)))))))
  refine wpAny_bind (slicePart_ ps ?_)
  show wpAny _ _ (if ((-1 : Int) == 0) = true then _ else _) _ _ s
  rw [if_neg (by decide)]
  refine wpAny_bind (slicePart_ pl (wpAny_bind (slicePart_ pu (wpAny_bind (wpAny_pure ?_)))))
  show wpAny _ _ (match Builtin.Slice.sliceAdjust none none (-1) (n : Int) with | (lo, hi) => pure (lo, (-1 : Int), Builtin.Slice.slicePlaces lo hi (-1))) _ _ s
  have e1 : Builtin.Slice.sliceAdjust none none (-1) (n : Int) = ((n : Int) - 1, -1) := rfl
  have e2 : Builtin.Slice.slicePlaces ((n : Int) - 1) (-1) (-1) = n := by
    unfold Builtin.Slice.slicePlaces
    have h1 : ¬ ((-1 : Int) > 0) := by omega
    simp only [h1, if_false]
    split
    · have : (- -1 : Int) = 1 := by decide
      rw [this, Int.ediv_one]
      omega
    · omega
  rw [e1]
  show wpAny _ _ (pure ((n : Int) - 1, (-1 : Int), Builtin.Slice.slicePlaces ((n : Int) - 1) (-1) (-1))) _ _ s
  rw [e2]
  exact wpAny_pure h
theorem pick_rev (xs : Array Value) : ((List.range xs.size).filterMap fun (m : Nat) => xs[(((xs.size : Int) - 1) + (m : Int) * (-1)).toNat]?).toArray = xs.toList.reverse.toArray := by
  congr 1
  have e : ∀ l : List Nat, (∀ m ∈ l, m < xs.size) → (l.filterMap fun (m : Nat) => xs[(((xs.size : Int) - 1) + (m : Int) * (-1)).toNat]?) = (l.map fun k => xs.size - 1 - k).filterMap (xs[·]?) := by
    intro l
    induction l with
    | nil => intro _; rfl
    | cons m l ih =>
      intro hl
      have := hl m List.mem_cons_self
      have e : (((xs.size : Int) - 1) + (m : Int) * (-1)).toNat = xs.size - 1 - m := by omega
      rw [List.filterMap_cons, List.map_cons, List.filterMap_cons, ih fun k hk => hl k (List.mem_cons_of_mem _ hk), e]
  rw [e _ fun m hm => List.mem_range.mp hm, PySem.W.krv_range, List.filterMap_reverse, PySem.W.krv_all]
theorem getItem_tuple_rev {t sl : Addr} {items : Array Value} {vl vu vs : Value} {Q : Value → Shared → Prop} (ht : IsTup s.heap t items) (hs : s.heap.IsSliceOf sl vl vu vs) (pl : IsPart vl none) (pu : IsPart vu none) (ps : IsPart vs (some (-1)))
    (h : Q (.ref s.heap.objs.size) { s with heap := s.heap.push { cls := .type "tuple", data := .seq items.toList.reverse.toArray } })
    (hsz : items.size ≤ sizeLine) : wpAny (model prog w) A (getItem (.ref t) (.ref sl)) Q E s := by
  have htake : sizeOk (.seq items.toList.reverse.toArray) := by
    show items.toList.reverse.toArray.size ≤ sizeLine
    rw [List.size_toArray, List.length_reverse, Array.length_toList]
    omega
  obtain ⟨os, hos, hcs, hds⟩ := id hs
  have hTs : s.TypeIs (.ref sl) "slice" := ⟨os, hos, hcs⟩
  unfold getItem
  try with_reducible refine wpAny_holding ?_
  first | refine wpAny_bind (wpAny_pure ?_) | skip
  refine wpAny_bind (wpAny_sequenceKey ht.typeIs (by decide) ?_)
  refine wpAny_bind (wpAny_callSpecial?_slot (name := Str.ofString "__getitem__") ht.typeIs PyProof.Rows.slot_tuple_getitem
    (wpAny_call_entry PyProof.Rows.slot_tuple_getitem ht.typeIs entry_tuple_getitem ?_ (args_tuple_getitem _ _)))
  show wpAny _ _ (Builtin.Tuple.tupleItemsOf (.ref t) >>= _) _ _ s
  refine wpAny_bind (tupleItemsOf_ ht ?_)
  refine wpAny_bind (wpAny_typeOf hTs ?_)
  rw [if_pos (by decide)]
  refine wpAny_bind (sliceApplied_rev hs pl pu ps ?_)
  have hno : ¬ ((((items.size : Int) - 1) == 0 && (-1 : Int) == 1 && items.size == items.size) = true) := by
    intro q
    rw [Bool.and_eq_true, Bool.and_eq_true] at q
    exact absurd q.1.2 (by decide)
  show wpAny _ _ (if (((items.size : Int) - 1) == 0 && (-1 : Int) == 1 && items.size == items.size) = true then _ else _) _ _ s
  rw [if_neg hno, pick_rev]
  first
    | exact wpAny_bind (m := Builtin.Tuple.tupleExact _) (wpAny_newObj_type (wpAny_pure ⟨_, rfl, wpAny_pure h⟩) htake)
    | exact wpAny_bind (m := Builtin.Tuple.tupleExact _) (wpAny_newObj_type (wpAny_bind (wpAny_pure (wpAny_pure ⟨_, rfl, wpAny_pure h⟩))) htake)
    | exact wpAny_bind (wpAny_bind (m := Builtin.Tuple.tupleExact _) (wpAny_newObj_type (wpAny_pure (wpAny_pure ⟨_, rfl, wpAny_pure h⟩)) htake))
    | exact wpAny_bind (wpAny_bind (m := Builtin.Tuple.tupleExact _) (wpAny_newObj_type (wpAny_pure ⟨_, rfl, wpAny_pure h⟩) htake))
end
end HT
namespace L2
open PySem PySem.Spec PyProof.Rows HT
section
variable {X : Cx}
def tRevA (K : PySem.W.Frag) (te : TE) : TE := fun σ H Q => te σ H fun x H1 => ∃ a xs, x = .ref a ∧ ((SqL K H1 a xs ∧ ∀ p, H1 p = none → Q (.ref p) (upd H1 p (.lst xs.reverse))) ∨ (SqT K H1 a xs ∧ ∀ p, H1 p = none → Q (.ref p) (upd H1 p (.tup xs.reverse))))
theorem pe_revA {e : Expr} {te : TE} {k : Nat} {p1 p2 p3 pos : Pos} (he : PE X e te) : PE X (.Subscript e (.Slice none none (some (.UnaryOp .USub (.Constant (.int 1) k p1) p2)) p3) pos) (tRevA X.K te) := by
  refine ⟨fun pins s σ H Q I h => ?_⟩
  refine Subscript_ (thn (he.run pins s σ H _ I h) fun v s1 ⟨x, H1, I1, r1, q1⟩ => ?_)
  obtain ⟨a, xs, ex, hq⟩ := q1
  subst ex
  cases r1
  have hst : PO X (some (.UnaryOp .USub (.Constant (.int 1) k p1) p2)) (tPart (tUn (rU fun i => .int (-i)) (tC (.int 1)))) := po_some (pe_un un_neg pe_int)
  refine wpAny_Slice (thn (po_none.run pins s1 σ H1 (fun o H2 => o = none ∧ H2 = H1) I1 ⟨rfl, rfl⟩) fun vl s2 ⟨l, H2, I2, pl, el, e2⟩ => ?_)
  subst el e2
  refine thn (po_none.run pins s2 σ H2 (fun o H3 => o = none ∧ H3 = H2) I2 ⟨rfl, rfl⟩) fun vu s3 ⟨u, H3, I3, pu, eu, e3⟩ => ?_
  subst eu e3
  refine thn (hst.run pins s3 σ H3 (fun o H4 => o = some (-1) ∧ H4 = H3) I3 ⟨1, rfl, -1, rfl, rfl, rfl⟩) fun vs s4 ⟨o, H4, I4, ps, eo, e4⟩ => ?_
  subst eo e4
  have I5 : Inv X pins σ H4 { s4 with heap := s4.heap.push { cls := .type "slice", data := .fields #[vl, vu, vs] } } := I4.kept (t' := s4.toks) fun b ob q => Heap.get?_push_of_some _ q
  show wpAny (model X.prog X.w) X.A (subscriptTail e (.Slice none none (some (.UnaryOp .USub (.Constant (.int 1) k p1) p2)) p3) (.ref a) (.ref s4.heap.objs.size)) (EP X pins σ Q) X.xe { s4 with heap := s4.heap.push { cls := .type "slice", data := .fields #[vl, vu, vs] } }
  rcases hq with ⟨hx, q⟩ | ⟨hx, q⟩
  · obtain ⟨its, r, ht, hz⟩ := I5.list hx
    have hlen := r.length
    refine tail_any (ops := [.ref a, .ref s4.heap.objs.size]) ht.isList.typeIs (PySem.slot_list_getitem.lookup) ?_ (by with_unfolding_all rfl)
    refine wpAny_getItem_list_slice ht.isList (Heap.IsSliceOf.new _ vl vu vs) pl pu ps (by decide) ?_ (by rw [List.size_toArray]; omega)
    rw [PySem.W.krv_pick]
    refine ⟨.ref _, _, I5.laid (t' := s4.toks) (o := .lst xs.reverse) (fun b ob q => Heap.get?_push_of_some _ q) (Nat.le_refl _) ?_, rfl, q _ (I5.hok.fresh (Nat.le_refl _))⟩
    exact ⟨by rw [List.length_reverse]; exact hz, _, 0, r.reverse, Heap.get?_push_size _ rfl⟩
  · obtain ⟨its, r, ht, hz⟩ := I5.tuple hx
    have hlen : its.toArray.size = xs.length := by rw [List.size_toArray]; exact r.length.symm
    refine tail_any (ops := [.ref a, .ref s4.heap.objs.size]) ht.typeIs PyProof.Rows.slot_tuple_getitem.lookup ?_ (by with_unfolding_all rfl)
    refine getItem_tuple_rev ht (Heap.IsSliceOf.new _ vl vu vs) pl pu ps ?_ (by rw [hlen]; exact hz)
    refine ⟨.ref _, _, I5.laid (t' := s4.toks) (o := .tup xs.reverse) (fun b ob q => Heap.get?_push_of_some _ q) (Nat.le_refl _) ?_, rfl, q _ (I5.hok.fresh (Nat.le_refl _))⟩
    exact ⟨by rw [List.length_reverse]; exact hz, _, r.reverse, IsTup.new _ _⟩
end
end L2

/-! Q11: the rules of expressions over data. -/
namespace Fz
open PySem PySem.Spec PyProof.Rows L2

/-- an expression, as a value and as a test -/
structure Snd (X : Cx) (P : Pg) (e : E) (ex : Expr) : Prop where
  pe : PE X ex (rd X.K (evE P e))
  pt : PT X ex (rdT X.K (evT P e))
  pw : ∀ op vs pos, ex = .BoolOp op vs pos → PW X ex (rdT X.K (evT P e))
def okX : Expr → Bool
  | .Starred _ _ => false
  | .Set _ _ _ => false
  | .Slice _ _ _ _ => false
  | _ => true
/-- its test is the truth of its value -/
def plainT : Expr → Bool
  | .UnaryOp .Not _ _ => false
  | .BoolOp _ _ _ => false
  | .IfExp _ _ _ _ => false
  | .Compare _ _ _ _ => false
  | _ => true
theorem plainT_ok {e : Expr} {env : Env} (h : plainT e = true) (whole : Sem Value) : isTrue e env whole = (do let v ← whole; standAt e.pos; holding [v] (truthy v)) := by
  cases e with
  | UnaryOp op x pos => cases op <;> first | rfl | cases h
  | BoolOp op vs pos => cases h
  | IfExp a b c pos => cases h
  | Compare a b c pos => cases h
  | _ => rfl
theorem starEach_cons {e : Expr} {es : List Expr} {env : Env} (h : okX e = true) : starEach (e :: es) env = (false, eval e env) :: starEach es env := by
  cases e <;> first | rfl | cases h
theorem noStars {pos : Pos} {env : Env} : ∀ {es : List Expr}, es.all okX = true → (backTo pos (starEach es env)).any (·.1) = false
  | [], _ => rfl
  | e :: es, h => by
    obtain ⟨h1, h2⟩ := Bool.and_eq_true_iff.mp (show (okX e && es.all okX) = true from h)
    rw [starEach_cons h1]
    exact noStars (es := es) h2
theorem behind_ok {e : Expr} {op : CmpOp} (h : okX e = true) : behindInMarks op e = false := by
  cases e <;> first | rfl | cases h
theorem plainIx_ok {e : Expr} (h : okX e = true) : PlainIx e := by
  intro o i
  cases e <;> first | rfl | cases h
theorem folded_ok {e : Expr} {env : Env} (h : okX e = true) (x : Value) : foldedSetIterable e env x = pure x := by
  cases e <;> first | rfl | cases h
section
variable {T : Tb} {P : Pg} {lv : Nat} {N : List Str} {sc : Scope} {top : Option Scope} {X : Cx}
theorem GX.hu (G : GX T P lv N sc top X) : X.A.units + 64 < cLine := G.room.units
theorem GX.hu65 (G : GX T P lv N sc top X) : X.A.units + 65 < cLine := by have := G.room.un; omega
theorem GX.hu1 (G : GX T P lv N sc top X) : X.A.units + 1 < cLine := by have := G.hu; omega
/-- by its value -/
theorem Snd.plain {e : E} {ex : Expr} (h : PE X ex (rd X.K (evE P e))) (p : plainT ex = true) : Snd X P e ex := by
  refine ⟨h, PTimp (pt_truth h (fun w => plainT_ok p w)) fun σ H Q q => ?_, fun op vs pos z => by subst z; cases p⟩
  obtain ⟨A, w, S, b, w', e1, q⟩ := q
  obtain ⟨x, e2, e3⟩ := bd_split (show ((evE P e w).bd fun x => (R.of (x.2.tru x.1)).bd fun b => R.ok (b, x.2)) = .ok (b, w') from e1)
  obtain ⟨c, e4, e5⟩ := bd_split e3
  cases e5
  exact ⟨A, w, S, x.1, x.2, e2, fun A' v H' st S' r => ⟨b, S'.tru (of_split e4) r, q A' H' st S'⟩⟩
/-- two values, one rule -/
theorem rd2 {fa fb : Wd → R (D × Wd)} {k : D → D → Wd → R (D × Wd)} {r : R2}
    (hr : ∀ A w σ d e r' w' x y H Q, Sim X.K H A w σ → RD X.K H A d x → RD X.K H A e y → k d e w = .ok (r', w') → Aft X.K A H σ r' w' Q → r x y H Q) :
    ∀ σ H Q, rd X.K (fun w => (fa w).bd fun x => (fb x.2).bd fun y => k x.1 y.1 y.2) σ H Q → tOp r (rd X.K fa) (rd X.K fb) σ H Q := by
  intro σ H Q q
  obtain ⟨A, w, S, d, w', e1, q⟩ := q
  obtain ⟨x, ea, e1⟩ := bd_split e1
  obtain ⟨y, eb, e1⟩ := bd_split e1
  refine ⟨A, w, S, x.1, x.2, ea, fun A1 v H1 s1 S1 r1 => ⟨A1, x.2, S1, y.1, y.2, eb, fun A2 u H2 s2 S2 r2 => ?_⟩⟩
  exact hr A2 y.2 σ x.1 y.1 d w' v u H2 Q S2 (r1.step s2.toCar) r2 e1 (q.step (s1.trans s2))
theorem snd_var (G : GX T P lv N sc top X) {i : Nat} {x : Str} {pos : Pos} (h : N[i]? = some x) (hv : Vis sc x) (hd : (x == ("__debug__" : Str)) = false) (hc : (x == ("__classdict__" : Str)) = false) : PE X (.Name x pos) (rd X.K (evE P (.v i))) := by
  refine PEimp (pe_var (i := i) (by rw [G.hN]; exact h) (by rw [G.sco]; exact hv) hd hc) fun σ H Q q => ?_
  obtain ⟨A, w, S, d, w', e, q⟩ := q
  simp only [evE] at e
  split at e
  · rename_i d' hd'
    cases e
    obtain ⟨v, e1, r⟩ := S.loc i _ hd'
    exact ⟨v, e1, q.here S r⟩
  · cases e
theorem snd_const {d : D} {v : V} {ex : Expr} (h : PE X ex (tC v)) (hd : ∀ H A, RD X.K H A d v) : PE X ex (rd X.K (evE P (.k d))) := by
  refine PEimp h fun σ H Q q => ?_
  obtain ⟨A, w, S, d', w', e, q⟩ := q
  cases e
  exact q.here S (hd H A)
theorem snd_glob (G : GX T P lv N sc top X) {i : Nat} {c : Str × D} {pos : Pos} (h : T.cons[i]? = some c) (hg : sc.names.lookup c.1 = some .globalImplicit) (hd : (c.1 == ("__debug__" : Str)) = false) : PE X (.Name c.1 pos) (rd X.K (evE P (.gl i))) := by
  obtain ⟨hC, u, v, hm, r, hv⟩ := G.cons i c h
  refine PEimp (pe_glob (by show X.env.kindOf c.1 = _; unfold Env.kindOf; rw [G.sco]; exact hg) hm r hd) fun σ H Q q => ?_
  obtain ⟨A, w, S, d', w', e, q⟩ := q
  simp only [evE, hC] at e
  cases e
  exact q.here S (hv H A)
theorem snd_op (G : GX T P lv N sc top X) {o : Op} {md : Nat} {a b : E} {x y : Expr} {pos : Pos} (ha : Snd X P a x) (hb : Snd X P b y) : PE X (.BinOp x (oper o) y pos) (rd X.K (evE P (.op o md a b))) :=
  PEimp (pe_op (op_sound o md) ha.pe hb.pe) (rd2 (k := opF o md) fun A w σ d e r' w' x y H Q S r1 r2 e1 q => ⟨A, w, σ, d, e, r', w', S, r1, r2, e1, q⟩)
theorem snd_neg (G : GX T P lv N sc top X) {a : E} {x : Expr} {pos : Pos} (ha : Snd X P a x) : PE X (.UnaryOp .USub x pos) (rd X.K (evE P (.neg a))) := by
  refine PEimp (pe_un un_neg ha.pe) fun σ H Q q => ?_
  obtain ⟨A, w, S, d, w', e1, q⟩ := q
  obtain ⟨x, ea, e1⟩ := bd_split e1
  refine ⟨A, w, S, x.1, x.2, ea, fun A1 v H1 s1 S1 r1 => ?_⟩
  obtain ⟨d1, w1⟩ := x
  cases d1 with
  | int i =>
    cases e1
    exact ⟨i, r1, (q.step s1).here S1 rfl⟩
  | _ => cases e1
theorem snd_not (G : GX T P lv N sc top X) {a : E} {x : Expr} {pos : Pos} (ha : Snd X P a x) : Snd X P (.no a) (.UnaryOp .Not x pos) := by
  refine ⟨PEimp (pe_notT ha.pe) fun σ H Q q => ?_, PTimp (pt_not ha.pt) fun σ H Q q => ?_, fun _ _ _ z => nomatch z⟩
  · obtain ⟨A, w, S, d, w', e1, q⟩ := q
    obtain ⟨x, ea, e1⟩ := bd_split e1
    obtain ⟨b, eb, e1⟩ := bd_split e1
    cases e1
    exact ⟨A, w, S, x.1, x.2, ea, fun A1 v H1 s1 S1 r1 => ⟨b, S1.tru (of_split eb) r1, (q.step s1).here S1 rfl⟩⟩
  · obtain ⟨A, w, S, c, w', e1, q⟩ := q
    obtain ⟨y, e2, e1⟩ := bd_split e1
    obtain ⟨c', e3, e1⟩ := bd_split e1
    obtain ⟨x, ea, e2⟩ := bd_split e2
    obtain ⟨b, eb, e2⟩ := bd_split e2
    cases e2
    cases e1
    have ec := of_split e3
    cases ec
    refine ⟨A, w, S, b, x.2, ?_, fun A' H' st S' => q A' H' st S'⟩
    show ((evE P a w).bd fun x => (R.of (x.2.tru x.1)).bd fun b => R.ok (b, x.2)) = _
    rw [ea, R.bd_ok, eb]
    rfl
/-- and, or: from two parts -/
theorem snd_and (G : GX T P lv N sc top X) {a b : E} {x y : Expr} {r : List Expr} {pos : Pos} (ha : Snd X P a x) (hb : PE X (.BoolOp .And (y :: r) pos) (rd X.K (evE P b))) (hw : PW X (.BoolOp .And (y :: r) pos) (rdT X.K (evT P b))) :
    Snd X P (.an a b) (.BoolOp .And (x :: y :: r) pos) := by
  have w1 : PW X (.BoolOp .And (x :: y :: r) pos) (rdT X.K (evT P (.an a b))) := by
    refine ⟨fun wh pins s σ H Q I q => (pw_and ha.pt hw).run wh pins s σ H Q I ?_⟩
    obtain ⟨A, w, S, c, w', e1, q⟩ := q
    obtain ⟨z, e2, e1⟩ := bd_split e1
    obtain ⟨c', e3, e1⟩ := bd_split e1
    cases e1
    obtain ⟨x, ea, e2⟩ := bd_split e2
    obtain ⟨b', eb, e2⟩ := bd_split e2
    refine ⟨A, w, S, b', x.2, ?_, fun A1 H1 s1 S1 => ?_⟩
    · show ((evE P a w).bd fun x => (R.of (x.2.tru x.1)).bd fun b => R.ok (b, x.2)) = _
      rw [ea, R.bd_ok, eb]
      rfl
    · cases b' with
      | false =>
        rw [if_neg Bool.false_ne_true] at e2 ⊢
        cases e2
        have e4 := (of_split eb).symm.trans (of_split e3)
        cases e4
        exact q A1 H1 s1 S1
      | true =>
        rw [if_pos rfl] at e2 ⊢
        refine ⟨A1, x.2, S1, c, z.2, ?_, fun A2 H2 s2 S2 => q A2 H2 (s1.trans s2) S2⟩
        show ((evE P b x.2).bd fun x => (R.of (x.2.tru x.1)).bd fun b => R.ok (b, x.2)) = _
        rw [e2, R.bd_ok, e3]
        rfl
  refine ⟨PEimp (pe_andT ha.pe hb) fun σ H Q q => ?_, w1.pt, fun _ _ _ _ => w1⟩
  obtain ⟨A, w, S, d, w', e1, q⟩ := q
  obtain ⟨x, ea, e1⟩ := bd_split e1
  obtain ⟨c, eb, e1⟩ := bd_split e1
  refine ⟨A, w, S, x.1, x.2, ea, fun A1 v H1 s1 S1 r1 => ⟨c, S1.tru (of_split eb) r1, ?_⟩⟩
  cases c with
  | true =>
    rw [if_pos rfl] at e1 ⊢
    exact ⟨A1, x.2, S1, d, w', e1, q.step s1⟩
  | false =>
    rw [if_neg Bool.false_ne_true] at e1 ⊢
    cases e1
    exact (q.step s1).here S1 r1
theorem snd_or (G : GX T P lv N sc top X) {a b : E} {x y : Expr} {r : List Expr} {pos : Pos} (ha : Snd X P a x) (hb : PE X (.BoolOp .Or (y :: r) pos) (rd X.K (evE P b))) (hw : PW X (.BoolOp .Or (y :: r) pos) (rdT X.K (evT P b))) :
    Snd X P (.or a b) (.BoolOp .Or (x :: y :: r) pos) := by
  have w1 : PW X (.BoolOp .Or (x :: y :: r) pos) (rdT X.K (evT P (.or a b))) := by
    refine ⟨fun wh pins s σ H Q I q => (pw_or ha.pt hw).run wh pins s σ H Q I ?_⟩
    obtain ⟨A, w, S, c, w', e1, q⟩ := q
    obtain ⟨z, e2, e1⟩ := bd_split e1
    obtain ⟨c', e3, e1⟩ := bd_split e1
    cases e1
    obtain ⟨x, ea, e2⟩ := bd_split e2
    obtain ⟨b', eb, e2⟩ := bd_split e2
    refine ⟨A, w, S, b', x.2, ?_, fun A1 H1 s1 S1 => ?_⟩
    · show ((evE P a w).bd fun x => (R.of (x.2.tru x.1)).bd fun b => R.ok (b, x.2)) = _
      rw [ea, R.bd_ok, eb]
      rfl
    · cases b' with
      | true =>
        rw [if_pos rfl] at e2 ⊢
        cases e2
        have e4 := (of_split eb).symm.trans (of_split e3)
        cases e4
        exact q A1 H1 s1 S1
      | false =>
        rw [if_neg Bool.false_ne_true] at e2 ⊢
        refine ⟨A1, x.2, S1, c, z.2, ?_, fun A2 H2 s2 S2 => q A2 H2 (s1.trans s2) S2⟩
        show ((evE P b x.2).bd fun x => (R.of (x.2.tru x.1)).bd fun b => R.ok (b, x.2)) = _
        rw [e2, R.bd_ok, e3]
        rfl
  refine ⟨PEimp (pe_orT ha.pe hb) fun σ H Q q => ?_, w1.pt, fun _ _ _ _ => w1⟩
  obtain ⟨A, w, S, d, w', e1, q⟩ := q
  obtain ⟨x, ea, e1⟩ := bd_split e1
  obtain ⟨c, eb, e1⟩ := bd_split e1
  refine ⟨A, w, S, x.1, x.2, ea, fun A1 v H1 s1 S1 r1 => ⟨c, S1.tru (of_split eb) r1, ?_⟩⟩
  cases c with
  | false =>
    rw [if_neg Bool.false_ne_true] at e1 ⊢
    exact ⟨A1, x.2, S1, d, w', e1, q.step s1⟩
  | true =>
    rw [if_pos rfl] at e1 ⊢
    cases e1
    exact (q.step s1).here S1 r1
theorem snd_one {b : E} {y : Expr} {pos : Pos} (op : BoolOp) (h : Snd X P b y) : PE X (.BoolOp op [y] pos) (rd X.K (evE P b)) ∧ PW X (.BoolOp op [y] pos) (rdT X.K (evT P b)) := by
  refine ⟨pe_one h.pe, ?_⟩
  cases op with
  | And => exact pw_and1 h.pt
  | Or => exact pw_or1 h.pt
/-- a comparison as a test -/
theorem Snd.cmp {e : E} {ex : Expr} {t : TE} (h : PE X ex t) (h2 : PT X ex (tTest t)) (i : ∀ σ H Q, rd X.K (evE P e) σ H Q → t σ H Q) (hb : ∀ w d w', evE P e w = .ok (d, w') → ∃ b, d = .bl b) (hx : ∀ op vs pos, ex ≠ .BoolOp op vs pos) : Snd X P e ex := by
  refine ⟨PEimp h i, PTimp h2 fun σ H Q q => i σ H _ ?_, fun op vs pos z => absurd z (hx op vs pos)⟩
  obtain ⟨A, w, S, c, w', e1, q⟩ := q
  obtain ⟨x, ea, e1⟩ := bd_split e1
  obtain ⟨b', eb, e1⟩ := bd_split e1
  cases e1
  obtain ⟨b, hd⟩ := hb w x.1 x.2 ea
  refine ⟨A, w, S, x.1, x.2, ea, fun A1 v H1 s1 S1 r1 => ?_⟩
  rw [hd] at r1 eb
  have e4 := of_split eb
  cases e4
  exact ⟨c, r1, q A1 H1 s1 S1⟩
theorem snd_cm (G : GX T P lv N sc top X) {c : Cm} {a b : E} {x y : Expr} {pos : Pos} (ha : Snd X P a x) (hb : Snd X P b y) (hy : okX y = true) : Snd X P (.cm c a b) (.Compare x [cmOp c] [y] pos) := by
  refine Snd.cmp (pe_cmpR (cm_sound c G.hu65) ha.pe hb.pe (behind_ok hy)) (pt_cmpR (cm_sound c G.hu65) ha.pe hb.pe (behind_ok hy)) (fun σ H Q q => ?_) (fun w d w' e => ?_) fun _ _ _ z => nomatch z
  · refine rd2 (k := fun d e w => (R.of (cmF c d e w)).bd fun r => .ok (.bl r, w)) (fun A w σ d e r' w' x y H Q S r1 r2 e1 q => ?_) σ H Q q
    obtain ⟨r, e2, e1⟩ := bd_split e1
    cases e1
    exact ⟨A, w, σ, d, e, r, S, r1, r2, of_split e2, q.here S rfl⟩
  · obtain ⟨x, ea, e⟩ := bd_split e
    obtain ⟨y, eb, e⟩ := bd_split e
    obtain ⟨r, ec, e⟩ := bd_split e
    cases e
    exact ⟨r, rfl⟩
theorem snd_ch (G : GX T P lv N sc top X) {c c2 : Cm} {a b d : E} {x y z : Expr} {pos : Pos} (ha : Snd X P a x) (hb : Snd X P b y) (hd : Snd X P d z) (hy : okX y = true) (hz : okX z = true) :
    Snd X P (.ch a c b c2 d) (.Compare x [cmOp c, cmOp c2] [y, z] pos) := by
  have hm : lastMarks [cmOp c, cmOp c2] [y, z] = false := behind_ok hz
  refine Snd.cmp (pe_chain (cm_sound c G.hu65) (cm_sound c2 G.hu65) ha.pe hb.pe hd.pe hm) (pt_chain (cm_sound c G.hu65) (cm_sound c2 G.hu65) ha.pe hb.pe hd.pe hm) (fun σ H Q q => ?_) (fun w d w' e => ?_) fun _ _ _ z => nomatch z
  · obtain ⟨A, w, S, r, w', e1, q⟩ := q
    obtain ⟨x, ea, e1⟩ := bd_split e1
    obtain ⟨y, eb, e1⟩ := bd_split e1
    obtain ⟨k, ec, e1⟩ := bd_split e1
    refine ⟨A, w, S, x.1, x.2, ea, fun A1 v H1 s1 S1 r1 => ⟨A1, x.2, S1, y.1, y.2, eb, fun A2 u H2 s2 S2 r2 => ⟨A2, y.2, σ, x.1, y.1, k, S2, r1.step s2.toCar, r2, of_split ec, k, rfl, ?_⟩⟩⟩
    cases k with
    | true =>
      rw [if_pos rfl] at e1 ⊢
      obtain ⟨z, ed, e1⟩ := bd_split e1
      obtain ⟨k2, ef, e1⟩ := bd_split e1
      cases e1
      refine ⟨A2, y.2, S2, z.1, z.2, ed, fun A3 t H3 s3 S3 r3 => ⟨A3, z.2, σ, y.1, z.1, k2, S3, r2.step s3.toCar, r3, of_split ef, ?_⟩⟩
      exact (q.step ((s1.trans s2).trans s3)).here S3 rfl
    | false =>
      rw [if_neg Bool.false_ne_true] at e1 ⊢
      cases e1
      exact (q.step (s1.trans s2)).here S2 rfl
  · obtain ⟨x, ea, e⟩ := bd_split e
    obtain ⟨y, eb, e⟩ := bd_split e
    obtain ⟨k, ec, e⟩ := bd_split e
    cases k with
    | true =>
      rw [if_pos rfl] at e
      obtain ⟨z, ed, e⟩ := bd_split e
      obtain ⟨k2, ef, e⟩ := bd_split e
      cases e
      exact ⟨k2, rfl⟩
    | false =>
      rw [if_neg Bool.false_ne_true] at e
      cases e
      exact ⟨false, rfl⟩
theorem evT_of {e : E} {w : Wd} {d : D} {w' : Wd} {b : Bool} (e1 : evE P e w = .ok (d, w')) (e2 : w'.tru d = some b) : evT P e w = .ok (b, w') := by
  show ((evE P e w).bd fun x => (R.of (x.2.tru x.1)).bd fun b => R.ok (b, x.2)) = _
  rw [e1, R.bd_ok, e2]
  rfl
theorem snd_ite (G : GX T P lv N sc top X) {c a b : E} {x y z : Expr} {pos : Pos} (hc : Snd X P c x) (ha : Snd X P a y) (hb : Snd X P b z) : Snd X P (.ite c a b) (.IfExp x y z pos) := by
  refine ⟨PEimp (pe_ifExp hc.pt ha.pe hb.pe) fun σ H Q q => ?_, ⟨fun pins s σ H Q I q => isTrue_IfExp ?_⟩, fun _ _ _ z => nomatch z⟩
  · obtain ⟨A, w, S, r, w', e1, q⟩ := q
    obtain ⟨x, ea, e1⟩ := bd_split e1
    obtain ⟨k, eb, e1⟩ := bd_split e1
    refine ⟨A, w, S, k, x.2, evT_of ea (of_split eb), fun A1 H1 s1 S1 => ?_⟩
    cases k with
    | true =>
      rw [if_pos rfl] at e1 ⊢
      exact ⟨A1, x.2, S1, r, w', e1, q.step s1⟩
    | false =>
      rw [if_neg Bool.false_ne_true] at e1 ⊢
      exact ⟨A1, x.2, S1, r, w', e1, q.step s1⟩
  · obtain ⟨A, w, S, r, w', e1, q⟩ := q
    obtain ⟨t, e2, e1⟩ := bd_split e1
    obtain ⟨k', e3, e1⟩ := bd_split e1
    cases e1
    obtain ⟨x, ea, e2⟩ := bd_split e2
    obtain ⟨k, eb, e2⟩ := bd_split e2
    refine thn (hc.pt.run pins s σ H (fun k H1 => if k = true then rdT X.K (evT P a) σ H1 Q else rdT X.K (evT P b) σ H1 Q) I ⟨A, w, S, k, x.2, evT_of ea (of_split eb), fun A1 H1 s1 S1 => ?_⟩) fun b s1 ⟨H1, I1, q1⟩ => ?_
    · cases k with
      | true =>
        rw [if_pos rfl] at e2 ⊢
        exact ⟨A1, x.2, S1, r, t.2, evT_of e2 (of_split e3), fun A2 H2 s2 S2 => q A2 H2 (s1.trans s2) S2⟩
      | false =>
        rw [if_neg Bool.false_ne_true] at e2 ⊢
        exact ⟨A1, x.2, S1, r, t.2, evT_of e2 (of_split e3), fun A2 H2 s2 S2 => q A2 H2 (s1.trans s2) S2⟩
    · cases b with
      | true => exact ha.pt.run pins s1 σ H1 Q I1 q1
      | false => exact hb.pt.run pins s1 σ H1 Q I1 q1
theorem snd_nil : PA X [] (rdA X.K (evEs P .nil)) := by
  refine PAimp pa_nil fun σ H Q q => ?_
  obtain ⟨A, w, S, ds, w', e, q⟩ := q
  cases e
  exact q A [] H (Step.refl A H) S rfl
theorem rdCons {fa : Wd → R (D × Wd)} {fb : Wd → R (List D × Wd)} (σ : Sl) (H : Hp) (Q : List V → Hp → Prop) (q : rdA X.K (fun w => (fa w).bd fun x => (fb x.2).bd fun y => .ok (x.1 :: y.1, y.2)) σ H Q) : tCons (rd X.K fa) (rdA X.K fb) σ H Q := by
  obtain ⟨A, w, S, ds, w', e1, q⟩ := q
  obtain ⟨x, ea, e1⟩ := bd_split e1
  obtain ⟨y, eb, e1⟩ := bd_split e1
  cases e1
  refine ⟨A, w, S, x.1, x.2, ea, fun A1 v H1 s1 S1 r1 => ⟨A1, x.2, S1, y.1, y.2, eb, fun A2 vs H2 s2 S2 r2 => ?_⟩⟩
  exact q A2 (v :: vs) H2 (s1.trans s2) S2 ⟨v, vs, rfl, r1.step s2.toCar, r2⟩
theorem snd_cons {e : E} {r : Es} {x : Expr} {xs : List Expr} (he : PE X x (rd X.K (evE P e))) (hr : PA X xs (rdA X.K (evEs P r))) (hx : okX x = true) : PA X (x :: xs) (rdA X.K (evEs P (.cons e r))) :=
  PAimp (pa_cons he hr (starEach_cons hx)) rdCons
theorem snd_tup {es : Es} {xs : List Expr} {k : Nat} {pos : Pos} (h : PA X xs (rdA X.K (evEs P es))) : PE X (.Tuple xs k pos) (rd X.K (evE P (.tup es))) := by
  refine PEimp (pe_tup h) fun σ H Q q => ?_
  obtain ⟨A, w, S, d, w', e1, q⟩ := q
  obtain ⟨x, ea, e1⟩ := bd_split e1
  exact ⟨A, w, S, x.1, x.2, ea, fun A1 vs H1 s1 S1 r1 => Aft.newT e1 S1 r1 (q.step s1)⟩
theorem snd_lst {es : Es} {xs : List Expr} {md : Nat} {pos : Pos} (h : PA X xs (rdA X.K (evEs P es))) : PE X (.List xs pos) (rd X.K (evE P (.lst md es))) := by
  refine PEimp (pe_lst h) fun σ H Q q => ?_
  obtain ⟨A, w, S, d, w', e1, q⟩ := q
  obtain ⟨x, ea, e1⟩ := bd_split e1
  exact ⟨A, w, S, x.1, x.2, ea, fun A1 vs H1 s1 S1 r1 => Aft.newL e1 S1 r1 (q.step s1)⟩
/-- an index, by values -/
def rIxD (K : PySem.W.Frag) : R2 := fun x y H Q => ∃ p xs i v, x = .ref p ∧ y = .int i ∧ (SqL K H p xs ∨ SqT K H p xs) ∧ atI xs i = some v ∧ Q v H
/-- .. of a dict -/
def rIxK : R2 := fun x y H Q => ∃ p kvs k v, x = .ref p ∧ y = .str k ∧ H p = some (.dK kvs) ∧ valV kvs (.inr k) = some v ∧ Q v H
theorem ix_dK (hu : X.A.units + 1 < cLine) : IxR X rIxK := by
  intro value slice pins s σ H x y v u Q I rx ry h hs
  obtain ⟨p, kvs, k, r, rfl, rfl, e, l, q⟩ := h
  obtain rfl : v = Value.ref p := rx
  have g : DGet H p (.str k) (some r) := by
    have := DGet.k (k := .inr k) e
    rw [l] at this
    exact this
  refine tail_any (dict_typeIs I g) PySem.F.slot_dict_getitem.lookup (d_getItem hu I g ry fun w' s' I' rw' => ?_) hs
  exact ⟨r, H, I', rw', q⟩
theorem ix_any : IxR X (rIxD X.K) := by
  intro value slice pins s σ H x y v u Q I rx ry h hs
  obtain ⟨p, xs, i, z, e1, e2, hq, he, q⟩ := h
  rcases hq with hq | hq
  · exact ix_list value slice pins s σ H x y v u Q I rx ry ⟨p, xs, i, z, e1, e2, hq, he, q⟩ hs
  · exact ix_tup value slice pins s σ H x y v u Q I rx ry ⟨p, xs, i, z, e1, e2, hq, he, q⟩ hs
theorem snd_ix {a i : E} {x y : Expr} {pos : Pos} (hu : X.A.units + 1 < cLine) (ha : Snd X P a x) (hi : Snd X P i y) (hy : okX y = true) : PE X (.Subscript x y pos) (rd X.K (evE P (.ix a i))) := by
  refine PEimp (pe_ix (ix_any.or (ix_dK hu)) ha.pe hi.pe (plainIx_ok hy)) (rd2 (k := fun d e w => match e with
    | .int k => (R.of (w.seq d)).bd fun xs => (R.of ((ixI xs.length k).bind fun j => xs[j]?)).bd fun d => .ok (d, w)
    | .str k => (R.of (dicL d k)).bd fun d => .ok (d, w)
    | _ => .err) fun A w σ d e r' w' x y H Q S r1 r2 e1 q => ?_)
  cases e with
  | int k =>
    obtain ⟨xs, ea, e1⟩ := bd_split e1
    obtain ⟨d', eb, e1⟩ := bd_split e1
    cases e1
    obtain ⟨a, vs, rfl, rs, hq⟩ := S.seq r1 (of_split ea)
    obtain ⟨j, e3, e4⟩ := Option.bind_eq_some_iff.mp (of_split eb)
    obtain ⟨v, hv, rv⟩ := rs.get e4
    refine .inl ⟨a, vs, k, v, rfl, r2, ?_, ?_, q.here S rv⟩
    · rcases hq with ⟨_, hq⟩ | ⟨_, hq⟩
      · exact .inr hq
      · exact .inl hq
    · show (ixN vs.length k).bind (fun j => vs[j]?) = some v
      rw [rs.length]
      exact Option.bind_eq_some_iff.mpr ⟨j, e3, hv⟩
  | str k =>
    obtain ⟨d', eb, e1⟩ := bd_split e1
    cases e1
    have eb := of_split eb
    cases d with
    | dic ks ds =>
      obtain ⟨a, kvs, rfl, q1, _, _, z, r⟩ := r1
      obtain ⟨v, e2, rv⟩ := lkp_at z.2.2 r eb
      exact .inr ⟨a, kvs, k, v, rfl, r2, q1, e2, q.here S rv⟩
    | _ => cases eb
  | _ => cases e1
/-- a part of a slice -/
def rdO (K : PySem.W.Frag) (f : Wd → R (Option Int × Wd)) : TO := fun σ H Q => ∃ A w, Sim K H A w σ ∧ ∃ o w', f w = .ok (o, w') ∧ ∀ A' H', Step A H A' H' → Sim K H' A' w' σ → Q o H'
theorem POimp {e : Option Expr} {t t' : TO} (h : PO X e t) (i : ∀ σ H Q, t' σ H Q → t σ H Q) : PO X e t' := ⟨fun pins s σ H Q I q => h.run pins s σ H Q I (i σ H Q q)⟩
theorem snd_ono : PO X none (rdO X.K (evO P .no)) := by
  refine POimp po_none fun σ H Q q => ?_
  obtain ⟨A, w, S, o, w', e1, q⟩ := q
  cases e1
  exact q A H (Step.refl A H) S
theorem snd_oso {e : E} {x : Expr} (h : PE X x (rd X.K (evE P e))) : PO X (some x) (rdO X.K (evO P (.so e))) := by
  refine POimp (po_some h) fun σ H Q q => ?_
  obtain ⟨A, w, S, o, w', e1, q⟩ := q
  obtain ⟨x, ea, e1⟩ := bd_split e1
  refine ⟨A, w, S, x.1, x.2, ea, fun A1 v H1 s1 S1 r1 => ?_⟩
  obtain ⟨d1, w1⟩ := x
  cases d1 with
  | int i =>
    cases e1
    exact ⟨i, r1, q A1 H1 s1 S1⟩
  | _ => cases e1
theorem snd_sl {md : Nat} {a : E} {lo hi : Oe} {x : Expr} {xl xh : Option Expr} {p2 pos : Pos} (ha : PE X x (rd X.K (evE P a))) (hl : PO X xl (rdO X.K (evO P lo))) (hh : PO X xh (rdO X.K (evO P hi))) :
    PE X (.Subscript x (.Slice xl xh none p2) pos) (rd X.K (evE P (.sl md a lo hi))) := by
  refine PEimp (pe_slice (sl_list.or sl_tupA) ha hl hh) fun σ H Q q => ?_
  obtain ⟨A, w, S, d, w', e1, q⟩ := q
  obtain ⟨x, ea, e1⟩ := bd_split e1
  obtain ⟨l, el, e1⟩ := bd_split e1
  obtain ⟨h, eh, e1⟩ := bd_split e1
  obtain ⟨xs, ex, e1⟩ := bd_split e1
  refine ⟨A, w, S, x.1, x.2, ea, fun A1 v H1 s1 S1 r1 => ⟨A1, x.2, S1, l.1, l.2, el, fun A2 H2 s2 S2 => ⟨A2, l.2, S2, h.1, h.2, eh, fun A3 H3 s3 S3 => ?_⟩⟩⟩
  have r3 := (r1.step s2.toCar).step s3.toCar
  obtain ⟨a, vs, rfl, rs, hq⟩ := S3.seq r3 (of_split ex)
  have q3 := q.step ((s1.trans s2).trans s3)
  rcases hq with ⟨ht, hq⟩ | ⟨ht, hq⟩
  · rw [ht, if_pos rfl] at e1
    obtain ⟨_, qn⟩ := Aft.newT e1 S3 (rs.cutD l.1 h.1) q3
    obtain ⟨rfl, rfl, _⟩ := newT_ok e1 (rs.cutD l.1 h.1)
    refine .inr ⟨a, vs, rfl, hq, fun z => q3.here S3 ⟨a, vs, rfl, hq, ?_⟩, fun _ => qn⟩
    have e : cut xs l.1 h.1 = xs := by
      unfold cut
      rw [← rs.length, z.1, z.2, List.drop_zero, Nat.sub_zero, rs.length, List.take_length]
    rw [e]
    exact rs
  · rw [ht, if_neg Bool.false_ne_true] at e1
    obtain ⟨_, qn⟩ := Aft.newL e1 S3 (rs.cutD l.1 h.1) q3
    exact .inl ⟨a, vs, rfl, hq, qn⟩
theorem snd_rev {md : Nat} {a : E} {x : Expr} {k : Nat} {p1 p2 p3 pos : Pos} (ha : PE X x (rd X.K (evE P a))) : PE X (.Subscript x (.Slice none none (some (.UnaryOp .USub (.Constant (.int 1) k p1) p2)) p3) pos) (rd X.K (evE P (.rev md a))) := by
  refine PEimp (pe_revA ha) fun σ H Q q => ?_
  obtain ⟨A, w, S, d, w', e1, q⟩ := q
  obtain ⟨x, ea, e1⟩ := bd_split e1
  obtain ⟨xs, ex, e1⟩ := bd_split e1
  refine ⟨A, w, S, x.1, x.2, ea, fun A1 v H1 s1 S1 r1 => ?_⟩
  obtain ⟨a, vs, rfl, rs, hq⟩ := S1.seq r1 (of_split ex)
  rcases hq with ⟨ht, hq⟩ | ⟨ht, hq⟩
  · rw [ht, if_pos rfl] at e1
    obtain ⟨_, qn⟩ := Aft.newT e1 S1 rs.reverse (q.step s1)
    exact ⟨a, vs, rfl, .inr ⟨hq, qn⟩⟩
  · rw [ht, if_neg Bool.false_ne_true] at e1
    obtain ⟨_, qn⟩ := Aft.newL e1 S1 rs.reverse (q.step s1)
    exact ⟨a, vs, rfl, .inl ⟨hq, qn⟩⟩
theorem bi_boot (b : Bi) : bootBuiltins (biName b) = some (biV b) ∧ (biName b ≠ "__name__") ∧ (biName b == ("__debug__" : Str)) = false := by
  cases b <;> exact ⟨by decide +kernel, by decide, by decide⟩
theorem snd_bi (G : GX T P lv N sc top X) {b : Bi} {md : Nat} {es : Es} {x : Expr} {xs : List Expr} {p pos : Pos} (h : PA X (x :: xs) (rdA X.K (evEs P es))) (hg : sc.names.lookup (biName b) = some .globalImplicit) (hf : biName b ∈ T.free) (hx : (x :: xs).all okX = true) :
    PE X (.Call (.Name (biName b) p) (x :: xs) [] pos) (rd X.K (evE P (.bi b md es))) := by
  have hs := bi_sound (X := X) b md G.calm G.dig G.gd G.hu
  obtain ⟨b1, b2, b3⟩ := bi_boot b
  have gl : Gl X (biName b) := by show X.env.kindOf _ = _; unfold Env.kindOf; rw [G.sco]; exact hg
  have key : ∀ σ H Q, rd X.K (evE P (.bi b md es)) σ H Q → tCB (rBi X.K b md) (rdA X.K (evEs P es)) σ H Q := fun σ H Q q => by
    obtain ⟨A, w, S, d, w', e1, q⟩ := q
    obtain ⟨y, ea, e1⟩ := bd_split e1
    exact ⟨A, w, S, y.1, y.2, ea, fun A1 vs H1 s1 S1 r1 => ⟨A1, y.2, σ, y.1, d, w', S1, r1, e1, q.step s1⟩⟩
  obtain ⟨o1, o2⟩ := Bool.and_eq_true_iff.mp (show (okX x && xs.all okX) = true from hx)
  unfold biV at hs b1
  by_cases ht : biTy b = true
  · rw [if_pos ht] at hs b1
    exact PEimp (pe_callTy hs gl (G.free _ hf) b1 h b2 b3 (starEach_cons o1) (noStars o2)) key
  · rw [if_neg ht] at hs b1
    exact PEimp (pe_callB hs gl (G.free _ hf) b1 h b2 b3 (starEach_cons o1) (noStars o2)) key
end
end Fz

/-! Q11b: a dict's display. -/
namespace Fz
open PySem PySem.Spec PyProof.Rows L2
section
variable {K : PySem.W.Frag} {H H' : Hp} {A : Ad} {p : Addr} {w : Wd} {σ : Sl}
theorem SqT.fill {a : Addr} {vs : List V} (k : ∀ a o, a ≠ p → H a = some o → H' a = some o) (e : H p = some (.dK [])) (h : SqT K H a vs) : SqT K H' a vs := by
  rcases h with (h | ⟨o, h⟩) | h
  · exact .inl (.inl (k _ _ (fun z => by subst z; rw [e] at h; cases h) h))
  · exact .inl (.inr ⟨o, k _ _ (fun z => by subst z; rw [e] at h; cases h) h⟩)
  · exact .inr h
theorem SqF.fill {a : Addr} {vs : List V} (k : ∀ a o, a ≠ p → H a = some o → H' a = some o) (e : H p = some (.dK [])) (h : SqF K H a vs) : SqF K H' a vs := by
  rcases h with ⟨o, h⟩ | h
  · exact .inl ⟨o, k _ _ (fun z => by subst z; rw [e] at h; cases h) h⟩
  · exact .inr h
mutual
theorem RD.fill (k : ∀ a o, a ≠ p → H a = some o → H' a = some o) (e : H p = some (.dK [])) : ∀ (d : D) (v : V), RD K H A d v → RD K H' A d v
  | .non, _, h => h
  | .bl _, _, h => h
  | .int _, _, h => h
  | .str _, _, h => h
  | .tup ds, _, h => by
    obtain ⟨a, vs, e1, q, r⟩ := h
    exact ⟨a, vs, e1, SqT.fill k e q, RDs.fill k e ds vs r⟩
  | .lst ds, _, h => by
    obtain ⟨a, vs, e1, q, x, z, r⟩ := h
    exact ⟨a, vs, e1, k _ _ (fun z => by subst z; rw [e] at q; cases q) q, x, z, RDs.fill k e ds vs r⟩
  | .fl ds, _, h => by
    obtain ⟨a, vs, e1, q, x, r⟩ := h
    exact ⟨a, vs, e1, k _ _ (fun z => by subst z; rw [e] at q; cases q) q, x, RDs.fill k e ds vs r⟩
  | .sc ds, _, h => by
    obtain ⟨a, vs, e1, q, r⟩ := h
    exact ⟨a, vs, e1, SqF.fill k e q, RDs.fill k e ds vs r⟩
  | .ref _, _, h => h
  | .g _, _, h => h
  | .dic ks ds, _, h => by
    obtain ⟨a, kvs, e1, q, x, z, y, r⟩ := h
    refine ⟨a, kvs, e1, k _ _ (fun z => ?_) q, x, z, y, RDs.fill k e ds _ r⟩
    subst z
    rw [e] at q
    cases q
    exact y.1 (List.map_eq_nil_iff.mp y.2.2.symm)
theorem RDs.fill (k : ∀ a o, a ≠ p → H a = some o → H' a = some o) (e : H p = some (.dK [])) : ∀ (ds : List D) (vs : List V), RDs K H A ds vs → RDs K H' A ds vs
  | [], _, h => h
  | d :: ds, _, h => by
    obtain ⟨v, r, e1, x, y⟩ := h
    exact ⟨v, r, e1, RD.fill k e d v x, RDs.fill k e ds r y⟩
end
theorem Sim.fill (S : Sim K H A w σ) (k : ∀ a o, a ≠ p → H a = some o → H' a = some o) (e : H p = some (.dK [])) (hp : ∃ o, H' p = some o) (hm : p ∉ A.mu ∧ p ∉ A.ga) : Sim K H' A w σ where
  loc := fun i d q => let ⟨v, e1, r⟩ := S.loc i d q; ⟨v, e1, RD.fill k e d v r⟩
  len := S.len
  mu := RL.carry (fun xs vs h => RDs.fill k e xs vs h) (fun a ha o h => k a _ (fun z => hm.1 (z ▸ ha)) h) S.mu
  ga := RL.carry (fun xs vs h => RDs.fill k e xs vs h) (fun a ha o h => k a _ (fun z => hm.2 (z ▸ ha)) h) S.ga
  nd := S.nd
  ndg := S.ndg
  dj := S.dj
  djg := S.djg
  bt := fun a h => let ⟨o, q⟩ := S.bt a h; if z : a = p then z ▸ hp else ⟨o, k a o z q⟩
  cnt := fun a h => let ⟨vs, q⟩ := S.cnt a h; ⟨vs, k a _ (fun z => by subst z; rw [e] at q; cases q) q⟩
  cnd := S.cnd
  gk := S.gk
end
section
variable {X : Cx} {P : Pg}
/-- the keys, constants; the items' rules -/
inductive PrOk (X : Cx) (P : Pg) : List Str → Es → List (Option Expr) → List Expr → Prop where
  | nil : PrOk X P [] .nil [] []
  | cons {k : Str} {ks : List Str} {e : E} {es : Es} {j} {kp : Pos} {x : Expr} {keys : List (Option Expr)} {vals : List Expr} (h : PE X x (rd X.K (evE P e))) (r : PrOk X P ks es keys vals) : PrOk X P (k :: ks) (.cons e es) (some (.Constant (.str k) j kp) :: keys) (x :: vals)
theorem PrOk.run {pos : Pos} {ks : List Str} {es : Es} {keys : List (Option Expr)} {vals : List Expr} (h : PrOk X P ks es keys vals) : keys.all (·.isSome) = true ∧ keys.length = vals.length ∧ keys.length = ks.length ∧ ∃ trs, PPs X pos keys vals trs ∧
    ∀ σ H Q A w ds w', Sim X.K H A w σ → evEs P es w = .ok (ds, w') → (∀ A' vs H', Step A H A' H' → Sim X.K H' A' w' σ → RDs X.K H' A' ds vs → vs.length = ks.length → Q ((ks.map V.str).zip vs) H') → tPairs trs σ H Q := by
  induction h with
  | nil =>
    refine ⟨rfl, rfl, rfl, [], pps_nil, fun σ H Q A w ds w' S e q => ?_⟩
    cases e
    exact q A [] H (Step.refl A H) S rfl rfl
  | @cons k ks e es j kp x keys vals h r ih =>
    obtain ⟨i1, i2, i3, trs, ip, it⟩ := ih
    refine ⟨by simpa using i1, by simp [i2], by simp [i3], _, pps_cons pe_str h ip, fun σ H Q A w ds w' S ev q => ?_⟩
    obtain ⟨a, ea, ev⟩ := bd_split (show ((evE P e w).bd fun x => (evEs P es x.2).bd fun y => R.ok (x.1 :: y.1, y.2)) = .ok (ds, w') from ev)
    obtain ⟨b, eb, ev⟩ := bd_split ev
    cases ev
    show rd X.K (evE P e) σ H _
    refine ⟨A, w, S, a.1, a.2, ea, fun A1 v H1 s1 S1 r1 => it σ H1 _ A1 a.2 b.1 b.2 S1 eb fun A2 vs H2 s2 S2 r2 hl => ?_⟩
    exact q A2 (v :: vs) H2 (s1.trans s2) S2 (RDs.cons_iff.mpr ⟨r1.step s2.toCar, r2⟩) (by simp [hl])
theorem snd_dis {ks : List Str} {es : Es} {keys : List (Option Expr)} {vals : List Expr} {pos : Pos} (h : PrOk X P ks es keys vals) (h0 : keys ≠ []) (h15 : keys.length ≤ 15) : PE X (.Dict keys vals pos) (rd X.K (evE P (.dis ks es))) := by
  obtain ⟨i1, i2, i3, trs, ip, it⟩ := h.run (pos := pos)
  refine PEimp (pe_disp ip i1 i2 h0 h15) fun σ H Q q => ?_
  obtain ⟨A, w, S, d, w', e1, q⟩ := q
  obtain ⟨x, ea, e1⟩ := bd_split (show ((evEs P es w).bd fun x => if ks.Nodup ∧ ks ≠ [] ∧ ks.length ≤ 15 ∧ ks.length = x.1.length then R.ok (.dic ks x.1, x.2) else R.err) = .ok (d, w') from e1)
  split at e1
  case isFalse => cases e1
  rename_i hk
  cases e1
  intro p hp
  obtain ⟨⟨f1, f2, f4⟩, f3⟩ := S.fresh hp
  refine it σ (upd H p (.dK [])) _ A w x.1 x.2 (S.new hp) ea fun A1 vs H1 s1 S1 r1 hl => ?_
  obtain ⟨e2, o2⟩ := s1.kept p (.dK []) upd_same ⟨f1, f2, f4⟩
  have hz : (((ks.map Sum.inr).zip vs : List (Key × V)).map Prod.fst) = ks.map Sum.inr := List.map_fst_zip (by simp [hl])
  have hz2 : (((ks.map Sum.inr).zip vs : List (Key × V)).map Prod.snd) = vs := List.map_snd_zip (by simp [hl])
  refine ⟨e2, (ks.map Sum.inr).zip vs, ?_, ?_, ?_⟩
  · have hkv : ∀ (ks : List Str) (vs : List V), (ks.map V.str).zip vs = ((ks.map Sum.inr).zip vs : List (Key × V)).map (fun kv => (kV kv.1, kv.2)) := by
      intro ks
      induction ks with
      | nil => intro vs; rfl
      | cons k ks ih =>
        intro vs
        cases vs with
        | nil => rfl
        | cons v vs => simp only [List.map_cons, List.zip_cons_cons, ih vs]; rfl
    exact hkv ks vs
  · simp [hl]; omega
  · have hnd : (((ks.map Sum.inr).zip vs : List (Key × V)).map Prod.fst).Nodup := by
      rw [hz]
      exact List.nodup_iff_pairwise_ne.mpr (List.pairwise_map.mpr ((List.nodup_iff_pairwise_ne.mp hk.1).imp fun h z => h (Sum.inr.inj z)))
    rw [mergeK_nil hnd]
    generalize hkvs : (ks.map Sum.inr).zip vs = kvs at hz hz2 hnd
    have kk : ∀ a o, a ≠ p → H1 a = some o → upd H1 p (.dK kvs) a = some o := fun a o n e => by rw [upd_ne n]; exact e
    have hne : ∀ {a : Addr} {o : HO}, H a = some o → a ≠ p := fun {a o} e z => by subst z; rw [hp] at e; cases e
    refine q A1 (.ref p) (upd H1 p (.dK kvs)) ⟨⟨fun a o e x => ?_, fun a vs e => ?_, fun a o u e => ?_, s1.mu, s1.ga, s1.bad⟩, s1.cn, fun a ha => ?_⟩ (S1.fill kk e2 ⟨_, upd_same⟩ ⟨o2.1, o2.2.1⟩) ?_
    · obtain ⟨y1, y2⟩ := s1.kept a o (upd_some hp e) x
      exact ⟨kk a o (hne e) y1, y2⟩
    · exact kk a _ (hne e) (s1.tup a vs (upd_some hp e))
    · exact kk a _ (hne e) (s1.frz a o u (upd_some hp e))
    · have hap : a ≠ p := fun z => f4 (z ▸ ha)
      rw [upd_ne hap, s1.cnk a ha, upd_ne hap]
    · refine ⟨p, kvs, rfl, upd_same, o2, by rw [s1.bad]; exact f3, ⟨hk.2.1, hk.1, hz⟩, ?_⟩
      rw [hz2]
      exact RDs.fill kk e2 x.1 vs r1
end
end Fz

/-! Q12: calls, methods, comprehensions; the checker of expressions and what it gives. -/
namespace Fz
open PySem PySem.Spec PyProof.Rows L2

/-- the receiver of a method -/
def okA : Expr → Bool
  | .Call (.Name _ _) [] [] _ => false
  | _ => true
theorem attr_ok {o : Expr} {n : Str} {env : Env} {w : Sem Value} (h : okA o = true) : attributeBase o n env w = w := by
  unfold attributeBase
  split
  · rename_i h2
    first
      | cases h
      | (subst h2; cases h)
      | (simp [okA] at h)
  · rfl
def kwN : List Keyword → Option (List Str)
  | [] => some []
  | ⟨some x, _, _⟩ :: r => (kwN r).map fun xs => x :: xs
  | ⟨none, _, _⟩ :: _ => none
theorem kwN_ok {pos : Pos} {env : Env} : ∀ {kws : List Keyword} {ks : List Str}, kwN kws = some ks → (backToKw pos (keywordEach kws env)).all (·.1.isSome) = true ∧ (backToKw pos (keywordEach kws env)).filterMap (·.1) = ks ∧ (backToKw pos (keywordEach kws env)).any (·.1.isNone) = false ∧ kws.length = ks.length
  | [], _, e => by cases e; exact ⟨rfl, rfl, rfl, rfl⟩
  | ⟨some x, v, p⟩ :: r, _, e => by
    obtain ⟨xs, e1, rfl⟩ := Option.map_eq_some_iff.mp (show (kwN r).map (fun xs => x :: xs) = some _ from e)
    obtain ⟨h1, h2, h3, h4⟩ := kwN_ok (pos := pos) (env := env) e1
    refine ⟨h1, ?_, h3, by rw [List.length_cons, List.length_cons, h4]⟩
    show x :: (backToKw pos (keywordEach r env)).filterMap (·.1) = x :: xs
    rw [h2]
  | ⟨none, _, _⟩ :: _, _, e => nomatch e
section
variable {T : Tb} {P : Pg} {lv : Nat} {N : List Str} {sc : Scope} {top : Option Scope} {X : Cx}
theorem PKimp {e : List Keyword} {t t' : TA} (h : PK X e t) (i : ∀ σ H Q, t' σ H Q → t σ H Q) : PK X e t' := ⟨fun pos pins s σ H Q I q => h.run pos pins s σ H Q I (i σ H Q q)⟩
theorem snd_knil : PK X [] (rdA X.K (evEs P .nil)) := by
  refine PKimp pk_nil fun σ H Q q => ?_
  obtain ⟨A, w, S, ds, w', e, q⟩ := q
  cases e
  exact q A [] H (Step.refl A H) S rfl
theorem snd_kcons {e : E} {r : Es} {x : Expr} {nm : Option Str} {kp : Pos} {ks : List Keyword} (he : PE X x (rd X.K (evE P e))) (hr : PK X ks (rdA X.K (evEs P r))) : PK X (⟨nm, x, kp⟩ :: ks) (rdA X.K (evEs P (.cons e r))) :=
  PKimp (pk_cons he hr) rdCons
/-- the lists' lengths are those of the terms -/
def Es.len : Es → Nat
  | .nil => 0
  | .cons _ r => r.len + 1
theorem evEs_len : ∀ {es : Es} {w : Wd} {ds : List D} {w' : Wd}, evEs P es w = .ok (ds, w') → ds.length = es.len
  | .nil, _, _, _, e => by cases e; rfl
  | .cons e r, w, ds, w', h => by
    obtain ⟨x, _, h⟩ := bd_split (show ((evE P e w).bd fun x => (evEs P r x.2).bd fun y => R.ok (x.1 :: y.1, y.2)) = .ok (ds, w') from h)
    obtain ⟨y, h2, h⟩ := bd_split h
    cases h
    show y.1.length + 1 = r.len + 1
    rw [evEs_len h2]
theorem arr_length : ∀ {p : List Nat} {ds es : List D}, arr p ds = some es → es.length = p.length
  | [], _, _, e => by cases e; rfl
  | i :: p, ds, es, e => by
    simp only [arr, Option.bind_eq_some_iff, Option.map_eq_some_iff] at e
    obtain ⟨v, _, ys, e2, rfl⟩ := e
    rw [List.length_cons, List.length_cons, arr_length e2]
def arity : Option (List Nat) → Nat → Nat
  | none, n => n
  | some p, _ => p.length
theorem snd_call (G : GX T P lv N sc top X) {j : Nat} {dd : Str × List Str} {pm : Option (List Nat)} {es ks : Es} {xs : List Expr} {kws : List Keyword} {kn : List Str} {p pos : Pos} (hj : T.defs[j]? = some dd) (hlv : j < lv) (hg : sc.names.lookup dd.1 = some .globalImplicit) (hd : (dd.1 == ("__debug__" : Str)) = false)
    (h1 : PA X xs (rdA X.K (evEs P es))) (h2 : PK X kws (rdA X.K (evEs P ks))) (hx : xs.all okX = true) (hk : kwN kws = some kn) (hb : (j, xs.length, kn, pm) ∈ T.binds) (l1 : es.len = xs.length) (l2 : ks.len = kws.length)
    (hl : arity pm (xs.length + kws.length) = dd.2.length) : PE X (.Call (.Name dd.1 p) xs kws pos) (rd X.K (evE P (.call j pm es ks))) := by
  obtain ⟨f, hm, hkp, run⟩ := call_sound G hj hlv
  refine ⟨fun pins s σ H Q I q => ?_⟩
  obtain ⟨A, w, S, d, w', e1, q⟩ := q
  obtain ⟨x, ea, e1⟩ := bd_split e1
  obtain ⟨y, eb, e1⟩ := bd_split e1
  obtain ⟨as, ec, e1⟩ := bd_split e1
  obtain ⟨bs, ed, e1⟩ := bd_split e1
  obtain ⟨r, ef, e1⟩ := bd_split e1
  cases e1
  have gl : Gl X dd.1 := by show X.env.kindOf _ = _; unfold Env.kindOf; rw [G.sco]; exact hg
  refine wpAny_Call_Name_kw (ld_glob I gl hm ?_ hd)
  obtain ⟨k1, k2, k3, k4⟩ := kwN_ok (pos := pos) (env := X.env) hk
  have l1' := evEs_len ea
  have l2' := evEs_len eb
  have lb : bs.length = dd.2.length := by
    rw [← hl]
    cases pm with
    | none =>
      have e := of_split ed
      cases e
      have : ∀ {ρ : Nat → Option D} {φ : Bool} {ds es : List D}, rsL ρ φ ds = some es → es.length = ds.length := fun {ρ φ ds} => by
        induction ds with
        | nil => intro es e; cases e; rfl
        | cons d ds ih =>
          intro es e
          simp only [rsL, Option.bind_eq_some_iff, Option.map_eq_some_iff] at e
          obtain ⟨_, _, ys, e2, rfl⟩ := e
          rw [List.length_cons, List.length_cons, ih e2]
      rw [this (of_split ec), List.length_append, l1', l2', l1, l2]
      rfl
    | some pp => exact arr_length (of_split ed)
  have fin : ∀ (A1 A2 : Ad) (H1 H2 : Hp) (s2 : Shared) (us ws : List Value) (vs zs : List V), Inv X pins σ H2 s2 → Step A H A1 H1 → Step A1 H1 A2 H2 → Vals vs us → Vals zs ws → RDs X.K H1 A1 x.1 vs → Sim X.K H2 A2 y.2 σ → RDs X.K H2 A2 y.1 zs →
      wpAny (model X.prog X.w) X.A (call (.ref f) us (kn.zip ws)) (EP X pins σ Q) X.xe s2 := fun A1 A2 H1 H2 s2 us ws vs zs I2 st1 st2 r1 r2 q1 S2 q2 =>
    run xs.length kn pm hb pins s2 σ H2 Q us ws vs zs A2 y.2 x.1 y.1 as bs r.1 r.2 I2 r1 r2 S2 (q1.step st2.toCar) q2 (l1'.trans l1) (by rw [l2', l2, k4]) (of_split ec) (of_split ed) lb ef (q.step (st1.trans st2))
  have e0 : ∀ (s1 : Shared), Inv X pins σ H s1 → xs = [] → x.1 = [] := fun _ _ z => by
    have : x.1.length = 0 := by rw [l1', l1, z]; rfl
    exact List.length_eq_zero_iff.mp this
  cases xs with
  | nil =>
    -- no positional values
    have hx0 := e0 s I rfl
    have hw0 : x.2 = w := by
      cases es with
      | nil => cases ea; rfl
      | cons _ _ => cases l1
    rw [hw0] at eb
    cases kws with
    | nil =>
      cases hk
      have hy0 : y.1 = [] := List.length_eq_zero_iff.mp (by rw [l2', l2]; rfl)
      have hw1 : y.2 = w := by
        cases ks with
        | nil => cases eb; rfl
        | cons _ _ => cases l2
      refine PySem.W.callWith_K0 I.kIn hkp ?_
      exact fin A A H H s [] [] [] [] I (Step.refl A H) (Step.refl A H) .nil .nil (by rw [hx0]; exact rfl) (by rw [hw1]; exact S) (by rw [hy0]; exact rfl)
    | cons k0 kws =>
      refine PySem.W.callWith_KW0 (h₀ := X.base) I.ok.mod.kin hkp k1 (thn (h2.run pos pins s σ H (fun zs H2 => ∃ A2, Step A H A2 H2 ∧ Sim X.K H2 A2 y.2 σ ∧ RDs X.K H2 A2 y.1 zs) I ⟨A, w, S, y.1, y.2, eb, fun A2 zs H2 st S2 r2 => ⟨A2, st, S2, r2⟩⟩) fun ws s2 ⟨zs, H2, I2, rz, A2, st, S2, r2⟩ => ⟨I2.kIn, ?_⟩) (by show (false || _) = false; rw [k3]; rfl)
      rw [k2]
      exact fin A A2 H H2 s2 [] ws [] zs I2 (Step.refl A H) st .nil rz (by rw [hx0]; exact rfl) S2 r2
  | cons x0 xs =>
    obtain ⟨o1, o2⟩ := Bool.and_eq_true_iff.mp (show (okX x0 && xs.all okX) = true from hx)
    have np : (backTo pos (starEach (x0 :: xs) X.env)).any (·.1) = false := noStars hx
    have main : wpAny (model X.prog X.w) X.A (spliced (backTo pos (starEach (x0 :: xs) X.env))) (AP X pins σ fun vs H1 => ∃ A1, Step A H A1 H1 ∧ Sim X.K H1 A1 x.2 σ ∧ RDs X.K H1 A1 x.1 vs) X.xe s :=
      h1.run pos pins s σ H _ I ⟨A, w, S, x.1, x.2, ea, fun A1 vs H1 st S1 r1 => ⟨A1, st, S1, r1⟩⟩
    cases kws with
    | nil =>
      cases hk
      have hy0 : y.1 = [] := List.length_eq_zero_iff.mp (by rw [l2', l2]; rfl)
      have hw1 : y.2 = x.2 := by
        cases ks with
        | nil => cases eb; rfl
        | cons _ _ => cases l2
      refine PySem.W.callWith_K (h₀ := X.base) I.ok.mod.kin hkp (thn main fun us s1 ⟨vs, H1, I1, rv, A1, st, S1, r1⟩ => ⟨I1.kIn, ?_⟩) (starEach_cons o1) (noStars o2)
      exact fin A1 A1 H1 H1 s1 us [] vs [] I1 st (Step.refl A1 H1) rv .nil r1 (by rw [hw1]; exact S1) (by rw [hy0]; exact rfl)
    | cons k0 kws =>
      refine PySem.W.callWith_KW (h₀ := X.base) I.ok.mod.kin hkp k1 (thn main fun us s1 ⟨vs, H1, I1, rv, A1, st, S1, r1⟩ => ?_) (by rw [np, k3]; rfl) (starEach_cons o1)
      refine thn (h2.run pos pins s1 σ H1 (fun zs H2 => ∃ A2, Step A1 H1 A2 H2 ∧ Sim X.K H2 A2 y.2 σ ∧ RDs X.K H2 A2 y.1 zs) I1 ⟨A1, x.2, S1, y.1, y.2, eb, fun A2 zs H2 st S2 r2 => ⟨A2, st, S2, r2⟩⟩) fun ws s2 ⟨zs, H2, I2, rz, A2, st2, S2, r2⟩ => ⟨I2.kIn, ?_⟩
      rw [k2]
      exact fin A1 A2 H1 H2 s2 us ws vs zs I2 st st2 rv rz r1 S2 r2
/-- a method of a list -/
theorem me_list {m : Me} {d : D} {ds : List D} {r : D} {w w' : Wd} {K : PySem.W.Frag} {H : Hp} {A : Ad} {σ : Sl} {v : V} (S : Sim K H A w σ) (rd1 : RD K H A d v) (e : meF m d ds w = .ok (r, w')) : tyV K "list" v H := by
  have go : ∀ {xs ys : List D} {w2 : Wd}, w.seq d = some xs → w.put d ys = some w2 → tyV K "list" v H := fun {xs ys w2} e1 e2 => by
    obtain ⟨a, us, zs, rfl, h, _⟩ := put_ok e1 e2 S rd1
    exact .inl ⟨rfl, us, SqL.of h⟩
  cases m with
  | append =>
    match ds, e with
    | [], e => cases e
    | _ :: _ :: _, e => cases e
    | [x], e =>
      obtain ⟨xs, e1, e⟩ := bd_split (show ((R.of (w.seq d)).bd fun xs => if xs.length < mxLen then (R.of (w.put d (xs ++ [x]))).bd fun w' => R.ok (D.non, w') else R.err) = .ok (r, w') from e)
      split at e
      · obtain ⟨w2, e2, e⟩ := bd_split e
        exact go (of_split e1) (of_split e2)
      · cases e
  | extend =>
    match ds, e with
    | [], e => cases e
    | _ :: _ :: _, e => cases e
    | [x], e =>
      have e : (if isL x && !deq x d then (R.of (w.seq d)).bd fun xs => (R.of (w.seq x)).bd fun ys => if xs.length + ys.length ≤ mxLen then (R.of (w.put d (xs ++ ys))).bd fun w' => R.ok (D.non, w') else R.err else R.err) = .ok (r, w') := e
      split at e
      · obtain ⟨xs, e1, e⟩ := bd_split e
        obtain ⟨ys, e2, e⟩ := bd_split e
        split at e
        · obtain ⟨w2, e3, e⟩ := bd_split e
          exact go (of_split e1) (of_split e3)
        · cases e
      · cases e
  | pop =>
    match ds, e with
    | x :: _ :: _, e => cases x <;> cases e
    | [], e =>
      obtain ⟨xs, e1, e⟩ := bd_split (show ((R.of (w.seq d)).bd fun xs => (R.of xs[xs.length - 1]?).bd fun y => (R.of (w.put d xs.dropLast)).bd fun w' => R.ok (y, w')) = .ok (r, w') from e)
      obtain ⟨y, e2, e⟩ := bd_split e
      obtain ⟨w2, e3, e⟩ := bd_split e
      exact go (of_split e1) (of_split e3)
    | [x], e =>
      cases x with
      | int i =>
        obtain ⟨xs, e1, e⟩ := bd_split (show ((R.of (w.seq d)).bd fun xs => (R.of (ixI xs.length i)).bd fun k => (R.of xs[k]?).bd fun y => (R.of (w.put d (xs.eraseIdx k))).bd fun w' => R.ok (y, w')) = .ok (r, w') from e)
        obtain ⟨k, e4, e⟩ := bd_split e
        obtain ⟨y, e2, e⟩ := bd_split e
        obtain ⟨w2, e3, e⟩ := bd_split e
        exact go (of_split e1) (of_split e3)
      | _ => cases e
  | _ => cases e
def meId : Me → String
  | .append => "list.append"
  | .extend => "list.extend"
  | .pop => "list.pop"
  | _ => ""
theorem me_slot (m : Me) (h : (match m with | .append => true | .extend => true | .pop => true | _ => false) = true) :
    Slot "list" (meName m) (meId m) ∧ typeOf (.builtin (meId m)) = pure (.type "method_descriptor") ∧ MtR X (meId m) (rMe X.K m) := by
  cases m with
  | append => exact ⟨PySem.F.slot_list_append, PySem.F.type_list_append, me_append⟩
  | extend => exact ⟨PySem.F.slot_list_extend, PySem.F.type_list_extend, me_extend⟩
  | pop => exact ⟨PySem.F.slot_list_pop, PySem.F.type_list_pop, me_pop⟩
  | _ => cases h
theorem snd_me0 (m : Me) {o : E} {x : Expr} {apos cpos : Pos} (hm : (match m with | .append => true | .extend => true | .pop => true | _ => false) = true) (ho : PE X x (rd X.K (evE P o))) (ha : okA x = true) (hl : (apos.endLine == cpos.line) = true) :
    PE X (.Call (.Attribute x (meName m) apos) [] [] cpos) (rd X.K (evE P (.me m o .nil))) := by
  obtain ⟨h1, h2, h3⟩ := me_slot (X := X) m hm
  refine PEimp (pe_bm0 PySem.F.plainAttrs_list h1 h2 h3 ho (attr_ok ha) hl) fun σ H Q q => ?_
  obtain ⟨A, w, S, d, w', e1, q⟩ := q
  obtain ⟨x, ea, e1⟩ := bd_split e1
  obtain ⟨ys0, ez, e1⟩ := bd_split e1
  have e1 : meF m x.1 [] x.2 = .ok (d, w') := e1
  exact ⟨A, w, S, x.1, x.2, ea, fun A1 v H1 s1 S1 r1 => ⟨me_list S1 r1 e1, A1, x.2, σ, x.1, [], d, w', S1, r1, rfl, e1, q.step s1⟩⟩
theorem snd_me1 (m : Me) {o e : E} {x y : Expr} {apos cpos : Pos} (hm : (match m with | .append => true | .extend => true | .pop => true | _ => false) = true) (ho : PE X x (rd X.K (evE P o))) (he : PE X y (rd X.K (evE P e))) (ha : okA x = true) (hl : (apos.endLine == cpos.line) = true) (hy : okX y = true) :
    PE X (.Call (.Attribute x (meName m) apos) [y] [] cpos) (rd X.K (evE P (.me m o (.cons e .nil)))) := by
  obtain ⟨h1, h2, h3⟩ := me_slot (X := X) m hm
  refine PEimp (pe_bm PySem.F.plainAttrs_list h1 h2 h3 ho (snd_cons he snd_nil hy) (attr_ok ha) (by rw [starEach_cons hy]; rfl) hl (starEach_cons hy) (by rfl)) fun σ H Q q => ?_
  obtain ⟨A, w, S, d, w', e1, q⟩ := q
  obtain ⟨x, ea, e1⟩ := bd_split e1
  obtain ⟨ys0, ez, e1⟩ := bd_split e1
  have ez := of_split ez
  obtain ⟨z, eb, e1⟩ := bd_split e1
  refine ⟨A, w, S, x.1, x.2, ea, fun A1 v H1 s1 S1 r1 => ⟨?_, A1, x.2, S1, z.1, z.2, eb, fun A2 vs H2 s2 S2 r2 => ⟨A2, z.2, σ, x.1, z.1, d, w', S2, r1.step s2.toCar, r2, e1, q.step (s1.trans s2)⟩⟩⟩
  -- the receiver is a list of ours: a ref
  have hr : (∃ k, x.1 = .ref k) ∨ ∃ k, x.1 = .g k := by
    have put : ∀ {d : D} {xs : List D} {w w2 : Wd}, w.put d xs = some w2 → (∃ k, d = .ref k) ∨ ∃ k, d = .g k := fun {d xs w w2} e => by
      cases d with
      | ref k => exact .inl ⟨k, rfl⟩
      | g k => exact .inr ⟨k, rfl⟩
      | _ => cases e
    have e1 : meF m x.1 z.1 z.2 = .ok (d, w') := e1
    cases m with
    | append =>
      match hz : z.1, e1 with
      | [], e1 => cases e1
      | _ :: _ :: _, e1 => cases e1
      | [t], e1 =>
        obtain ⟨xs, _, e1⟩ := bd_split (show ((R.of (z.2.seq x.1)).bd fun xs => if xs.length < mxLen then (R.of (z.2.put x.1 (xs ++ [t]))).bd fun w' => R.ok (D.non, w') else R.err) = .ok (d, w') from e1)
        split at e1
        · obtain ⟨w2, e2, _⟩ := bd_split e1
          exact put (of_split e2)
        · cases e1
    | extend =>
      match hz : z.1, e1 with
      | [], e1 => cases e1
      | _ :: _ :: _, e1 => cases e1
      | [t], e1 =>
        have e1 : (if isL t && !deq t x.1 then (R.of (z.2.seq x.1)).bd fun xs => (R.of (z.2.seq t)).bd fun ys => if xs.length + ys.length ≤ mxLen then (R.of (z.2.put x.1 (xs ++ ys))).bd fun w' => R.ok (D.non, w') else R.err else R.err) = .ok (d, w') := e1
        split at e1
        · obtain ⟨xs, _, e1⟩ := bd_split e1
          obtain ⟨ys, _, e1⟩ := bd_split e1
          split at e1
          · obtain ⟨w2, e2, _⟩ := bd_split e1
            exact put (of_split e2)
          · cases e1
        · cases e1
    | pop =>
      match hz : z.1, e1 with
      | t :: _ :: _, e1 => cases t <;> cases e1
      | [], e1 =>
        obtain ⟨xs, _, e1⟩ := bd_split (show ((R.of (z.2.seq x.1)).bd fun xs => (R.of xs[xs.length - 1]?).bd fun y => (R.of (z.2.put x.1 xs.dropLast)).bd fun w' => R.ok (y, w')) = .ok (d, w') from e1)
        obtain ⟨y, _, e1⟩ := bd_split e1
        obtain ⟨w2, e2, _⟩ := bd_split e1
        exact put (of_split e2)
      | [t], e1 =>
        cases t with
        | int i =>
          obtain ⟨xs, _, e1⟩ := bd_split (show ((R.of (z.2.seq x.1)).bd fun xs => (R.of (ixI xs.length i)).bd fun k => (R.of xs[k]?).bd fun y => (R.of (z.2.put x.1 (xs.eraseIdx k))).bd fun w' => R.ok (y, w')) = .ok (d, w') from e1)
          obtain ⟨k, _, e1⟩ := bd_split e1
          obtain ⟨y, _, e1⟩ := bd_split e1
          obtain ⟨w2, e2, _⟩ := bd_split e1
          exact put (of_split e2)
        | _ => cases e1
    | _ => cases hm
  rcases hr with ⟨k, hk⟩ | ⟨k, hk⟩
  · rw [hk] at r1
    obtain ⟨a, q1, rfl⟩ := r1
    obtain ⟨e2, n⟩ := seq_ref_some (by rw [hk] at ez; exact ez)
    obtain ⟨vs, h, _⟩ := S1.mu.get q1 e2 n
    exact .inl ⟨rfl, vs, SqL.of h⟩
  · rw [hk] at r1
    obtain ⟨a, q1, rfl⟩ := r1
    obtain ⟨vs, h, _⟩ := S1.gget q1 (by rw [hk] at ez; exact ez)
    exact .inl ⟨rfl, vs, SqL.of h⟩

/-! ### what is walked -/
theorem snd_iseq {e : E} {tg x : Expr} (h : PE X x (rd X.K (evE P e))) : PI X tg x (rdI X.K (evI P (.seq e))) := by
  refine PIimp (pi_seq h) fun σ H Rr q => ?_
  obtain ⟨A, w, S, it, w', e1, q⟩ := q
  obtain ⟨x, ea, e1⟩ := bd_split e1
  obtain ⟨xs, ex, e1⟩ := bd_split e1
  cases e1
  refine ⟨A, w, S, x.1, x.2, ea, fun A1 v H1 s1 S1 r1 => ?_⟩
  obtain ⟨a, vs, rfl, rs, hq⟩ := S1.seq r1 (of_split ex)
  refine ⟨a, rfl, ?_⟩
  rcases hq with ⟨ht, hq⟩ | ⟨ht, hq⟩
  · exact .inr ⟨vs, hq, q A1 H1 _ s1 S1 (src_ok (of_split ex)) (walk_t (of_split ex) r1 ht)⟩
  · exact .inl ⟨vs, hq, q A1 H1 _ s1 S1 (src_ok (of_split ex)) (walk_l (of_split ex) r1 ht)⟩
theorem snd_rng1 (G : GX T P lv N sc top X) {e : E} {tg x : Expr} {p pos : Pos} (h : PE X x (rd X.K (evE P e))) (hg : sc.names.lookup ("range" : Str) = some .globalImplicit) (hf : ("range" : Str) ∈ T.free) (hx : okX x = true) :
    PI X tg (.Call (.Name "range" p) [x] [] pos) (rdI X.K (evI P (.rng (.cons e .nil)))) := by
  have gl : Gl X "range" := by show X.env.kindOf _ = _; unfold Env.kindOf; rw [G.sco]; exact hg
  refine PIimp (pi_range1 gl (G.free _ hf) (snd_cons h snd_nil hx) (starEach_cons hx)) fun σ H Rr q => ?_
  obtain ⟨A, w, S, it, w', e1, q⟩ := q
  obtain ⟨x, ea, e1⟩ := bd_split e1
  obtain ⟨xs, ex, e1⟩ := bd_split e1
  cases e1
  refine ⟨A, w, S, x.1, x.2, ea, fun A1 vs H1 s1 S1 r1 => ?_⟩
  have ex := of_split ex
  obtain ⟨ds, w1⟩ := x
  have hl : ds.length = 1 := evEs_len ea
  match ds, hl, ex, r1 with
  | [.int j], _, ex, r1 =>
    obtain ⟨v, rfl, rv⟩ := one_of r1
    have ex : (if rngOk j then some (rngL 0 j.toNat) else none) = some xs := ex
    split at ex
    · rename_i hj
      cases ex
      have hj := of_decide_eq_true hj
      exact ⟨j, by rw [show v = .int j from rv], hj.1, hj.2, q A1 H1 _ s1 S1 rfl walk_r⟩
    · cases ex
  | [.non], _, ex, _ => cases ex
  | [.bl _], _, ex, _ => cases ex
  | [.str _], _, ex, _ => cases ex
  | [.tup _], _, ex, _ => cases ex
  | [.lst _], _, ex, _ => cases ex
  | [.fl _], _, ex, _ => cases ex
  | [.sc _], _, ex, _ => cases ex
  | [.ref _], _, ex, _ => cases ex
  | [.g _], _, ex, _ => cases ex
  | [.dic _ _], _, ex, _ => cases ex
theorem rgV_rd {K : PySem.W.Frag} {H : Hp} {A : Ad} : ∀ (n : Nat) (a : Int), RDs K H A (rngL a n) ((List.range n).map fun i => V.int (a + (i : Nat)))
  | 0, _ => (rfl : _ = _)
  | n + 1, a => by
    rw [List.range_succ_eq_map, List.map_cons, List.map_map]
    refine RDs.cons_iff.mpr ⟨?_, ?_⟩
    · show _ = _
      congr 1
      omega
    · have h := rgV_rd (K := K) (H := H) (A := A) n (a + 1)
      have e : (List.map (fun i : Nat => V.int (a + 1 + (i : Nat))) (List.range n)) = (List.map ((fun i : Nat => V.int (a + (i : Nat))) ∘ Nat.succ) (List.range n)) := by
        refine List.map_congr_left fun i _ => ?_
        show V.int _ = V.int _
        congr 1
        have : ((Nat.succ i : Nat) : Int) = i + 1 := rfl
        omega
      rw [← e]
      exact h
theorem rgOk_of {i j : Int} {md : Nat} {tp : Bool} {w w' : Wd} {d : D} (h1 : rngOk i = true) (h2 : rngOk j = true) (h : (if tp then newT (rngL i (j - i).toNat) w else newL md (rngL i (j - i).toNat) w) = .ok (d, w')) : RgOk i j := by
  have h1 := of_decide_eq_true h1
  have h2 := of_decide_eq_true h2
  refine ⟨h1.1, h1.2, h2.1, h2.2, ?_⟩
  have : (rngL i (j - i).toNat).length ≤ mxLen := by
    cases tp with
    | true =>
      rw [if_pos rfl] at h
      unfold newT at h
      split at h
      · assumption
      · cases h
    | false =>
      rw [if_neg (by decide)] at h
      unfold newL at h
      split at h
      · assumption
      · cases h
  rw [rngL_length] at this
  exact Nat.le_trans this (by decide)
theorem lrg_fin {K : PySem.W.Frag} {A A1 : Ad} {H H1 : Hp} {σ : Sl} {i j : Int} {md : Nat} {tp : Bool} {w1 w' : Wd} {d : D} {Q : VK} (S : Sim K H1 A1 w1 σ) (s : Step A H A1 H1) (q : Aft K A H σ d w' Q) (h1 : rngOk i = true) (h2 : rngOk j = true)
    (h : (if tp then newT (rngL i (j - i).toNat) w1 else newL md (rngL i (j - i).toNat) w1) = .ok (d, w')) : RgOk i j ∧ ∀ p, H1 p = none → Q (.ref p) (upd H1 p (if tp then .tup (rgV i j) else .lst (rgV i j))) := by
  refine ⟨rgOk_of h1 h2 h, ?_⟩
  cases tp with
  | true =>
    rw [if_pos rfl] at h
    exact (Aft.newT h S (rgV_rd _ _) (q.step s)).2
  | false =>
    rw [if_neg (by decide)] at h
    exact (Aft.newL h S (rgV_rd _ _) (q.step s)).2
theorem snd_lrg1 (G : GX T P lv N sc top X) {e : E} {tp : Bool} {md : Nat} {x : Expr} {f : Str} {p p2 pos pos2 : Pos} (h : PE X x (rd X.K (evE P e))) (hf : f = if tp then ("tuple" : Str) else "list") (hg : sc.names.lookup ("range" : Str) = some .globalImplicit) (hg2 : sc.names.lookup f = some .globalImplicit) (hr : ("range" : Str) ∈ T.free) (hr2 : f ∈ T.free) (hx : okX x = true) :
    PE X (.Call (.Name f p2) [.Call (.Name "range" p) [x] [] pos] [] pos2) (rd X.K (evE P (.lrg tp md (.cons e .nil)))) := by
  have gl : Gl X "range" := by show X.env.kindOf _ = _; unfold Env.kindOf; rw [G.sco]; exact hg
  have gl2 : Gl X f := by show X.env.kindOf _ = _; unfold Env.kindOf; rw [G.sco]; exact hg2
  have rg := prg_1 (pos := pos) (p := p) gl (G.free _ hr) h (starEach_cons hx)
  have fin : ∀ σ H Q, rd X.K (evE P (.lrg tp md (.cons e .nil))) σ H Q → tRg1 (rd X.K (evE P e)) σ H (fun a b H1 => RgOk a b ∧ ∀ q, H1 q = none → Q (.ref q) (upd H1 q (if tp then .tup (rgV a b) else .lst (rgV a b)))) := fun σ H Q q => by
    obtain ⟨A, w, S, d, w', e1, q⟩ := q
    obtain ⟨x, ea, e1⟩ := bd_split e1
    obtain ⟨xs, ex, e1⟩ := bd_split e1
    obtain ⟨y, eb, ea⟩ := bd_split (show ((evE P e w).bd fun x => (evEs P .nil x.2).bd fun y => R.ok (x.1 :: y.1, y.2)) = .ok x from ea)
    cases ea
    refine ⟨A, w, S, y.1, y.2, eb, fun A1 v H1 s1 S1 r1 => ?_⟩
    have ex := of_split ex
    obtain ⟨d1, w1⟩ := y
    cases d1 with
    | int j =>
      have ex : (if rngOk j then some (rngL 0 j.toNat) else none) = some xs := ex
      split at ex
      · rename_i hj
        cases ex
        have h0 : (j - 0).toNat = j.toNat := by rw [Int.sub_zero]
        exact ⟨j, r1, lrg_fin S1 s1 q (by decide) hj (by rw [h0]; exact e1)⟩
      · cases ex
    | _ => cases ex
  cases tp with
  | true => subst hf; exact PEimp (pe_tupRg G.calm gl2 (G.free _ hr2) rg rfl) fin
  | false => subst hf; exact PEimp (pe_listRg G.calm gl2 (G.free _ hr2) rg rfl) fin
theorem snd_lrg2 (G : GX T P lv N sc top X) {e e2 : E} {tp : Bool} {md : Nat} {x y : Expr} {f : Str} {p p2 pos pos2 : Pos} (h : PE X x (rd X.K (evE P e))) (h2 : PE X y (rd X.K (evE P e2))) (hf : f = if tp then ("tuple" : Str) else "list") (hg : sc.names.lookup ("range" : Str) = some .globalImplicit) (hg2 : sc.names.lookup f = some .globalImplicit) (hr : ("range" : Str) ∈ T.free) (hr2 : f ∈ T.free) (hx : okX x = true) (hy : okX y = true) :
    PE X (.Call (.Name f p2) [.Call (.Name "range" p) [x, y] [] pos] [] pos2) (rd X.K (evE P (.lrg tp md (.cons e (.cons e2 .nil))))) := by
  have gl : Gl X "range" := by show X.env.kindOf _ = _; unfold Env.kindOf; rw [G.sco]; exact hg
  have gl2 : Gl X f := by show X.env.kindOf _ = _; unfold Env.kindOf; rw [G.sco]; exact hg2
  have rg := prg_2 (pos := pos) (p := p) gl (G.free _ hr) h h2 (starEach_cons hx) (starEach_cons hy) (noStars (by rw [List.all_cons, hy]; rfl))
  have fin : ∀ σ H Q, rd X.K (evE P (.lrg tp md (.cons e (.cons e2 .nil)))) σ H Q → tRg2 (rd X.K (evE P e)) (rd X.K (evE P e2)) σ H (fun a b H1 => RgOk a b ∧ ∀ q, H1 q = none → Q (.ref q) (upd H1 q (if tp then .tup (rgV a b) else .lst (rgV a b)))) := fun σ H Q q => by
    obtain ⟨A, w, S, d, w', e1, q⟩ := q
    obtain ⟨x, ea, e1⟩ := bd_split e1
    obtain ⟨xs, ex, e1⟩ := bd_split e1
    obtain ⟨y, eb, ea⟩ := bd_split (show ((evE P e w).bd fun x => (evEs P (.cons e2 .nil) x.2).bd fun y => R.ok (x.1 :: y.1, y.2)) = .ok x from ea)
    obtain ⟨z, ec, ea⟩ := bd_split ea
    cases ea
    obtain ⟨u, eu, ec⟩ := bd_split (show ((evE P e2 y.2).bd fun x => (evEs P .nil x.2).bd fun y => R.ok (x.1 :: y.1, y.2)) = .ok z from ec)
    cases ec
    refine ⟨A, w, S, y.1, y.2, eb, fun A1 v H1 s1 S1 r1 => ⟨A1, y.2, S1, u.1, u.2, eu, fun A2 v2 H2 s2 S2 r2 => ?_⟩⟩
    have ex := of_split ex
    obtain ⟨d1, w1⟩ := y
    obtain ⟨d2, w2⟩ := u
    cases d1 with
    | int i =>
      cases d2 with
      | int j =>
        have ex : (if rngOk i && rngOk j then some (rngL i (j - i).toNat) else none) = some xs := ex
        split at ex
        · rename_i hj
          cases ex
          obtain ⟨a1, a2⟩ := Bool.and_eq_true_iff.mp hj
          exact ⟨i, j, r1, r2, lrg_fin S2 (s1.trans s2) q a1 a2 e1⟩
        · cases ex
      | _ => cases ex
    | _ => cases d2 <;> cases ex
  cases tp with
  | true => subst hf; exact PEimp (pe_tupRg G.calm gl2 (G.free _ hr2) rg rfl) fin
  | false => subst hf; exact PEimp (pe_listRg G.calm gl2 (G.free _ hr2) rg rfl) fin
theorem three_of {K : PySem.W.Frag} {H : Hp} {A : Ad} {d e f : D} {vs : List V} (h : RDs K H A [d, e, f] vs) : ∃ v u t, vs = [v, u, t] ∧ RD K H A d v ∧ RD K H A e u ∧ RD K H A f t := by
  obtain ⟨v, r, rfl, x, y⟩ := h
  obtain ⟨u, t, rfl, z⟩ := two_of y
  exact ⟨v, u, t, rfl, x, z⟩
theorem snd_rng3 (G : GX T P lv N sc top X) {e e2 e3 : E} {tg x y z : Expr} {p pos : Pos} (h : PE X x (rd X.K (evE P e))) (h2 : PE X y (rd X.K (evE P e2))) (h3 : PE X z (rd X.K (evE P e3))) (hg : sc.names.lookup ("range" : Str) = some .globalImplicit) (hf : ("range" : Str) ∈ T.free) (hx : okX x = true) (hy : okX y = true) (hz : okX z = true) :
    PI X tg (.Call (.Name "range" p) [x, y, z] [] pos) (rdI X.K (evI P (.rng (.cons e (.cons e2 (.cons e3 .nil)))))) := by
  have gl : Gl X "range" := by show X.env.kindOf _ = _; unfold Env.kindOf; rw [G.sco]; exact hg
  refine PIimp (pi_range3 gl (G.free _ hf) (snd_cons h (snd_cons h2 (snd_cons h3 snd_nil hz) hy) hx) (starEach_cons hx) (noStars (by rw [List.all_cons, List.all_cons, hy, hz]; rfl))) fun σ H Rr q => ?_
  obtain ⟨A, w, S, it, w', e1, q⟩ := q
  obtain ⟨x, ea, e1⟩ := bd_split e1
  obtain ⟨xs, ex, e1⟩ := bd_split e1
  cases e1
  refine ⟨A, w, S, x.1, x.2, ea, fun A1 vs H1 s1 S1 r1 => ?_⟩
  have ex := of_split ex
  obtain ⟨ds, w1⟩ := x
  have hl : ds.length = 3 := evEs_len ea
  have hi : ∃ i j c, ds = [.int i, .int j, .int c] := by
    match ds, hl, ex with
    | [a, b, c], _, ex =>
      cases a with
      | int i => cases b with
        | int j => cases c with
          | int c => exact ⟨i, j, c, rfl⟩
          | _ => cases ex
        | _ => cases c <;> cases ex
      | _ => cases b <;> cases c <;> cases ex
  obtain ⟨i, j, c, hd⟩ := hi
  have hd : ds = [.int i, .int j, .int c] := hd
  subst hd
  obtain ⟨v, u, t, rfl, rv, ru, rt⟩ := three_of r1
  have ex : (if decide (c ≠ 0 ∧ c.natAbs < 1073741824) && Builtin.Range.small i j c then some (stepL i c (Builtin.Range.rangeSize i j c).toNat) else none) = some xs := ex
  split at ex
  · rename_i hj
    cases ex
    obtain ⟨a1, a2⟩ := Bool.and_eq_true_iff.mp hj
    have a1 := of_decide_eq_true a1
    exact ⟨i, j, c, _, by rw [show v = .int i from rv, show u = .int j from ru, show t = .int c from rt], ⟨a1.1, a1.2, a2, PyProof.Rows.rangeSize_toNat i j c⟩, q A1 H1 _ s1 S1 rfl walk_c⟩
  · cases ex
theorem snd_rng2 (G : GX T P lv N sc top X) {e e2 : E} {tg x y : Expr} {p pos : Pos} (h : PE X x (rd X.K (evE P e))) (h2 : PE X y (rd X.K (evE P e2))) (hg : sc.names.lookup ("range" : Str) = some .globalImplicit) (hf : ("range" : Str) ∈ T.free) (hx : okX x = true) (hy : okX y = true) :
    PI X tg (.Call (.Name "range" p) [x, y] [] pos) (rdI X.K (evI P (.rng (.cons e (.cons e2 .nil))))) := by
  have gl : Gl X "range" := by show X.env.kindOf _ = _; unfold Env.kindOf; rw [G.sco]; exact hg
  refine PIimp (pi_range2 gl (G.free _ hf) (snd_cons h (snd_cons h2 snd_nil hy) hx) (by rw [starEach_cons hx, starEach_cons hy]; rfl) (starEach_cons hy)) fun σ H Rr q => ?_
  obtain ⟨A, w, S, it, w', e1, q⟩ := q
  obtain ⟨x, ea, e1⟩ := bd_split e1
  obtain ⟨xs, ex, e1⟩ := bd_split e1
  cases e1
  refine ⟨A, w, S, x.1, x.2, ea, fun A1 vs H1 s1 S1 r1 => ?_⟩
  have ex := of_split ex
  obtain ⟨ds, w1⟩ := x
  have hl : ds.length = 2 := evEs_len ea
  have hi : ∃ i j, ds = [.int i, .int j] := by
    match ds, hl, ex with
    | [a, b], _, ex =>
      cases a with
      | int i => cases b with
        | int j => exact ⟨i, j, rfl⟩
        | _ => cases ex
      | _ => cases b <;> cases ex
  obtain ⟨i, j, hd⟩ := hi
  have hd : ds = [.int i, .int j] := hd
  subst hd
  obtain ⟨v, u, rfl, rv, ru⟩ := two_of r1
  have ex : (if rngOk i && rngOk j then some (rngL i (j - i).toNat) else none) = some xs := ex
  split at ex
  · rename_i hj
    cases ex
    obtain ⟨a1, a2⟩ := Bool.and_eq_true_iff.mp hj
    have a1 := of_decide_eq_true a1
    have a2 := of_decide_eq_true a2
    exact ⟨i, j, by rw [show v = .int i from rv, show u = .int j from ru], ⟨a1.1, a1.2, a2.1, a2.2⟩, q A1 H1 _ s1 S1 rfl walk_r⟩
  · cases ex
theorem snd_enu (G : GX T P lv N sc top X) {e : E} {x : Expr} {elts : List Expr} {kk : Nat} {p pos tpos : Pos} (h : PE X x (rd X.K (evE P e))) (hg : sc.names.lookup ("enumerate" : Str) = some .globalImplicit) (hf : ("enumerate" : Str) ∈ T.free) (hx : okX x = true) :
    PI X (.Tuple elts kk tpos) (.Call (.Name "enumerate" p) [x] [] pos) (rdI X.K (evI P (.enu e))) := by
  have gl : Gl X "enumerate" := by show X.env.kindOf _ = _; unfold Env.kindOf; rw [G.sco]; exact hg
  refine PIimp (pi_enu gl (G.free _ hf) (snd_cons h snd_nil hx) (starEach_cons hx)) fun σ H Rr q => ?_
  obtain ⟨A, w, S, it, w', e1, q⟩ := q
  obtain ⟨x, ea, e1⟩ := bd_split e1
  obtain ⟨xs, ex, e1⟩ := bd_split e1
  cases e1
  refine ⟨A, w, S, [x.1], x.2, by show (evE P e w).bd _ = _; rw [ea]; rfl, fun A1 vs H1 s1 S1 r1 => ?_⟩
  obtain ⟨v, rfl, rv⟩ := one_of r1
  obtain ⟨a, vs, rfl, rs, hq⟩ := S1.seq rv (of_split ex)
  refine ⟨a, rfl, ?_⟩
  rcases hq with ⟨ht, hq⟩ | ⟨ht, hq⟩
  · exact .inr ⟨vs, hq, q A1 H1 _ s1 S1 (src_ok (of_split ex)) (walk_et (of_split ex) rv ht)⟩
  · exact .inl ⟨vs, hq, q A1 H1 _ s1 S1 (src_ok (of_split ex)) (walk_e (of_split ex) rv ht)⟩
theorem snd_zip (G : GX T P lv N sc top X) {e e2 : E} {x y : Expr} {elts : List Expr} {kk : Nat} {p pos tpos : Pos} (h : PE X x (rd X.K (evE P e))) (h2 : PE X y (rd X.K (evE P e2))) (hg : sc.names.lookup ("zip" : Str) = some .globalImplicit) (hf : ("zip" : Str) ∈ T.free) (hx : okX x = true) (hy : okX y = true) :
    PI X (.Tuple elts kk tpos) (.Call (.Name "zip" p) [x, y] [] pos) (rdI X.K (evI P (.zip e e2))) := by
  have gl : Gl X "zip" := by show X.env.kindOf _ = _; unfold Env.kindOf; rw [G.sco]; exact hg
  refine PIimp (RZ.pi_zipA gl (G.free _ hf) (snd_cons h (snd_cons h2 snd_nil hy) hx) (starEach_cons hx) (by rw [starEach_cons hy]; rfl)) fun σ H Rr q => ?_
  obtain ⟨A, w, S, it, w', e1, q⟩ := q
  obtain ⟨x, ea, e1⟩ := bd_split e1
  obtain ⟨y, eb, e1⟩ := bd_split e1
  obtain ⟨xs, ex, e1⟩ := bd_split e1
  obtain ⟨ys, ey, e1⟩ := bd_split e1
  split at e1
  case isFalse => cases e1
  rename_i ht
  have ht : isT x.1 = isT y.1 := eq_of_beq ht
  cases e1
  have ex := of_split ex
  have ey := of_split ey
  refine ⟨A, w, S, [x.1, y.1], y.2, by show (evE P e w).bd _ = _; rw [ea]; show ((evE P e2 x.2).bd _).bd _ = _; rw [eb]; rfl, fun A1 vs H1 s1 S1 r1 => ?_⟩
  obtain ⟨v, u, rfl, rv, ru⟩ := two_of r1
  obtain ⟨a, vs, rfl, rs, hq⟩ := S1.seq rv ex
  obtain ⟨b, us, rfl, rs2, hq2⟩ := S1.seq ru ey
  refine ⟨a, b, vs, us, rfl, ?_⟩
  have ok : ((srcOf x.1).ok xs y.2 && (srcOf y.1).ok ys y.2) = true := by rw [src_ok ex, src_ok ey]; rfl
  rcases hq with ⟨t1, hq⟩ | ⟨t1, hq⟩
  · rcases hq2 with ⟨t2, hq2⟩ | ⟨t2, hq2⟩
    · exact .inr ⟨hq, hq2, q A1 H1 _ s1 S1 ok (walk_zt ex ey rv ru t1 t2)⟩
    · rw [t1, t2] at ht; cases ht
  · rcases hq2 with ⟨t2, hq2⟩ | ⟨t2, hq2⟩
    · rw [t1, t2] at ht; cases ht
    · exact .inl ⟨hq, hq2, q A1 H1 _ s1 S1 ok (walk_z ex ey rv ru t1 t2)⟩
end
end Fz

/-! Q12b: isinstance; own dicts. -/
namespace Fz
open PySem PySem.Spec PyProof.Rows L2

def tyS : Ty → String
  | .int => "int" | .bool => "bool" | .str => "str" | .tup => "tuple" | .lst => "list" | .dct => "dict"
theorem sqT_ty {K : PySem.W.Frag} {H : Hp} {a : Addr} {vs : List V} (h : SqT K H a vs) : TyX K H (.ref a) (.type "tuple") := by
  rcases h with (h | ⟨o, h⟩) | ⟨o, its, n, h1, h2, _⟩
  · exact .base (.tup h)
  · exact .fTuple h
  · exact .kTuple h1 h2
theorem sqL_ty {K : PySem.W.Frag} {H : Hp} {a : Addr} {vs : List V} (h : SqL K H a vs) : TyX K H (.ref a) (.type "list") := by
  rcases h with (h | ⟨o, h⟩) | ⟨o, its, n, h1, h2, _⟩
  · exact .base (.lst h)
  · exact .base (.frz h)
  · exact .kList h1 h2
theorem tyF_ok {K : PySem.W.Frag} {H : Hp} {A : Ad} {w : Wd} {σ : Sl} (S : Sim K H A w σ) {t : Ty} {d : D} {v : V} {b : Bool} (r : RD K H A d v) (e : tyF t w d = some b) : ∃ s : String, TyX K H v (.type s) ∧ PySem.W.kitOne K (.type s) (.type (tyS t)) = some b := by
  cases d with
  | non =>
    cases e
    rw [show v = .non from r]
    exact ⟨_, .base .non, kit_ty (by cases t <;> decide +kernel)⟩
  | bl x =>
    cases e
    rw [show v = .bl x from r]
    exact ⟨_, .base (.bl x), kit_ty (by cases t <;> decide +kernel)⟩
  | int x =>
    cases e
    rw [show v = .int x from r]
    exact ⟨_, .base (.int x), kit_ty (by cases t <;> decide +kernel)⟩
  | str x =>
    cases e
    rw [show v = .str x from r]
    exact ⟨_, .base (.str x), kit_ty (by cases t <;> decide +kernel)⟩
  | tup ds =>
    cases e
    obtain ⟨a, vs, rfl, q, _⟩ := r
    exact ⟨_, sqT_ty q, kit_ty (by cases t <;> decide +kernel)⟩
  | lst ds =>
    cases e
    obtain ⟨a, vs, rfl, q, _⟩ := r
    exact ⟨_, .base (.lst q), kit_ty (by cases t <;> decide +kernel)⟩
  | fl ds =>
    cases e
    obtain ⟨a, vs, rfl, q, _⟩ := r
    exact ⟨_, .base (.lst q), kit_ty (by cases t <;> decide +kernel)⟩
  | sc ds =>
    cases e
    obtain ⟨a, vs, rfl, q, _⟩ := r
    exact ⟨_, sqL_ty q.sq, kit_ty (by cases t <;> decide +kernel)⟩
  | ref k =>
    obtain ⟨xs, e1, e2⟩ := Option.map_eq_some_iff.mp (show ((w.m[k]?).bind lsq).map (fun _ => t == .lst) = some b from e)
    obtain ⟨a, q, rfl⟩ := r
    obtain ⟨e1, n⟩ := seq_ref_some e1
    obtain ⟨vs, h, _⟩ := S.mu.get q e1 n
    subst e2
    exact ⟨_, .base (.lst h), kit_ty (by cases t <;> decide +kernel)⟩
  | g k =>
    cases e
    obtain ⟨a, q, rfl⟩ := r
    obtain ⟨xs, e1, c⟩ := S.ga.cell q
    obtain ⟨vs, h, _⟩ := S.gget q e1
    exact ⟨_, .base (.lst h), kit_ty (by cases t <;> decide +kernel)⟩
  | dic ks ds =>
    cases e
    obtain ⟨a, kvs, rfl, q, _⟩ := r
    exact ⟨_, .base (.dK q), kit_ty (by cases t <;> decide +kernel)⟩
theorem boot_ty (t : Ty) : bootBuiltins (Str.ofString (tyS t)) = some (.type (tyS t)) := by cases t <;> decide +kernel
section
variable {T : Tb} {P : Pg} {lv : Nat} {N : List Str} {sc : Scope} {top : Option Scope} {X : Cx}
theorem snd_isi (G : GX T P lv N sc top X) {e : E} {t : Ty} {x : Expr} {p p2 pos : Pos} (h : PE X x (rd X.K (evE P e))) (hx : okX x = true) (hg : sc.names.lookup ("isinstance" : Str) = some .globalImplicit) (hg2 : sc.names.lookup (Str.ofString (tyS t)) = some .globalImplicit) (hr : ("isinstance" : Str) ∈ T.free) (hr2 : Str.ofString (tyS t) ∈ T.free) :
    PE X (.Call (.Name "isinstance" p) [x, .Name (Str.ofString (tyS t)) p2] [] pos) (rd X.K (evE P (.isi e t))) := by
  have gl : Gl X "isinstance" := by show X.env.kindOf _ = _; unfold Env.kindOf; rw [G.sco]; exact hg
  have gl2 : Gl X (Str.ofString (tyS t)) := by show X.env.kindOf _ = _; unfold Env.kindOf; rw [G.sco]; exact hg2
  have ht : PE X (.Name (Str.ofString (tyS t)) p2) (tC (.ty (tyS t))) := pe_bltn gl2 (G.free _ hr2) (boot_ty t) rfl (by cases t <;> decide +kernel) (by cases t <;> decide +kernel)
  have args := pa_cons h (pa_cons ht pa_nil (starEach_cons rfl)) (starEach_cons hx)
  refine PEimp (pe_callB call_isi gl (G.free _ hr) (by decide +kernel) args (by decide +kernel) (by decide +kernel) (starEach_cons hx) (noStars (by rfl))) fun σ H Q q => ?_
  obtain ⟨A, w, S, d, w', e1, q⟩ := q
  obtain ⟨y, ea, e1⟩ := bd_split e1
  obtain ⟨b, eb, e1⟩ := bd_split e1
  cases e1
  refine ⟨A, w, S, y.1, y.2, ea, fun A1 v H1 s1 S1 r1 => ?_⟩
  obtain ⟨s, h1, h2⟩ := tyF_ok S1 r1 (of_split eb)
  exact ⟨v, .ty (tyS t), _, _, b, rfl, .ty _, h1, h2, (q.step s1).here S1 rfl⟩
/-! ### own dicts -/
theorem dct_some {w : Wd} {d : D} {n : Nat} {es : List D} (h : w.dct d = some (n, es)) : ∃ k ks, d = .ref k ∧ w.m[k]? = some [.dic ks es] ∧ ¬ ks.Nodup ∧ ks.length = n := by
  cases d with
  | ref k =>
    obtain ⟨xs, e1, e⟩ := Option.bind_eq_some_iff.mp (show (w.m[k]?).bind _ = some (n, es) from h)
    match xs, e with
    | [.dic ks es'], e =>
      have e : (if ks.Nodup then none else some (ks.length, es')) = some (n, es) := e
      split at e
      · cases e
      · rename_i hn
        cases e
        exact ⟨k, ks, rfl, e1, hn, rfl⟩
  | _ => cases h
theorem isDc_dic {ks : List Str} {es : List D} (h : ¬ ks.Nodup) : isDc [.dic ks es] = true := by
  show (!decide ks.Nodup) = true
  rw [decide_eq_false h]
  rfl
section
variable {K : PySem.W.Frag} {H H' : Hp} {A A' : Ad} {w w' : Wd} {σ : Sl}
/-- what an own dict is -/
theorem Sim.dct (S : Sim K H A w σ) {d : D} {v : V} {n : Nat} {es : List D} (r : RD K H A d v) (e : w.dct d = some (n, es)) : ∃ a k ks, v = .ref a ∧ d = .ref k ∧ A.mu[k]? = some a ∧ w.m[k]? = some [.dic ks es] ∧ ¬ ks.Nodup ∧ ks.length = n ∧ DE K H A a n es := by
  obtain ⟨k, ks, rfl, e1, e2, rfl⟩ := dct_some e
  obtain ⟨a, q, rfl⟩ := r
  obtain ⟨xs, e3, c⟩ := S.mu.cell q
  rw [e1] at e3
  cases e3
  rcases c with ⟨c, _⟩ | ⟨_, ks', es', e4, c⟩
  · rw [isDc_dic e2] at c
    cases c
  · cases e4
    exact ⟨a, k, ks, rfl, rfl, q, e1, e2, rfl, c⟩
theorem DE.isD {a : Addr} {n : Nat} {es : List D} (h : DE K H A a n es) : IsD H a := by
  rcases h with ⟨kvs, _, h, _⟩ | ⟨kvs, _, h, _⟩
  · exact .inr ⟨kvs, .inl h⟩
  · exact .inl ⟨kvs, .inl h⟩
theorem deq_ints : ∀ {a b : List Int}, deqL (a.map D.int) (b.map D.int) = decide (a = b)
  | [], [] => rfl
  | [], _ :: _ => rfl
  | _ :: _, [] => rfl
  | x :: xs, y :: ys => by
    show (deq (.int x) (.int y) && deqL (xs.map D.int) (ys.map D.int)) = _
    rw [deq_ints]
    show (decide (x = y) && decide (xs = ys)) = _
    by_cases h1 : x = y <;> by_cases h2 : xs = ys <;> simp [h1, h2]
theorem inl_inj {a b : List Int} : a.map (Sum.inl : Int → Key) = b.map Sum.inl ↔ a = b := by
  constructor
  · intro h
    exact List.map_inj_right (fun _ _ h => Sum.inl.inj h) |>.mp h
  · rintro rfl; rfl
theorem keyT_eq {d e : D} {q p : List Key} (h : keyT d q) (h2 : keyT e p) : deq d e = decide (q = p) := by
  obtain ⟨a, rfl, rfl⟩ := h
  obtain ⟨b, rfl, rfl⟩ := h2
  show deqL _ _ = _
  rw [deq_ints]
  exact decide_eq_decide.mpr inl_inj.symm
theorem keyI_eq {d e : D} {q p : Key} (h : keyI d q) (h2 : keyI e p) : deq d e = decide (q = p) := by
  obtain ⟨a, rfl, rfl⟩ := h
  obtain ⟨b, rfl, rfl⟩ := h2
  show decide (a = b) = _
  exact decide_eq_decide.mpr ⟨fun h => by rw [h], fun h => Sum.inl.inj h⟩
theorem EN.get {κ : Type} [DecidableEq κ] {kd : D → κ → Prop} (hk : ∀ d e q p, kd d q → kd e p → deq d e = decide (q = p)) {k : D} {q : κ} (h : kd k q) : ∀ {es : List D} {kvs : List (κ × V)}, EN K H A kd es kvs →
    (getE es k = none ∧ valV kvs q = none) ∨ ∃ d v, getE es k = some d ∧ valV kvs q = some v ∧ RD K H A d v
  | [], _, e => by rw [show _ = [] from e]; exact .inl ⟨rfl, rfl⟩
  | e0 :: es, _, e => by
    obtain ⟨k1, q1, d, v, r, rfl, rfl, h1, h2, h3⟩ := e
    have h4 := hk k1 k q1 q h1 h
    by_cases z : q1 = q
    · refine .inr ⟨d, v, ?_, ?_, h2⟩
      · show (if deq k1 k then some d else getE es k) = _
        rw [h4, decide_eq_true z]
        rfl
      · rw [valV_pos (p := (q1, v)) z]
    · have ih := EN.get hk h h3
      have e1 : getE (.tup [k1, d] :: es) k = getE es k := by
        show (if deq k1 k then some d else getE es k) = _
        rw [h4, decide_eq_false z]
        rfl
      rw [e1, valV_neg (p := (q1, v)) z]
      exact ih
theorem EN.any {κ : Type} [DecidableEq κ] {kd : D → κ → Prop} (hk : ∀ d e q p, kd d q → kd e p → deq d e = decide (q = p)) {k : D} {q : κ} (h : kd k q) : ∀ {es : List D} {kvs : List (κ × V)}, EN K H A kd es kvs → es.any (isK k) = kvs.any (fun kv => decide (kv.1 = q))
  | [], _, e => by rw [show _ = [] from e]; rfl
  | e0 :: es, _, e => by
    obtain ⟨k1, q1, d, v, r, rfl, rfl, h1, h2, h3⟩ := e
    rw [List.any_cons, List.any_cons, EN.any hk h h3]
    congr 1
    exact hk k1 k q1 q h1 h
theorem EN.mapK {κ : Type} [DecidableEq κ] {kd : D → κ → Prop} (hk : ∀ d e q p, kd d q → kd e p → deq d e = decide (q = p)) {k : D} {q : κ} (h : kd k q) {d : D} {v : V} (hd : RD K H A d v) : ∀ {es : List D} {kvs : List (κ × V)}, EN K H A kd es kvs → EN K H A kd (es.map fun e => if isK k e then setK d e else e) (kvs.map fun kv => if kv.1 = q then (kv.1, v) else kv)
  | [], _, e => by rw [show _ = [] from e]; exact (rfl : _ = _)
  | e0 :: es, _, e => by
    obtain ⟨k1, q1, d1, v1, r, rfl, rfl, h1, h2, h3⟩ := e
    have h4 : isK k (.tup [k1, d1]) = decide (q1 = q) := hk k1 k q1 q h1 h
    rw [List.map_cons, List.map_cons, h4]
    by_cases z : q1 = q
    · refine ⟨k1, q1, d, v, _, ?_, ?_, h1, hd, EN.mapK hk h hd h3⟩
      · rw [decide_eq_true z]; rfl
      · rw [if_pos z]
    · refine ⟨k1, q1, d1, v1, _, ?_, ?_, h1, h2, EN.mapK hk h hd h3⟩
      · rw [decide_eq_false z]; rfl
      · rw [if_neg z]
theorem EN.snoc {κ : Type} {kd : D → κ → Prop} {k : D} {q : κ} (h : kd k q) {d : D} {v : V} (hd : RD K H A d v) : ∀ {es : List D} {kvs : List (κ × V)}, EN K H A kd es kvs → EN K H A kd (es ++ [.tup [k, d]]) (kvs ++ [(q, v)])
  | [], _, e => by rw [show _ = [] from e]; exact ⟨k, q, d, v, [], rfl, rfl, h, hd, rfl⟩
  | e0 :: es, _, e => by
    obtain ⟨k1, q1, d1, v1, r, rfl, rfl, h1, h2, h3⟩ := e
    exact ⟨k1, q1, d1, v1, _, rfl, rfl, h1, h2, EN.snoc h hd h3⟩
theorem EN.put {κ : Type} [DecidableEq κ] {kd : D → κ → Prop} (hk : ∀ d e q p, kd d q → kd e p → deq d e = decide (q = p)) {k : D} {q : κ} (h : kd k q) {d : D} {v : V} (hd : RD K H A d v) {es : List D} {kvs : List (κ × V)} (e : EN K H A kd es kvs) : EN K H A kd (putE es k d) (putK kvs q v) := by
  unfold putE putK
  rw [EN.any hk h e]
  by_cases z : (kvs.any fun kv => decide (kv.1 = q)) = true
  · rw [if_pos z, if_pos z]
    exact EN.mapK hk h hd e
  · rw [if_neg z, if_neg z]
    exact EN.snoc h hd e
theorem EN.len {κ : Type} {kd : D → κ → Prop} : ∀ {es : List D} {kvs : List (κ × V)}, EN K H A kd es kvs → kvs.length = es.length
  | [], _, e => by rw [show _ = [] from e]; rfl
  | e0 :: es, _, e => by
    obtain ⟨k1, q1, d1, v1, r, rfl, rfl, h1, h2, h3⟩ := e
    rw [List.length_cons, List.length_cons, EN.len h3]
end
section
variable {K : PySem.W.Frag} {H H' : Hp} {A A' : Ad} {w w' : Wd} {σ : Sl}
theorem dks_dup (b : Bool) : ¬ (dks b).Nodup := by cases b <;> decide
theorem dnew_ok (S : Sim K H A w σ) (b : Bool) {p : Addr} (hp : H p = none) {o : HO} (ho : o = if b then .dT [] else .dK []) :
    ∃ A', Step A H A' (upd H p o) ∧ Sim K (upd H p o) A' { w with m := w.m ++ [[.dic (dks b) []]] } σ ∧ RD K (upd H p o) A' (.ref w.m.length) (.ref p) := by
  obtain ⟨⟨f1, f2, f4⟩, f3⟩ := S.fresh hp
  have s0 : Step A H A (upd H p o) := Step.new hp f4
  have S0 := S.new (o := o) hp
  have s1 : Step A H { A with mu := A.mu ++ [p] } (upd H p o) := ⟨⟨fun a u h x => ⟨upd_some hp h, not_snoc x.1 (fun e => by subst e; rw [hp] at h; cases h), x.2⟩, s0.tup, s0.frz, fun k a h => get_snoc h, fun _ _ h => h, rfl⟩, rfl, s0.cnk⟩
  refine ⟨_, s1, ⟨fun i d e => let ⟨v, e1, r⟩ := S.loc i d e; ⟨v, e1, r.step s1.toCar d v⟩, S.len, ?_, RL.carry (fun xs vs h => h.step s1.toCar) (fun a _ vs h => upd_some hp h) S.ga, nodup_snoc S.nd f1, S.ndg, fun a ha => ?_, S.djg, S0.bt, S0.cnt,
    fun a ha => ⟨not_snoc (S.cnd a ha).1 (fun e => f4 (e ▸ ha)), (S.cnd a ha).2⟩, S.gk⟩, p, ?_, rfl⟩
  · refine RL.append (RL.carry (fun xs vs h => h.step s1.toCar) (fun a _ vs h => upd_some hp h) S.mu) ⟨_, [], rfl, .inr ⟨isDc_dic (dks_dup b), dks b, [], rfl, ?_⟩, rfl⟩
    subst ho
    cases b with
    | true => exact .inl ⟨[], rfl, upd_same, rfl⟩
    | false => exact .inr ⟨[], rfl, upd_same, rfl⟩
  · rcases List.mem_append.mp ha with z | z
    · exact S.dj a z
    · have e : a = p := by simpa using z
      subst e
      exact ⟨f2, f3⟩
  · show (A.mu ++ [p])[w.m.length]? = some p
    rw [S.mu.length]
    simp
theorem dset_ok (S : Sim K H A w σ) {k : Nat} {a : Addr} {ks : List Str} {es : List D} {u o : HO} (q : A.mu[k]? = some a) (h : H a = some u) (hu : (∃ kvs, u = .dT kvs) ∨ ∃ kvs, u = .dK kvs) (hn : ¬ ks.Nodup)
    (hd : Step A H A (upd H a o) → DE K (upd H a o) A a ks.length es) :
    Step A H A (upd H a o) ∧ Sim K (upd H a o) A (w.dset (.ref k) ks es) σ := by
  have hm := List.mem_of_getElem? q
  have hc : ∀ b ∈ A.cn, b ≠ a := fun b hb z => by subst z; exact (S.cnd _ hb).1 hm
  have c : Car A H A (upd H a o) := by
    refine ⟨fun b o q x => ⟨?_, x⟩, fun b ws q => ?_, fun b o u q => ?_, fun _ _ q => q, fun _ _ q => q, rfl⟩
    · rw [upd_ne (fun z => by subst z; exact x.1 hm)]
      exact q
    · rw [upd_ne (ne_of q h (fun z => by rcases hu with ⟨_, rfl⟩ | ⟨_, rfl⟩ <;> cases z))]
      exact q
    · rw [upd_ne (ne_of q h (fun z => by rcases hu with ⟨_, rfl⟩ | ⟨_, rfl⟩ <;> cases z))]
      exact q
  have s : Step A H A (upd H a o) := ⟨c, rfl, fun b hb => upd_ne (hc b hb)⟩
  refine ⟨s, ⟨fun i d e => let ⟨v, e1, r⟩ := S.loc i d e; ⟨v, e1, r.step s.toCar d v⟩, S.len, RL.store (fun _ _ h => h.step s.toCar) (.inr ⟨isDc_dic hn, ks, es, rfl, hd s⟩) S.nd S.mu q, RL.carry (fun xs vs h => h.step s.toCar) (fun b hb ws h => ?_) S.ga, S.nd, S.ndg, S.dj, S.djg, fun b hb => ?_, fun b hb => ?_, S.cnd, S.gk⟩⟩
  · rw [upd_ne (fun z => by subst z; exact (S.dj _ hm).1 hb)]
    exact h
  · obtain ⟨o, h⟩ := S.bt b hb
    refine ⟨o, ?_⟩
    rw [upd_ne (fun z => by subst z; exact (S.dj _ hm).2 hb)]
    exact h
  · obtain ⟨ws, h⟩ := S.cnt b hb
    refine ⟨ws, ?_⟩
    rw [upd_ne (hc b hb)]
    exact h
end
theorem snd_dnew {b : Bool} {pos : Pos} : PE X (.Dict [] [] pos) (rd X.K (evE P (.dnew b))) := by
  cases b with
  | true =>
    refine PEimp pe_dnewT fun σ H Q q => ?_
    obtain ⟨A, w, S, d, w', e1, q⟩ := q
    cases e1
    intro p hp
    obtain ⟨A', s, S', r⟩ := dnew_ok S true hp rfl
    exact q A' _ _ s S' r
  | false =>
    refine PEimp pe_dnewK fun σ H Q q => ?_
    obtain ⟨A, w, S, d, w', e1, q⟩ := q
    cases e1
    intro p hp
    obtain ⟨A', s, S', r⟩ := dnew_ok S false hp rfl
    exact q A' _ _ s S' r
theorem keyT_of : ∀ {ds : List D} {ns : List Int}, intD ds = some ns → ds = ns.map D.int
  | [], ns, e => by cases e; rfl
  | d :: ds, ns, e => by
    cases d with
    | int i =>
      obtain ⟨is, e1, rfl⟩ := Option.map_eq_some_iff.mp (show (intD ds).map (fun is => i :: is) = some ns from e)
      rw [keyT_of e1]
      rfl
    | _ => cases e
/-- a key written as a tuple: it stands new -/
theorem key_tup {es : Es} {xs : List Expr} {k : Nat} {pos : Pos} (h : PA X xs (rdA X.K (evEs P es))) : PE X (.Tuple xs k pos) fun σ H Q => ∃ A w, Sim X.K H A w σ ∧ ∃ ds w', evEs P es w = .ok (ds, w') ∧ ds.length ≤ mxLen ∧ ∀ A' vs p H', Step A H A' H' → Sim X.K H' A' w' σ → RDs X.K H' A' ds vs → H' p = some (.tup vs) → Q (.ref p) H' := by
  refine PEimp (pe_tup h) fun σ H Q q => ?_
  obtain ⟨A, w, S, ds, w', e1, hl, q⟩ := q
  refine ⟨A, w, S, ds, w', e1, fun A1 vs H1 s1 S1 r1 => ⟨Nat.le_trans (by rw [r1.length]; exact hl) (by decide), fun p hp => ?_⟩⟩
  have hc := (S1.fresh hp).1.2.2
  exact q A1 vs p _ (s1.trans (Step.new hp hc)) (S1.new hp) (r1.step (Step.new hp hc).toCar) upd_same
theorem snd_dget (G : GX T P lv N sc top X) {o : E} {es : Es} {z : D} {x zx : Expr} {xs : List Expr} {k : Nat} {apos cpos pos : Pos} (ho : PE X x (rd X.K (evE P o))) (hk : PA X xs (rdA X.K (evEs P es))) (hz : PE X zx (rd X.K (evE P (.k z)))) (ha : okA x = true) (hl : (apos.endLine == cpos.line) = true) (hx : okX zx = true) :
    PE X (.Call (.Attribute x "get" apos) [.Tuple xs k pos, zx] [] cpos) (rd X.K (evE P (.dget o es z))) := by
  have hst : starEach [.Tuple xs k pos, zx] X.env = [(false, eval (.Tuple xs k pos) X.env), (false, eval zx X.env)] := by
    rw [starEach_cons rfl, starEach_cons hx]
    rfl
  have m : M2 X x "get" apos (.Tuple xs k pos) zx cpos := ⟨attr_ok ha, by rw [hst]; rfl, hl, by rw [hst]; rfl⟩
  refine PEimp (pe_dget2 G.hu1 ho (key_tup hk) hz m) fun σ H Q q => ?_
  obtain ⟨A, w, S, d, w', e1, q⟩ := q
  obtain ⟨y, ea, e1⟩ := bd_split e1
  obtain ⟨q0, eq0, e1⟩ := bd_split e1
  obtain ⟨ys, eb, e1⟩ := bd_split e1
  obtain ⟨q1, eq1, e1⟩ := bd_split e1
  split at e1
  case isFalse => cases e1
  rename_i hc
  cases e1
  obtain ⟨hc, c4⟩ := Bool.and_eq_true_iff.mp hc
  obtain ⟨hc, c3⟩ := Bool.and_eq_true_iff.mp hc
  obtain ⟨c1, c2⟩ := Bool.and_eq_true_iff.mp hc
  refine ⟨A, w, S, y.1, y.2, ea, fun A1 v H1 s1 S1 r1 => ?_⟩
  obtain ⟨a, k0, ks, rfl, hy, q2, _, _, _, de⟩ := S1.dct r1 (of_split eq0)
  refine ⟨a, rfl, de.isD, A1, y.2, S1, ys.1, ys.2, eb, of_decide_eq_true c3, fun A2 vs p H2 s2 S2 r2 hp => ?_⟩
  refine ⟨A2, ys.2, S2, z, ys.2, rfl, fun A3 v3 H3 s3 S3 r3 => ?_⟩
  have hp3 : H3 p = some (.tup vs) := s3.tup _ _ hp
  have r4 := (r1.step s2.toCar).step s3.toCar
  obtain ⟨a', k1, ks1, hv, hy1, q3, _, _, _, de3⟩ := S3.dct r4 (of_split eq1)
  cases hv
  obtain ⟨ns, hns⟩ := Option.isSome_iff_exists.mp c2
  have hds := keyT_of hns
  have hvs := (r2.step s3.toCar).ints hns
  have n2 : q1.1 = 2 := of_decide_eq_true c1
  rcases de3 with ⟨kvs, _, h1, h2⟩ | ⟨kvs, n3, _, _⟩
  · have kk : keyT (.tup ys.1) (ns.map Sum.inl) := ⟨ns, by rw [hds], rfl⟩
    have hmap : vs = (ns.map (Sum.inl : Int → Key)).map kV := by
      rw [hvs, List.map_map]
      rfl
    refine ⟨valV kvs (ns.map Sum.inl), .inr ⟨kvs, ns.map Sum.inl, p, .inl h1, rfl, by rw [hp3, hmap], rfl⟩, ?_⟩
    refine (q.step ((s1.trans s2).trans s3)).here S3 ?_
    rcases h2.get (fun _ _ _ _ => keyT_eq) kk with ⟨g1, g2⟩ | ⟨d1, v1, g1, g2, g3⟩
    · rw [g1, g2]
      exact r3
    · rw [g1, g2]
      exact g3
  · omega
theorem snd_din (G : GX T P lv N sc top X) {n : Bool} {a b : E} {x y : Expr} {pos : Pos} (ha : Snd X P a x) (hb : Snd X P b y) (hy : okX y = true) : Snd X P (.din n a b) (.Compare x [if n then .NotIn else .In] [y] pos) := by
  have fin : ∀ σ H Q, rd X.K (evE P (.din n a b)) σ H Q → (rd X.K (evE P a)) σ H fun t H1 => (rd X.K (evE P b)) σ H1 fun u H2 => ∃ p o, u = .ref p ∧ DGet H2 p t o ∧ Q (.bl (xor n o.isSome)) H2 := fun σ H Q q => by
    obtain ⟨A, w, S, d, w', e1, q⟩ := q
    obtain ⟨z, ea, e1⟩ := bd_split e1
    obtain ⟨z2, eb, e1⟩ := bd_split e1
    obtain ⟨q1, eq1, e1⟩ := bd_split e1
    refine ⟨A, w, S, z.1, z.2, ea, fun A1 v H1 s1 S1 r1 => ⟨A1, z.2, S1, z2.1, z2.2, eb, fun A2 u H2 s2 S2 r2 => ?_⟩⟩
    obtain ⟨p, k0, ks, rfl, _, _, _, _, _, de⟩ := S2.dct r2 (of_split eq1)
    obtain ⟨d1, w1⟩ := z
    cases d1 with
    | int i =>
      have e1 : (if decide (q1.1 = 3) then R.ok (D.bl (xor n (getE q1.2 (.int i)).isSome), z2.2) else .err) = .ok (d, w') := e1
      split at e1
      case isFalse => cases e1
      rename_i hc
      cases e1
      have n2 : q1.1 = 3 := of_decide_eq_true hc
      rcases de with ⟨kvs, n3, _, _⟩ | ⟨kvs, _, h1, h2⟩
      · omega
      · have et : v = .int i := r1
        subst et
        have kk : keyI (.int i) (.inl i) := ⟨i, rfl, rfl⟩
        refine ⟨p, valV kvs (.inl i), rfl, .inl ⟨kvs, .inl i, .inl h1, rfl, rfl⟩, ?_⟩
        refine (q.step (s1.trans s2)).here S2 ?_
        rcases h2.get (fun _ _ _ _ => keyI_eq) kk with ⟨g1, g2⟩ | ⟨d1, v1, g1, g2, g3⟩
        · rw [g1, g2]; exact rfl
        · rw [g1, g2]; exact rfl
    | _ => cases e1
  have fin2 : ∀ w d w', evE P (.din n a b) w = .ok (d, w') → ∃ r, d = .bl r := fun w d w' e1 => by
    obtain ⟨z, ea, e1⟩ := bd_split e1
    obtain ⟨z2, eb, e1⟩ := bd_split e1
    obtain ⟨q1, eq1, e1⟩ := bd_split e1
    obtain ⟨d1, w1⟩ := z
    cases d1 with
    | int i =>
      have e1 : (if decide (q1.1 = 3) then R.ok (D.bl (xor n (getE q1.2 (.int i)).isSome), z2.2) else .err) = .ok (d, w') := e1
      split at e1
      case isFalse => cases e1
      cases e1
      exact ⟨_, rfl⟩
    | _ => cases e1
  cases n with
  | true =>
    refine Snd.cmp (pe_cmp (pc_dnotin G.hu1 ha.pe hb.pe) (behind_ok hy)) (pt_cmp (pc_dnotin G.hu1 ha.pe hb.pe) (behind_ok hy)) (fun σ H Q q => ?_) fin2 fun _ _ _ z => nomatch z
    have f := fin σ H Q q
    simp only [Bool.true_xor] at f
    exact f
  | false =>
    refine Snd.cmp (pe_cmp (pc_din G.hu1 ha.pe hb.pe) (behind_ok hy)) (pt_cmp (pc_din G.hu1 ha.pe hb.pe) (behind_ok hy)) (fun σ H Q q => ?_) fin2 fun _ _ _ z => nomatch z
    have f := fin σ H Q q
    simp only [Bool.false_xor] at f
    exact f
end
end Fz

/-! Q13: comprehensions; the checker of expressions and what it gives. -/
namespace Fz
open PySem PySem.Spec PyProof.Rows L2
section
variable {T : Tb} {P : Pg} {lv : Nat} {N : List Str} {sc : Scope} {top : Option Scope} {X : Cx}
theorem wipe_wipe (σ : Sl) (own : List Nat) : wipe (wipe σ own) own = wipe σ own := by
  apply List.ext_getElem?
  intro j
  rw [wipe_get, wipe_get]
  by_cases h : j ∈ own
  · rw [if_pos h, if_pos h]
    cases σ[j]? <;> rfl
  · rw [if_neg h, if_neg h]
theorem coL_read {t : Tg} {fi : Wd → R (Itd × Wd)} {fc : Wd → R (Bool × Wd)} {fe : Wd → R (D × Wd)} {own : List Nat} {md : Nat} (hs : ∀ i ∈ slotsT t, i ∈ own) (σ : Sl) (H : Hp) (Q : VK)
    (q : rd X.K (fun w => (fi w).bd fun x => (coL (asg t) fc fe x.1.ok own x.2.σ x.1.xs x.2 []).bd fun r => newL md r.1 r.2) σ H Q) : tLc (rdI X.K fi) (gD X.K t) (rdT X.K fc) (rd X.K fe) own σ H Q := by
  obtain ⟨A, w, S, d, w', e1, q⟩ := q
  obtain ⟨x, ex, e1⟩ := bd_split e1
  obtain ⟨r, er, e1⟩ := bd_split e1
  refine ⟨A, w, S, x.1, x.2, ex, fun A1 H1 J st1 S1 ok1 wd D hD => ?_⟩
  have op : Car A1 H1 { A1 with cn := D :: A1.cn } (upd H1 D (.lst [])) := Car.opens hD _
  have hDn : D ∉ A1.cn := (S1.fresh hD).1.2.2
  -- what holds between the turns
  let W : Nat → Hp → Prop := fun i Hh => i ≤ x.1.xs.length ∧ ∃ (A' : Ad) (w1 : Wd) (acc : List Fz.D) (vs : List V), Car { A1 with cn := D :: A1.cn } (upd H1 D (.lst [])) A' Hh ∧ A'.cn = D :: A1.cn ∧ (∀ b ∈ A1.cn, Hh b = H1 b) ∧
    Sim X.K Hh A' w1 σ ∧ w1.σ = x.2.σ ∧ Hh D = some (.lst vs) ∧ RDs X.K Hh A' acc vs ∧ x.1.ok w1 = true ∧ coL (asg t) fc fe x.1.ok own x.2.σ (x.1.xs.drop i) w1 acc = .ok r
  refine ⟨fun i m Hh => m = x.1.xs.length - i ∧ W i Hh, ⟨x.1.xs.length, by simp, Nat.zero_le _, { A1 with cn := D :: A1.cn }, x.2, [], [], Car.refl _ _, rfl, fun b hb => upd_ne (fun z => hDn (z ▸ hb)), S1.opens hD [], rfl, upd_same, rfl, ok1, er⟩, ?_⟩
  rintro i m Hh ⟨rfl, hi, A', w1, acc, vs, c, hcn, hk, S', hσ, hd, hacc, ok', hrun⟩
  have c1 : Car A1 H1 A' Hh := op.trans c
  by_cases hlt : i < x.1.xs.length
  · right
    obtain ⟨g1, g2⟩ := wd.go A' Hh w1 σ i c1 S' ok' hlt
    refine ⟨g1, W (i + 1), fun H' hw => ⟨_, by omega, rfl, hw⟩, fun v H' hy => ?_⟩
    obtain ⟨st2, S2, hv⟩ := g2 v H' hy
    have hxi : x.1.xs[i]? = some (x.1.xs[i]) := List.getElem?_eq_getElem hlt
    rw [List.drop_eq_getElem_cons hlt] at hrun
    obtain ⟨wa, ea, hrun⟩ := bd_split hrun
    obtain ⟨b, eb, hrun⟩ := bd_split hrun
    refine ⟨A', _, _, wa, S2.wiped own, hv _ hxi, by rw [hσ]; exact of_split ea, fun σ2 S3 m3 g3 ho => ⟨(ho own hs).trans (wipe_wipe σ own), A', wa, S3, b.1, b.2, eb, fun A3 H3 st3 S4 => ?_⟩⟩
    have sA : Step A' Hh A3 H3 := st2.trans st3
    cases hb : b.1 with
    | true =>
      rw [hb, if_pos rfl] at hrun
      refine iteT ?_
      obtain ⟨z, ez, hrun⟩ := bd_split hrun
      refine ⟨A3, b.2, S4, z.1, z.2, ez, fun A4 y H4 st4 S5 r5 => ?_⟩
      have sB : Step A' Hh A4 H4 := sA.trans st4
      have hD4 : H4 D = some (.lst vs) := (sB.cnk D (by rw [hcn]; exact List.mem_cons_self)).trans hd
      have hm4 : D ∈ A4.cn := by rw [sB.cn, hcn]; exact List.mem_cons_self
      split at hrun
      · rename_i hok
        obtain ⟨ok5, hz⟩ := Bool.and_eq_true_iff.mp hok
        have cg : Car A4 H4 A4 (upd H4 D (.lst (vs ++ [y]))) := Car.store (.inr (.inr hm4)) hD4
        refine ⟨vs, hD4, Nat.lt_of_lt_of_le (by rw [hacc.length]; exact of_decide_eq_true hz) (by decide), by omega, A4, { z.2 with σ := x.2.σ }, acc ++ [z.1], vs ++ [y], (c.trans sB.toCar).trans cg, by rw [sB.cn]; exact hcn, fun b hb => ?_, ?_, rfl, upd_same, ?_, ?_, ?_⟩
        · rw [upd_ne (show b ≠ D from fun z => hDn (z ▸ hb))]
          exact (sB.cnk b (by rw [hcn]; exact List.mem_cons_of_mem _ hb)).trans (hk b hb)
        · exact (S5.grow hm4 hD4 (vs ++ [y])).back S1 ((c1.trans sB.toCar).trans cg)
        · exact RDs.append ((hacc.step sB.toCar).step cg) (RDs.one (r5.step cg))
        · exact ok5
        · exact hrun
      · cases hrun
    | false =>
      rw [hb, if_neg Bool.false_ne_true] at hrun
      refine iteF ?_
      split at hrun
      · rename_i ok4
        refine ⟨by omega, A3, { b.2 with σ := x.2.σ }, acc, vs, c.trans sA.toCar, by rw [sA.cn]; exact hcn, fun b hb => ?_, ?_, rfl, ?_, hacc.step sA.toCar, ?_, ?_⟩
        · exact (sA.cnk b (by rw [hcn]; exact List.mem_cons_of_mem _ hb)).trans (hk b hb)
        · exact S4.back S1 (c1.trans sA.toCar)
        · exact (sA.cnk D (by rw [hcn]; exact List.mem_cons_self)).trans hd
        · exact ok4
        · exact hrun
      · cases hrun
  · left
    obtain rfl : i = x.1.xs.length := Nat.le_antisymm hi (Nat.le_of_not_lt hlt)
    refine ⟨wd.stop A' Hh w1 σ c1 S' ok', ?_⟩
    rw [List.drop_length] at hrun
    cases hrun
    obtain ⟨A2, c2, hc2, S2, r2⟩ := S'.closes e1 hcn hDn hd hacc
    have call := c1.trans c2
    exact q A2 (.ref D) Hh (st1.trans ⟨call, hc2, hk⟩) S2 r2
end
end Fz

/-! Q14: the checker of expressions and what it gives. -/
namespace Fz
open PySem PySem.Spec PyProof.Rows L2

def visB (sc : Scope) (x : Str) : Bool := match sc.names.lookup x with
  | some .local => true
  | some .cell => true
  | some .free => true
  | _ => false
theorem visB_ok {sc : Scope} {x : Str} (h : visB sc x = true) : Vis sc x := by
  unfold visB at h
  cases q : sc.names.lookup x with
  | none => rw [q] at h; cases h
  | some k =>
    rw [q] at h
    cases k with
    | «local» => exact .inl q
    | cell => exact .inr (.inl q)
    | free => exact .inr (.inr q)
    | _ => cases h
def glB (sc : Scope) (x : Str) : Bool := (match sc.names.lookup x with
  | some .globalImplicit => true
  | _ => false) && !(x == ("__debug__" : Str))
theorem glB_ok {sc : Scope} {x : Str} (h : glB sc x = true) : sc.names.lookup x = some .globalImplicit ∧ (x == ("__debug__" : Str)) = false := by
  obtain ⟨h1, h2⟩ := Bool.and_eq_true_iff.mp h
  refine ⟨?_, by simpa using h2⟩
  cases q : sc.names.lookup x with
  | none => rw [q] at h1; cases h1
  | some k =>
    rw [q] at h1
    cases k <;> first | rfl | cases h1
def ckK : D → Expr → Bool
  | .non, .Constant .none _ _ => true
  | .bl b, .Constant (.bool c) _ _ => b == c
  | .int i, .Constant (.int j) _ _ => decide (i = j)
  | .str s, .Constant (.str z) _ _ => decide (s = z)
  | _, _ => false
def opB : Operator → Operator → Bool
  | .Add, .Add => true
  | .Sub, .Sub => true
  | .Mult, .Mult => true
  | .Mod, .Mod => true
  | .Pow, .Pow => true
  | .LShift, .LShift => true
  | .BitXor, .BitXor => true
  | .BitAnd, .BitAnd => true
  | .FloorDiv, .FloorDiv => true
  | _, _ => false
theorem opB_ok : ∀ {a b : Operator}, opB a b = true → a = b := by
  intro a b h
  cases a <;> cases b <;> first | rfl | cases h
def cmB : CmpOp → CmpOp → Bool
  | .Eq, .Eq => true
  | .NotEq, .NotEq => true
  | .Lt, .Lt => true
  | .LtE, .LtE => true
  | .Gt, .Gt => true
  | .GtE, .GtE => true
  | .Is, .Is => true
  | .IsNot, .IsNot => true
  | .In, .In => true
  | .NotIn, .NotIn => true
  | _, _ => false
theorem cmB_ok : ∀ {a b : CmpOp}, cmB a b = true → a = b := by
  intro a b h
  cases a <;> cases b <;> first | rfl | cases h
def meB : Me → Bool
  | .append => true
  | .extend => true
  | .pop => true
  | _ => false
def ownN (N : List Str) (own : List Nat) : List (Str × Nat) := own.map fun i => (N.getD i "", i)
theorem ownN_slots (N : List Str) (own : List Nat) : (ownN N own).map (·.2) = own := by
  unfold ownN
  rw [List.map_map]
  exact List.map_id _
def nameB (s : Str) : Expr → Bool
  | .Name x _ => decide (x = s)
  | _ => false
theorem nameB_ok {s : Str} {e : Expr} (h : nameB s e = true) : ∃ p, e = .Name s p := by
  cases e with
  | Name x p => exact ⟨p, by rw [of_decide_eq_true (show decide (x = s) = true from h)]⟩
  | _ => cases h
section
variable (T : Tb) (lv : Nat) (N : List Str)
mutual
def ckE : Scope → Option Scope → E → Expr → Bool
  | sc, _, .v i, .Name x _ => decide (N[i]? = some x) && (visB sc x && (!(x == ("__debug__" : Str)) && !(x == ("__classdict__" : Str))))
  | _, _, .k d, ex => ckK d ex
  | sc, _, .gl i, .Name x _ => (match T.cons[i]? with
    | some c => decide (c.1 = x)
    | none => false) && glB sc x
  | sc, top, .op o _ a b, .BinOp x o' y _ => opB (oper o) o' && (ckE sc top a x && ckE sc top b y)
  | sc, top, .neg a, .UnaryOp .USub x _ => ckE sc top a x
  | sc, top, .no a, .UnaryOp .Not x _ => ckE sc top a x
  | sc, top, .an a b, .BoolOp .And (x :: y :: r) p => ckE sc top a x && (match r with
    | [] => ckE sc top b y
    | z :: r => (match b with
      | .an _ _ => true
      | _ => false) && ckE sc top b (.BoolOp .And (y :: z :: r) p))
  | sc, top, .or a b, .BoolOp .Or (x :: y :: r) p => ckE sc top a x && (match r with
    | [] => ckE sc top b y
    | z :: r => (match b with
      | .or _ _ => true
      | _ => false) && ckE sc top b (.BoolOp .Or (y :: z :: r) p))
  | sc, top, .cm c a b, .Compare x [o] [y] _ => cmB (cmOp c) o && (okX y && (ckE sc top a x && ckE sc top b y))
  | sc, top, .ch a c b c2 d, .Compare x [o, o2] [y, z] _ => cmB (cmOp c) o && (cmB (cmOp c2) o2 && (okX y && (okX z && (ckE sc top a x && (ckE sc top b y && ckE sc top d z)))))
  | sc, top, .ite c a b, .IfExp x y z _ => ckE sc top c x && (ckE sc top a y && ckE sc top b z)
  | sc, top, .tup es, .Tuple xs _ _ => ckEs sc top es xs
  | sc, top, .lst _ es, .List xs _ => ckEs sc top es xs
  | sc, top, .ix a i, .Subscript x y _ => okX y && (ckE sc top a x && ckE sc top i y)
  | sc, top, .lrg tp _ (.cons e .nil), .Call (.Name f _) [.Call (.Name r _) [x] [] _] [] _ => decide (r = ("range" : Str)) && (decide (f = if tp then ("tuple" : Str) else "list") && (glB sc r && (glB sc f && (decide (r ∈ T.free) && (decide (f ∈ T.free) && (okX x && ckE sc top e x))))))
  | sc, top, .lrg tp _ (.cons e (.cons e2 .nil)), .Call (.Name f _) [.Call (.Name r _) [x, y] [] _] [] _ => decide (r = ("range" : Str)) && (decide (f = if tp then ("tuple" : Str) else "list") && (glB sc r && (glB sc f && (decide (r ∈ T.free) && (decide (f ∈ T.free) && (okX x && (okX y && (ckE sc top e x && ckE sc top e2 y))))))))
  | sc, top, .dis ks es, .Dict keys vals _ => (!keys.isEmpty && Nat.ble keys.length 15) && ckDs sc top ks es keys vals
  | sc, top, .sl _ a lo hi, .Subscript x (.Slice xl xh none _) _ => ckE sc top a x && (ckO sc top lo xl && ckO sc top hi xh)
  | sc, top, .rev _ a, .Subscript x (.Slice none none (some (.UnaryOp .USub (.Constant (.int 1) _ _) _)) _) _ => ckE sc top a x
  | sc, top, .call j pm es ks, .Call (.Name x _) xs kws _ => (match T.defs[j]? with
    | some dd => decide (dd.1 = x) && decide (arity pm (xs.length + kws.length) = dd.2.length)
    | none => false) && (decide (j < lv) && (glB sc x && (ckEs sc top es xs && (ckKs sc top ks kws && (match kwN kws with
      | some kn => decide ((j, xs.length, kn, pm) ∈ T.binds)
      | none => false)))))
  | sc, top, .bi b _ es, .Call (.Name x _) (x0 :: xs) [] _ => decide (x = biName b) && (glB sc x && (decide (x ∈ T.free) && ckEs sc top es (x0 :: xs)))
  | sc, top, .me m o .nil, .Call (.Attribute x nm ap) [] [] cp => meB m && (decide (nm = meName m) && (okA x && ((ap.endLine == cp.line) && ckE sc top o x)))
  | sc, top, .me m o (.cons e .nil), .Call (.Attribute x nm ap) [y] [] cp => meB m && (decide (nm = meName m) && (okA x && ((ap.endLine == cp.line) && (okX y && (ckE sc top o x && ckE sc top e y)))))
  | sc, top, .isi e t, .Call (.Name f _) [x, y] [] _ => decide (f = ("isinstance" : Str)) && (nameB (Str.ofString (tyS t)) y && (glB sc f && (glB sc (Str.ofString (tyS t)) && (decide (f ∈ T.free) && (decide (Str.ofString (tyS t) ∈ T.free) && (okX x && ckE sc top e x))))))
  | _, _, .dnew _, .Dict [] [] _ => true
  | sc, top, .dget o es z, .Call (.Attribute x nm ap) [kx, zx] [] cp => decide (nm = ("get" : Str)) && (okA x && ((ap.endLine == cp.line) && (okX zx && (ckK z zx && (ckE sc top o x && (match kx with
    | .Tuple xs _ _ => ckEs sc top es xs
    | _ => false))))))
  | sc, top, .din n k o, .Compare x [op] [y] _ => cmB (if n then .NotIn else .In) op && (okX y && (ckE sc top k x && ckE sc top o y))
  | sc, top, .co _ t it c e own, .ListComp x [⟨tg, iter, ifs, 0⟩] scope _ => ckI sc top it tg iter && (okX iter && (ckT N (relS scope sc) (some scope) t tg && (ckC (relS scope sc) (some scope) c ifs && (ckE (relS scope sc) (some scope) e x && (blkC N sc scope (ownN N own) && (slotsT t).all (fun i => own.contains i))))))
  | _, _, _, _ => false
def ckEs : Scope → Option Scope → Es → List Expr → Bool
  | _, _, .nil, [] => true
  | sc, top, .cons e r, x :: xs => okX x && (ckE sc top e x && ckEs sc top r xs)
  | _, _, _, _ => false
def ckDs : Scope → Option Scope → List Str → Es → List (Option Expr) → List Expr → Bool
  | _, _, [], .nil, [], [] => true
  | sc, top, k :: ks, .cons e r, some (.Constant (.str x) _ _) :: keys, v :: vals => decide (k = x) && (ckE sc top e v && ckDs sc top ks r keys vals)
  | _, _, _, _, _, _ => false
def ckKs : Scope → Option Scope → Es → List Keyword → Bool
  | _, _, .nil, [] => true
  | sc, top, .cons e r, ⟨_, x, _⟩ :: xs => ckE sc top e x && ckKs sc top r xs
  | _, _, _, _ => false
def ckO : Scope → Option Scope → Oe → Option Expr → Bool
  | _, _, .no, none => true
  | sc, top, .so e, some x => ckE sc top e x
  | _, _, _, _ => false
def ckC : Scope → Option Scope → Oe → List Expr → Bool
  | _, _, .no, [] => true
  | sc, top, .so e, [x] => ckE sc top e x
  | _, _, _, _ => false
def ckI : Scope → Option Scope → It → Expr → Expr → Bool
  | sc, top, .seq e, _, x => ckE sc top e x
  | sc, top, .rng (.cons e .nil), _, .Call (.Name x _) [y] [] _ => decide (x = ("range" : Str)) && (glB sc x && (decide (x ∈ T.free) && (okX y && ckE sc top e y)))
  | sc, top, .rng (.cons e (.cons e2 .nil)), _, .Call (.Name x _) [y, z] [] _ => decide (x = ("range" : Str)) && (glB sc x && (decide (x ∈ T.free) && (okX y && (okX z && (ckE sc top e y && ckE sc top e2 z)))))
  | sc, top, .rng (.cons e (.cons e2 (.cons e3 .nil))), _, .Call (.Name x _) [y, z, z2] [] _ => decide (x = ("range" : Str)) && (glB sc x && (decide (x ∈ T.free) && (okX y && (okX z && (okX z2 && (ckE sc top e y && (ckE sc top e2 z && ckE sc top e3 z2)))))))
  | sc, top, .enu e, .Tuple _ _ _, .Call (.Name x _) [y] [] _ => decide (x = ("enumerate" : Str)) && (glB sc x && (decide (x ∈ T.free) && (okX y && ckE sc top e y)))
  | sc, top, .zip e e2, .Tuple _ _ _, .Call (.Name x _) [y, z] [] _ => decide (x = ("zip" : Str)) && (glB sc x && (decide (x ∈ T.free) && (okX y && (okX z && (ckE sc top e y && ckE sc top e2 z)))))
  | _, _, _, _, _ => false
end
end
section
variable {T : Tb} {P : Pg} {lv : Nat} {N : List Str}
theorem and1 {a b : Bool} (h : (a && b) = true) : a = true ∧ b = true := Bool.and_eq_true_iff.mp h
theorem ckEs_ok {sc : Scope} {top : Option Scope} : ∀ {es : Es} {xs : List Expr}, ckEs T lv N sc top es xs = true → xs.all okX = true ∧ es.len = xs.length
  | .nil, [], _ => ⟨rfl, rfl⟩
  | .nil, _ :: _, h => nomatch h
  | .cons _ _, [], h => nomatch h
  | .cons e r, x :: xs, h => by
    obtain ⟨h1, h2⟩ := and1 h
    obtain ⟨h3, h4⟩ := and1 h2
    obtain ⟨i1, i2⟩ := ckEs_ok h4
    exact ⟨by rw [List.all_cons, h1, i1]; rfl, by show r.len + 1 = xs.length + 1; rw [i2]⟩
theorem ckKs_ok {sc : Scope} {top : Option Scope} : ∀ {es : Es} {xs : List Keyword}, ckKs T lv N sc top es xs = true → es.len = xs.length
  | .nil, [], _ => rfl
  | .nil, _ :: _, h => nomatch h
  | .cons _ _, [], h => nomatch h
  | .cons e r, ⟨nm, x, kp⟩ :: xs, h => by
    obtain ⟨h1, h2⟩ := and1 h
    show r.len + 1 = xs.length + 1
    rw [ckKs_ok h2]
theorem snd_k {X : Cx} {d : D} {ex : Expr} (h : ckK d ex = true) : Snd X P (.k d) ex := by
  cases ex with
  | Constant c k pos =>
    refine Snd.plain ?_ rfl
    cases d with
    | non =>
      cases c with
      | none => exact snd_const pe_non fun _ _ => rfl
      | _ => cases h
    | bl b =>
      cases c with
      | bool c =>
        obtain rfl : b = c := eq_of_beq h
        exact snd_const pe_bl fun _ _ => rfl
      | _ => cases h
    | int i =>
      cases c with
      | int j =>
        obtain rfl : i = j := of_decide_eq_true h
        exact snd_const pe_int fun _ _ => rfl
      | _ => cases h
    | str s =>
      cases c with
      | str z =>
        obtain rfl : s = z := of_decide_eq_true h
        exact snd_const pe_str fun _ _ => rfl
      | _ => cases h
    | _ => cases h
  | _ => cases d <;> cases h
mutual
theorem sndE : ∀ (e : E) (sc : Scope) (top : Option Scope) (X : Cx) (ex : Expr), GX T P lv N sc top X → ckE T lv N sc top e ex = true → Snd X P e ex
  | .v i, sc, top, X, ex, G, h => by
    cases ex with
    | Name x pos =>
      obtain ⟨h1, h2⟩ := and1 h
      obtain ⟨h2, h3⟩ := and1 h2
      obtain ⟨h3, h4⟩ := and1 h3
      exact Snd.plain (snd_var G (of_decide_eq_true h1) (visB_ok h2) (by simpa using h3) (by simpa using h4)) rfl
    | _ => cases h
  | .k d, sc, top, X, ex, G, h => snd_k h
  | .gl i, sc, top, X, ex, G, h => by
    cases ex with
    | Name x pos =>
      obtain ⟨h1, h2⟩ := and1 h
      obtain ⟨h2, h3⟩ := glB_ok h2
      cases q : T.cons[i]? with
      | none => rw [q] at h1; cases h1
      | some c =>
        rw [q] at h1
        obtain rfl : c.1 = x := of_decide_eq_true h1
        exact Snd.plain (snd_glob G q h2 h3) rfl
    | _ => cases h
  | .op o md a b, sc, top, X, ex, G, h => by
    cases ex with
    | BinOp x o' y pos =>
      obtain ⟨h1, h2⟩ := and1 h
      obtain ⟨h2, h3⟩ := and1 h2
      obtain rfl := opB_ok h1
      exact Snd.plain (snd_op G (sndE a sc top X x G h2) (sndE b sc top X y G h3)) rfl
    | _ => cases h
  | .neg a, sc, top, X, ex, G, h => by
    cases ex with
    | UnaryOp op x pos =>
      cases op with
      | USub => exact Snd.plain (snd_neg G (sndE a sc top X x G h)) rfl
      | _ => cases h
    | _ => cases h
  | .no a, sc, top, X, ex, G, h => by
    cases ex with
    | UnaryOp op x pos =>
      cases op with
      | Not => exact snd_not G (sndE a sc top X x G h)
      | _ => cases h
    | _ => cases h
  | .an a b, sc, top, X, ex, G, h => by
    cases ex with
    | BoolOp op vs pos =>
      cases op with
      | Or => cases h
      | And =>
        match vs, h with
        | [], h => cases h
        | [_], h => cases h
        | [x, y], h =>
          obtain ⟨h1, h2⟩ := and1 h
          obtain ⟨p1, p2⟩ := snd_one (pos := pos) .And (sndE b sc top X y G h2)
          exact snd_and G (sndE a sc top X x G h1) p1 p2
        | x :: y :: z :: r, h =>
          obtain ⟨h1, h2⟩ := and1 h
          obtain ⟨h2, h3⟩ := and1 h2
          have s := sndE b sc top X (.BoolOp .And (y :: z :: r) pos) G h3
          exact snd_and G (sndE a sc top X x G h1) s.pe (s.pw _ _ _ rfl)
    | _ => cases h
  | .or a b, sc, top, X, ex, G, h => by
    cases ex with
    | BoolOp op vs pos =>
      cases op with
      | And => cases h
      | Or =>
        match vs, h with
        | [], h => cases h
        | [_], h => cases h
        | [x, y], h =>
          obtain ⟨h1, h2⟩ := and1 h
          obtain ⟨p1, p2⟩ := snd_one (pos := pos) .Or (sndE b sc top X y G h2)
          exact snd_or G (sndE a sc top X x G h1) p1 p2
        | x :: y :: z :: r, h =>
          obtain ⟨h1, h2⟩ := and1 h
          obtain ⟨h2, h3⟩ := and1 h2
          have s := sndE b sc top X (.BoolOp .Or (y :: z :: r) pos) G h3
          exact snd_or G (sndE a sc top X x G h1) s.pe (s.pw _ _ _ rfl)
    | _ => cases h
  | .cm c a b, sc, top, X, ex, G, h => by
    cases ex with
    | Compare x os ys pos =>
      match os, ys, h with
      | [o], [y], h =>
        obtain ⟨h1, h2⟩ := and1 h
        obtain ⟨h2, h3⟩ := and1 h2
        obtain ⟨h3, h4⟩ := and1 h3
        obtain rfl := cmB_ok h1
        exact snd_cm G (sndE a sc top X x G h3) (sndE b sc top X y G h4) h2
      | [], _, h => cases h
      | [_], [], h => cases h
      | [_], _ :: _ :: _, h => cases h
      | _ :: _ :: _, _, h => cases h
    | _ => cases h
  | .ch a c b c2 d, sc, top, X, ex, G, h => by
    cases ex with
    | Compare x os ys pos =>
      match os, ys, h with
      | [o, o2], [y, z], h =>
        obtain ⟨h1, h2⟩ := and1 h
        obtain ⟨h2, h3⟩ := and1 h2
        obtain ⟨h3, h4⟩ := and1 h3
        obtain ⟨h4, h5⟩ := and1 h4
        obtain ⟨h5, h6⟩ := and1 h5
        obtain ⟨h6, h7⟩ := and1 h6
        obtain rfl := cmB_ok h1
        obtain rfl := cmB_ok h2
        exact snd_ch G (sndE a sc top X x G h5) (sndE b sc top X y G h6) (sndE d sc top X z G h7) h3 h4
      | [], _, h => cases h
      | [_], _, h => cases h
      | [_, _], [], h => cases h
      | [_, _], [_], h => cases h
      | [_, _], _ :: _ :: _ :: _, h => cases h
      | _ :: _ :: _ :: _, _, h => cases h
    | _ => cases h
  | .ite c a b, sc, top, X, ex, G, h => by
    cases ex with
    | IfExp x y z pos =>
      obtain ⟨h1, h2⟩ := and1 h
      obtain ⟨h2, h3⟩ := and1 h2
      exact snd_ite G (sndE c sc top X x G h1) (sndE a sc top X y G h2) (sndE b sc top X z G h3)
    | _ => cases h
  | .tup es, sc, top, X, ex, G, h => by
    cases ex with
    | Tuple xs k pos => exact Snd.plain (snd_tup (sndEs es sc top X xs G h)) rfl
    | _ => cases h
  | .lst md es, sc, top, X, ex, G, h => by
    cases ex with
    | List xs pos => exact Snd.plain (snd_lst (sndEs es sc top X xs G h)) rfl
    | _ => cases h
  | .ix a i, sc, top, X, ex, G, h => by
    cases ex with
    | Subscript x y pos =>
      obtain ⟨h1, h2⟩ := and1 h
      obtain ⟨h2, h3⟩ := and1 h2
      exact Snd.plain (snd_ix G.hu1 (sndE a sc top X x G h2) (sndE i sc top X y G h3) h1) rfl
    | _ => cases h
  | .lrg tp md es, sc, top, X, ex, G, h => by
    match es, ex, h with
    | .cons e .nil, .Call (.Name f p2) [.Call (.Name r p) [x] [] pos] [] pos2, h =>
      obtain ⟨h1, k1⟩ := and1 h
      obtain ⟨h2, k2⟩ := and1 k1
      obtain ⟨h3, k3⟩ := and1 k2
      obtain ⟨h4, k4⟩ := and1 k3
      obtain ⟨h5, k5⟩ := and1 k4
      obtain ⟨h6, k6⟩ := and1 k5
      obtain ⟨h7, k7⟩ := and1 k6
      obtain rfl : r = "range" := of_decide_eq_true h1
      exact Snd.plain (snd_lrg1 G (sndE e sc top X x G k7).pe (of_decide_eq_true h2) (glB_ok h3).1 (glB_ok h4).1 (of_decide_eq_true h5) (of_decide_eq_true h6) h7) rfl
    | .cons e (.cons e2 .nil), .Call (.Name f p2) [.Call (.Name r p) [x, y] [] pos] [] pos2, h =>
      obtain ⟨h1, k1⟩ := and1 h
      obtain ⟨h2, k2⟩ := and1 k1
      obtain ⟨h3, k3⟩ := and1 k2
      obtain ⟨h4, k4⟩ := and1 k3
      obtain ⟨h5, k5⟩ := and1 k4
      obtain ⟨h6, k6⟩ := and1 k5
      obtain ⟨h7, k7⟩ := and1 k6
      obtain ⟨h8, k8⟩ := and1 k7
      obtain ⟨h9, k9⟩ := and1 k8
      obtain rfl : r = "range" := of_decide_eq_true h1
      exact Snd.plain (snd_lrg2 G (sndE e sc top X x G h9).pe (sndE e2 sc top X y G k9).pe (of_decide_eq_true h2) (glB_ok h3).1 (glB_ok h4).1 (of_decide_eq_true h5) (of_decide_eq_true h6) h7 h8) rfl
  | .dis ks es, sc, top, X, ex, G, h => by
    cases ex with
    | Dict keys vals pos =>
      obtain ⟨h1, h2⟩ := and1 h
      obtain ⟨h3, h4⟩ := and1 h1
      exact Snd.plain (snd_dis (sndDs es ks sc top X keys vals G h2) (by intro z; subst z; cases h3) (Nat.le_of_ble_eq_true h4)) rfl
    | _ => cases h
  | .sl md a lo hi, sc, top, X, ex, G, h => by
    cases ex with
    | Subscript x y pos =>
      cases y with
      | Slice xl xh st p2 =>
        cases st with
        | none =>
          obtain ⟨h1, h2⟩ := and1 h
          obtain ⟨h2, h3⟩ := and1 h2
          exact Snd.plain (snd_sl (sndE a sc top X x G h1).pe (sndO lo sc top X xl G h2) (sndO hi sc top X xh G h3)) rfl
        | some _ => cases h
      | _ => cases h
    | _ => cases h
  | .rev md a, sc, top, X, ex, G, h => by
    have hx : ∃ x k p1 p2 p3 pos, ex = .Subscript x (.Slice none none (some (.UnaryOp .USub (.Constant (.int 1) k p1) p2)) p3) pos ∧ ckE T lv N sc top a x = true := by
      unfold ckE at h
      split at h <;> first | (cases h; done) | skip
      all_goals (try rename_i heq; try cases heq)
      all_goals first
        | exact ⟨_, _, _, _, _, _, rfl, h⟩
        | contradiction
    obtain ⟨x, k, p1, p2, p3, pos, rfl, h⟩ := hx
    exact Snd.plain (snd_rev (sndE a sc top X x G h).pe) rfl
  | .isi e t, sc, top, X, ex, G, h => by
    match ex, h with
    | .Call (.Name f p) [x, y] [] pos, h =>
      obtain ⟨h1, k1⟩ := and1 h
      obtain ⟨h2, k2⟩ := and1 k1
      obtain ⟨h3, k3⟩ := and1 k2
      obtain ⟨h4, k4⟩ := and1 k3
      obtain ⟨h5, k5⟩ := and1 k4
      obtain ⟨h6, k6⟩ := and1 k5
      obtain ⟨h7, k7⟩ := and1 k6
      obtain rfl : f = "isinstance" := of_decide_eq_true h1
      obtain ⟨p2, rfl⟩ := nameB_ok h2
      exact Snd.plain (snd_isi G (sndE e sc top X x G k7).pe h7 (glB_ok h3).1 (glB_ok h4).1 (of_decide_eq_true h5) (of_decide_eq_true h6)) rfl
  | .dnew b, sc, top, X, ex, G, h => by
    match ex, h with
    | .Dict [] [] pos, h => exact Snd.plain snd_dnew rfl
  | .dget o es z, sc, top, X, ex, G, h => by
    match ex, h with
    | .Call (.Attribute x nm ap) [kx, zx] [] cp, h =>
      obtain ⟨h1, k1⟩ := and1 h
      obtain ⟨h2, k2⟩ := and1 k1
      obtain ⟨h3, k3⟩ := and1 k2
      obtain ⟨h4, k4⟩ := and1 k3
      obtain ⟨h5, k5⟩ := and1 k4
      obtain ⟨h6, h7⟩ := and1 k5
      obtain rfl : nm = "get" := of_decide_eq_true h1
      cases kx with
      | Tuple xs k p => exact Snd.plain (snd_dget G (sndE o sc top X x G h6).pe (sndEs es sc top X xs G h7) (snd_k h5).pe h2 h3 h4) rfl
      | _ => cases h7
  | .din n a b, sc, top, X, ex, G, h => by
    match ex, h with
    | .Compare x [o] [y] pos, h =>
      obtain ⟨h1, k1⟩ := and1 h
      obtain ⟨h2, k2⟩ := and1 k1
      obtain ⟨h3, h4⟩ := and1 k2
      obtain rfl := cmB_ok h1
      exact snd_din G (sndE a sc top X x G h3) (sndE b sc top X y G h4) h2
  | .call j pm es ks, sc, top, X, ex, G, h => by
    cases ex with
    | Call f xs kws pos =>
      cases f with
      | Name x p =>
        obtain ⟨h1, k2⟩ := and1 h
        obtain ⟨h2, k3⟩ := and1 k2
        obtain ⟨h3, k4⟩ := and1 k3
        obtain ⟨h4, k5⟩ := and1 k4
        obtain ⟨h5, h6⟩ := and1 k5
        obtain ⟨g1, g2⟩ := glB_ok h3
        cases q : T.defs[j]? with
        | none => rw [q] at h1; cases h1
        | some dd =>
          rw [q] at h1
          obtain ⟨h7, h8⟩ := and1 h1
          obtain rfl : dd.1 = x := of_decide_eq_true h7
          cases q2 : kwN kws with
          | none => rw [q2] at h6; cases h6
          | some kn =>
            rw [q2] at h6
            obtain ⟨o1, o2⟩ := ckEs_ok h4
            exact Snd.plain (snd_call G q (of_decide_eq_true h2) g1 g2 (sndEs es sc top X xs G h4) (sndKs ks sc top X kws G h5) o1 q2 (of_decide_eq_true h6) o2 (ckKs_ok h5) (of_decide_eq_true h8)) rfl
      | _ => cases h
    | _ => cases h
  | .bi b md es, sc, top, X, ex, G, h => by
    cases ex with
    | Call f xs kws pos =>
      cases f with
      | Name x p =>
        cases xs with
        | nil => cases h
        | cons x0 xs =>
          cases kws with
          | cons _ _ => cases h
          | nil =>
            obtain ⟨h1, h2⟩ := and1 h
            obtain ⟨h2, h3⟩ := and1 h2
            obtain ⟨h3, h4⟩ := and1 h3
            obtain rfl : x = biName b := of_decide_eq_true h1
            obtain ⟨g1, g2⟩ := glB_ok h2
            exact Snd.plain (snd_bi G (sndEs es sc top X (x0 :: xs) G h4) g1 (of_decide_eq_true h3) (ckEs_ok h4).1) rfl
      | _ => cases xs <;> cases h
    | _ => cases h
  | .me m o es, sc, top, X, ex, G, h => by
    cases ex with
    | Call f xs kws pos =>
      cases f with
      | Attribute x nm ap =>
        match es, xs, kws, h with
        | .nil, [], [], h =>
          obtain ⟨h1, h2⟩ := and1 h
          obtain ⟨h2, h3⟩ := and1 h2
          obtain ⟨h3, h4⟩ := and1 h3
          obtain ⟨h4, h5⟩ := and1 h4
          obtain rfl : nm = meName m := of_decide_eq_true h2
          exact Snd.plain (snd_me0 m (by cases m <;> first | rfl | cases h1) (sndE o sc top X x G h5).pe h3 h4) rfl
        | .cons e .nil, [y], [], h =>
          obtain ⟨h1, h2⟩ := and1 h
          obtain ⟨h2, h3⟩ := and1 h2
          obtain ⟨h3, h4⟩ := and1 h3
          obtain ⟨h4, h5⟩ := and1 h4
          obtain ⟨h5, h6⟩ := and1 h5
          obtain ⟨h6, h7⟩ := and1 h6
          obtain rfl : nm = meName m := of_decide_eq_true h2
          exact Snd.plain (snd_me1 m (by cases m <;> first | rfl | cases h1) (sndE o sc top X x G h6).pe (sndE e sc top X y G h7).pe h3 h4 h5) rfl
        | .nil, _ :: _, _, h => cases h
        | .nil, [], _ :: _, h => cases h
        | .cons _ .nil, [], _, h => cases h
        | .cons _ .nil, [_], _ :: _, h => cases h
        | .cons _ .nil, _ :: _ :: _, _, h => cases h
        | .cons _ (.cons _ _), _, _, h => cases h
      | _ => cases es with
        | nil => cases h
        | cons _ r => cases r <;> cases h
    | _ => cases es with
      | nil => cases h
      | cons _ r => cases r <;> cases h
  | .co md t it c e own, sc, top, X, ex, G, h => by
    have hx : ∃ x tg iter ifs scope pos, ex = .ListComp x [⟨tg, iter, ifs, 0⟩] scope pos ∧ (ckI T lv N sc top it tg iter && (okX iter && (ckT N (relS scope sc) (some scope) t tg && (ckC T lv N (relS scope sc) (some scope) c ifs && (ckE T lv N (relS scope sc) (some scope) e x && (blkC N sc scope (ownN N own) && (slotsT t).all (fun i => own.contains i))))))) = true := by
      unfold ckE at h
      split at h <;> first | (cases h; done) | skip
      all_goals (try rename_i heq; try cases heq)
      all_goals first
        | exact ⟨_, _, _, _, _, _, rfl, h⟩
        | contradiction
    obtain ⟨x, tg, iter, ifs, scope, pos, rfl, h⟩ := hx
    obtain ⟨h1, h2⟩ := and1 h
    obtain ⟨h2, h3⟩ := and1 h2
    obtain ⟨h3, h4⟩ := and1 h3
    obtain ⟨h4, h5⟩ := and1 h4
    obtain ⟨h5, h6⟩ := and1 h5
    obtain ⟨h6, h7⟩ := and1 h6
    have ok := blkOk_by h6
    have hs : ∀ i ∈ slotsT t, i ∈ own := fun i hi => by simpa using List.all_eq_true.mp h7 i hi
    refine Snd.plain (PEimp (pe_lc (own := ownN N own) (wi := rdI X.K (evI P it)) (g := gD X.K t) (tt := rdT X.K (evC P c)) (te := rd X.K (evE P e)) G.calm (by rw [G.hN]; exact G.nd) (sndI it sc top X tg iter G h1) (by rw [G.hN, G.sco]; exact ok)
      (fun s H C cl fp => sndT (G.blk ok.kind s H C cl fp) t tg h3) (fun s H C cl fp => sndC c _ _ _ ifs (G.blk ok.kind s H C cl fp) h4)
      (fun s H C cl fp => (sndE e _ _ _ x (G.blk ok.kind s H C cl fp) h5).pe) (folded_ok h2)) fun σ H Q q => ?_) rfl
    rw [ownN_slots]
    exact coL_read hs σ H Q q
theorem sndEs : ∀ (es : Es) (sc : Scope) (top : Option Scope) (X : Cx) (xs : List Expr), GX T P lv N sc top X → ckEs T lv N sc top es xs = true → PA X xs (rdA X.K (evEs P es))
  | .nil, sc, top, X, xs, G, h => by
    cases xs with
    | nil => exact snd_nil
    | cons _ _ => cases h
  | .cons e r, sc, top, X, xs, G, h => by
    cases xs with
    | nil => cases h
    | cons x xs =>
      obtain ⟨h1, h2⟩ := and1 h
      obtain ⟨h2, h3⟩ := and1 h2
      exact snd_cons (sndE e sc top X x G h2).pe (sndEs r sc top X xs G h3) h1
theorem sndKs : ∀ (es : Es) (sc : Scope) (top : Option Scope) (X : Cx) (xs : List Keyword), GX T P lv N sc top X → ckKs T lv N sc top es xs = true → PK X xs (rdA X.K (evEs P es))
  | .nil, sc, top, X, xs, G, h => by
    cases xs with
    | nil => exact snd_knil
    | cons _ _ => cases h
  | .cons e r, sc, top, X, xs, G, h => by
    cases xs with
    | nil => cases h
    | cons x xs =>
      obtain ⟨nm, x, kp⟩ := x
      obtain ⟨h2, h3⟩ := and1 h
      exact snd_kcons (sndE e sc top X x G h2).pe (sndKs r sc top X xs G h3)
theorem sndO : ∀ (o : Oe) (sc : Scope) (top : Option Scope) (X : Cx) (x : Option Expr), GX T P lv N sc top X → ckO T lv N sc top o x = true → PO X x (rdO X.K (evO P o))
  | .no, sc, top, X, x, G, h => by
    cases x with
    | none => exact snd_ono
    | some _ => cases h
  | .so e, sc, top, X, x, G, h => by
    cases x with
    | none => cases h
    | some x => exact snd_oso (sndE e sc top X x G h).pe
theorem sndC : ∀ (o : Oe) (sc : Scope) (top : Option Scope) (X : Cx) (xs : List Expr), GX T P lv N sc top X → ckC T lv N sc top o xs = true → PTs X xs (rdT X.K (evC P o))
  | .no, sc, top, X, xs, G, h => by
    cases xs with
    | nil =>
      refine ⟨fun pins s σ H Q I q => pts_nil.run pins s σ H Q I ?_⟩
      obtain ⟨A, w, S, b, w', e, q⟩ := q
      cases e
      exact q A H (Step.refl A H) S
    | cons _ _ => cases h
  | .so e, sc, top, X, xs, G, h => by
    match xs, h with
    | [], h => cases h
    | [x], h => exact pts_one (sndE e sc top X x G h).pt
    | _ :: _ :: _, h => cases h
theorem sndDs : ∀ (es : Es) (ks : List Str) (sc : Scope) (top : Option Scope) (X : Cx) (keys : List (Option Expr)) (vals : List Expr), GX T P lv N sc top X → ckDs T lv N sc top ks es keys vals = true → PrOk X P ks es keys vals
  | .nil, ks, sc, top, X, keys, vals, G, h => by
    match ks, keys, vals, h with
    | [], [], [], h => exact .nil
    | [], [], _ :: _, h => cases h
    | [], _ :: _, _, h => cases h
    | _ :: _, [], _, h => cases h
    | _ :: _, none :: _, _, h => cases h
    | _ :: _, some k :: _, vals, h => cases k <;> first | (cases h; done) | (rename_i c _ _; cases c <;> first | (cases h; done) | (cases vals <;> cases h))
  | .cons e r, ks, sc, top, X, keys, vals, G, h => by
    match ks, keys, vals, h with
    | k :: ks, some (.Constant (.str x) _ _) :: keys, v :: vals, h =>
      obtain ⟨h1, h2⟩ := and1 h
      obtain ⟨h2, h3⟩ := and1 h2
      have e1 := of_decide_eq_true h1
      subst e1
      exact .cons (sndE e sc top X _ G h2).pe (sndDs r _ sc top X _ _ G h3)
theorem sndI : ∀ (it : It) (sc : Scope) (top : Option Scope) (X : Cx) (tg iter : Expr), GX T P lv N sc top X → ckI T lv N sc top it tg iter = true → PI X tg iter (rdI X.K (evI P it))
  | .seq e, sc, top, X, tg, iter, G, h => snd_iseq (sndE e sc top X iter G h).pe
  | .rng es, sc, top, X, tg, iter, G, h => by
    cases iter with
    | Call f xs kws pos =>
      cases f with
      | Name x p =>
        match es, xs, kws, h with
        | .cons e .nil, [y], [], h =>
          obtain ⟨h1, h2⟩ := and1 h
          obtain ⟨h2, h3⟩ := and1 h2
          obtain ⟨h3, h4⟩ := and1 h3
          obtain ⟨h4, h5⟩ := and1 h4
          obtain rfl : x = "range" := of_decide_eq_true h1
          exact snd_rng1 G (sndE e sc top X y G h5).pe (glB_ok h2).1 (of_decide_eq_true h3) h4
        | .cons e (.cons e2 .nil), [y, z], [], h =>
          obtain ⟨h1, h2⟩ := and1 h
          obtain ⟨h2, h3⟩ := and1 h2
          obtain ⟨h3, h4⟩ := and1 h3
          obtain ⟨h4, h5⟩ := and1 h4
          obtain ⟨h5, h6⟩ := and1 h5
          obtain ⟨h6, h7⟩ := and1 h6
          obtain rfl : x = "range" := of_decide_eq_true h1
          exact snd_rng2 G (sndE e sc top X y G h6).pe (sndE e2 sc top X z G h7).pe (glB_ok h2).1 (of_decide_eq_true h3) h4 h5
        | .cons e (.cons e2 (.cons e3 .nil)), [y, z, z2], [], h =>
          obtain ⟨h1, h2⟩ := and1 h
          obtain ⟨h2, h3⟩ := and1 h2
          obtain ⟨h3, h4⟩ := and1 h3
          obtain ⟨h4, h5⟩ := and1 h4
          obtain ⟨h5, h6⟩ := and1 h5
          obtain ⟨h6, h7⟩ := and1 h6
          obtain ⟨h7, h8⟩ := and1 h7
          obtain ⟨h8, h9⟩ := and1 h8
          obtain rfl : x = "range" := of_decide_eq_true h1
          exact snd_rng3 G (sndE e sc top X y G h7).pe (sndE e2 sc top X z G h8).pe (sndE e3 sc top X z2 G h9).pe (glB_ok h2).1 (of_decide_eq_true h3) h4 h5 h6
        | .nil, _, _, h => cases h
        | .cons _ .nil, [], _, h => cases h
        | .cons _ .nil, [_], _ :: _, h => cases h
        | .cons _ .nil, _ :: _ :: _, _, h => cases h
        | .cons _ (.cons _ .nil), [], _, h => cases h
        | .cons _ (.cons _ .nil), [_], _, h => cases h
        | .cons _ (.cons _ .nil), [_, _], _ :: _, h => cases h
        | .cons _ (.cons _ .nil), _ :: _ :: _ :: _, _, h => cases h
        | .cons _ (.cons _ (.cons _ .nil)), [], _, h => cases h
        | .cons _ (.cons _ (.cons _ .nil)), [_], _, h => cases h
        | .cons _ (.cons _ (.cons _ .nil)), [_, _], _, h => cases h
        | .cons _ (.cons _ (.cons _ .nil)), [_, _, _], _ :: _, h => cases h
        | .cons _ (.cons _ (.cons _ .nil)), _ :: _ :: _ :: _ :: _, _, h => cases h
        | .cons _ (.cons _ (.cons _ (.cons _ _))), _, _, h => cases h
      | _ => 
        exfalso
        unfold ckI at h
        split at h <;> first | (cases h; done) | (rename_i heq; cases heq)
    | _ => 
      exfalso
      unfold ckI at h
      split at h <;> first | (cases h; done) | (rename_i heq; cases heq)
  | .enu e, sc, top, X, tg, iter, G, h => by
    have hx : ∃ elts kk tp x p y pos, tg = .Tuple elts kk tp ∧ iter = .Call (.Name x p) [y] [] pos ∧ (decide (x = ("enumerate" : Str)) && (glB sc x && (decide (x ∈ T.free) && (okX y && ckE T lv N sc top e y)))) = true := by
      unfold ckI at h
      split at h
      all_goals (try (rename_i heq; cases heq; done))
      all_goals first
        | (cases h; done)
        | (rename_i heq _; cases heq; exact ⟨_, _, _, _, _, _, _, rfl, rfl, h⟩)
        | (rename_i heq; cases heq; exact ⟨_, _, _, _, _, _, _, rfl, rfl, h⟩)
    obtain ⟨elts, kk, tp, x, p, y, pos, rfl, rfl, h⟩ := hx
    obtain ⟨h1, h2⟩ := and1 h
    obtain ⟨h2, h3⟩ := and1 h2
    obtain ⟨h3, h4⟩ := and1 h3
    obtain ⟨h4, h5⟩ := and1 h4
    obtain rfl : x = "enumerate" := of_decide_eq_true h1
    exact snd_enu G (sndE e sc top X y G h5).pe (glB_ok h2).1 (of_decide_eq_true h3) h4
  | .zip e e2, sc, top, X, tg, iter, G, h => by
    have hx : ∃ elts kk tp x p y z pos, tg = .Tuple elts kk tp ∧ iter = .Call (.Name x p) [y, z] [] pos ∧ (decide (x = ("zip" : Str)) && (glB sc x && (decide (x ∈ T.free) && (okX y && (okX z && (ckE T lv N sc top e y && ckE T lv N sc top e2 z)))))) = true := by
      unfold ckI at h
      split at h
      all_goals (try (rename_i heq; cases heq; done))
      all_goals first
        | (cases h; done)
        | (rename_i heq _; cases heq; exact ⟨_, _, _, _, _, _, _, _, rfl, rfl, h⟩)
        | (rename_i heq; cases heq; exact ⟨_, _, _, _, _, _, _, _, rfl, rfl, h⟩)
    obtain ⟨elts, kk, tp, x, p, y, z, pos, rfl, rfl, h⟩ := hx
    obtain ⟨h1, h2⟩ := and1 h
    obtain ⟨h2, h3⟩ := and1 h2
    obtain ⟨h3, h4⟩ := and1 h3
    obtain ⟨h4, h5⟩ := and1 h4
    obtain ⟨h5, h6⟩ := and1 h5
    obtain ⟨h6, h7⟩ := and1 h6
    obtain rfl : x = "zip" := of_decide_eq_true h1
    exact snd_zip G (sndE e sc top X y G h6).pe (sndE e2 sc top X z G h7).pe (glB_ok h2).1 (of_decide_eq_true h3) h4 h5
end
end
end Fz

/-! Q15: statements. -/
namespace Fz
open PySem PySem.Spec PyProof.Rows L2

/-- what is wanted behind a statement's run -/
def EndD (K : PySem.W.Frag) (A : Ad) (H : Hp) (fl : Fl) (w' : Wd) (D : Ends) : Prop := match fl with
  | .nx => ∀ A' σ' H', Step A H A' H' → Sim K H' A' w' σ' → D.nx σ' H'
  | .bk => ∀ A' σ' H', Step A H A' H' → Sim K H' A' w' σ' → D.bk σ' H'
  | .ct => ∀ A' σ' H', Step A H A' H' → Sim K H' A' w' σ' → D.ct σ' H'
  | .rt d => ∀ A' v σ' H', Step A H A' H' → Sim K H' A' w' σ' → RD K H' A' d v → D.rt v H'
def rdS (K : PySem.W.Frag) (f : Wd → R (Fl × Wd)) : TS := fun D σ H => ∃ A w, Sim K H A w σ ∧ ∃ fl w', f w = .ok (fl, w') ∧ EndD K A H fl w' D
theorem PSimp {X : Cx} {e : Stmt} {t t' : TS} (h : PS X e t) (i : ∀ D σ H, t' D σ H → t D σ H) : PS X e t' := ⟨fun pins s σ H D I q => h.run pins s σ H D I (i D σ H q)⟩
theorem PSsimp {X : Cx} {e : List Stmt} {t t' : TS} (h : PSs X e t) (i : ∀ D σ H, t' D σ H → t D σ H) : PSs X e t' := ⟨fun pins s σ H D I q => h.run pins s σ H D I (i D σ H q)⟩
theorem EndD.step {K : PySem.W.Frag} {A A1 : Ad} {H H1 : Hp} {fl : Fl} {w' : Wd} {D : Ends} (q : EndD K A H fl w' D) (s : Step A H A1 H1) : EndD K A1 H1 fl w' D := by
  cases fl with
  | nx => exact fun A' σ' H' s' S => q A' σ' H' (s.trans s') S
  | bk => exact fun A' σ' H' s' S => q A' σ' H' (s.trans s') S
  | ct => exact fun A' σ' H' s' S => q A' σ' H' (s.trans s') S
  | rt d => exact fun A' v σ' H' s' S r => q A' v σ' H' (s.trans s') S r

/-! ### a loop's turn ends: names forgotten, own lists frozen -/
section
variable {K : PySem.W.Frag} {H : Hp} {A : Ad} {w : Wd} {σ : Sl}
theorem nodupA {l : List Addr} (h : l.Nodup) {i j : Nat} {x : Addr} (a : l[i]? = some x) (b : l[j]? = some x) : i = j := by
  obtain ⟨h1, e1⟩ := List.getElem?_eq_some_iff.mp a
  obtain ⟨h2, e2⟩ := List.getElem?_eq_some_iff.mp b
  exact (List.getElem_inj h).mp (e1.trans e2.symm)
theorem Sim.kill (S : Sim K H A w σ) (vs : List Nat) : Sim K H A { w with σ := wipeD w.σ vs } σ := by
  refine ⟨fun i d e => ?_, (wipeD_length _ _).trans S.len, S.mu, S.ga, S.nd, S.ndg, S.dj, S.djg, S.bt, S.cnt, S.cnd, S.gk⟩
  have e : (wipeD w.σ vs)[i]? = some (some d) := e
  rw [wipeD_get] at e
  by_cases h : i ∈ vs
  · rw [if_pos h] at e
    cases q : w.σ[i]? <;> rw [q] at e <;> cases e
  · rw [if_neg h] at e
    exact S.loc i d e
theorem keepO_ok {L : Nat} {m : List (List D)} : ∀ {σ σ' : List (Option D)}, keepO L m σ = some σ' → σ'.length = σ.length ∧ ∀ (i : Nat) d, σ'[i]? = some (some d) → ∃ d0, σ[i]? = some (some d0) ∧ rs (keep L m) true d0 = some d
  | [], _, e => by cases e; exact ⟨rfl, fun i d e => by simp at e⟩
  | none :: r, _, e => by
    obtain ⟨xs, e1, rfl⟩ := Option.map_eq_some_iff.mp (show (keepO L m r).map (fun xs => none :: xs) = some _ from e)
    obtain ⟨h1, h2⟩ := keepO_ok e1
    refine ⟨by rw [List.length_cons, List.length_cons, h1], fun i d e => ?_⟩
    cases i with
    | zero => simp at e
    | succ i => exact h2 i d (by simpa using e)
  | some x :: r, _, e => by
    obtain ⟨y, e0, e⟩ := Option.bind_eq_some_iff.mp (show (rs (keep L m) true x).bind (fun y => (keepO L m r).map fun xs => some y :: xs) = some _ from e)
    obtain ⟨xs, e1, rfl⟩ := Option.map_eq_some_iff.mp e
    obtain ⟨h1, h2⟩ := keepO_ok e1
    refine ⟨by rw [List.length_cons, List.length_cons, h1], fun i d e => ?_⟩
    cases i with
    | zero =>
      have ed : y = d := by simpa using e
      subst ed
      exact ⟨x, rfl, e0⟩
    | succ i => exact h2 i d (by simpa using e)
theorem rsL_ints {ρ : Nat → Option D} {φ : Bool} : ∀ ns : List Int, rsL ρ φ (ns.map D.int) = some (ns.map D.int)
  | [] => rfl
  | n :: ns => by
    show (rs ρ φ (.int n)).bind (fun y => (rsL ρ φ (ns.map D.int)).map fun ys => y :: ys) = _
    rw [rsL_ints ns]
    rfl
theorem EN.keep {A' : Ad} {ρ : Nat → Option D} {φ : Bool} {κ : Type} {kd : D → κ → Prop} (hkd : ∀ d q, kd d q → rs ρ φ d = some d) (hL : ∀ (d d' : D) (v : V), rs ρ φ d = some d' → RD K H A d v → RD K H A' d' v) :
    ∀ {es es' : List D} {kvs : List (κ × V)}, rsL ρ φ es = some es' → EN K H A kd es kvs → EN K H A' kd es' kvs
  | [], _, _, e, h => by cases e; exact h
  | e0 :: es, es', _, e, h => by
    obtain ⟨k, q, d, v, r, rfl, rfl, h1, h2, h3⟩ := h
    obtain ⟨y, e1, e⟩ := Option.bind_eq_some_iff.mp (show (rs ρ φ (.tup [k, d])).bind (fun y => (rsL ρ φ es).map fun ys => y :: ys) = some es' from e)
    obtain ⟨zs, e2, rfl⟩ := Option.map_eq_some_iff.mp e
    obtain ⟨us, e3, rfl⟩ := Option.map_eq_some_iff.mp (show (rsL ρ φ [k, d]).map D.tup = some y from e1)
    obtain ⟨k', e4, e3⟩ := Option.bind_eq_some_iff.mp (show (rs ρ φ k).bind (fun y => (rsL ρ φ [d]).map fun ys => y :: ys) = some us from e3)
    obtain ⟨ds, e5, rfl⟩ := Option.map_eq_some_iff.mp e3
    obtain ⟨d', e6, e5⟩ := Option.bind_eq_some_iff.mp (show (rs ρ φ d).bind (fun y => (rsL ρ φ []).map fun ys => y :: ys) = some ds from e5)
    obtain ⟨ds0, e7, rfl⟩ := Option.map_eq_some_iff.mp e5
    cases e7
    rw [hkd k q h1] at e4
    cases e4
    exact ⟨k, q, d', v, r, rfl, rfl, h1, hL d d' v e6 h2, EN.keep hkd hL e2 h3⟩
theorem Cell.keep {A' : Ad} {ρ : Nat → Option D} {φ : Bool} {a : Addr} {xs ys : List D} (h : Cell K H A a xs) (hL : ∀ (ds es : List D) (vs : List V), rsL ρ φ ds = some es → RDs K H A ds vs → RDs K H A' es vs) (e : rsL ρ φ xs = some ys) : Cell K H A' a ys := by
  have h1 : ∀ (d d' : D) (v : V), rs ρ φ d = some d' → RD K H A d v → RD K H A' d' v := fun d d' v e r => by
    have := hL [d] [d'] [v] (by show (rs ρ φ d).bind (fun y => (rsL ρ φ []).map fun ys => y :: ys) = _; rw [e]; rfl) (RDs.one r)
    exact (RDs.cons_iff.mp this).1
  rcases h with ⟨_, vs, h2, h3⟩ | ⟨n, ks, es, rfl, h2⟩
  · exact Cell.mk h2 (hL xs ys vs e h3)
  · obtain ⟨y, e1, e⟩ := Option.bind_eq_some_iff.mp (show (rs ρ φ (.dic ks es)).bind (fun y => (rsL ρ φ []).map fun ys => y :: ys) = some ys from e)
    obtain ⟨zs, e2, rfl⟩ := Option.map_eq_some_iff.mp e
    cases e2
    obtain ⟨es', e3, rfl⟩ := Option.map_eq_some_iff.mp (show (rsL ρ φ es).map (D.dic ks) = some y from e1)
    refine .inr ⟨n, ks, es', rfl, ?_⟩
    rcases h2 with ⟨kvs, n2, h2, h3⟩ | ⟨kvs, n2, h2, h3⟩
    · refine .inl ⟨kvs, n2, h2, h3.keep (fun d q hq => ?_) h1 e3⟩
      obtain ⟨ns, rfl, _⟩ := hq
      show (rsL ρ φ (ns.map D.int)).map D.tup = _
      rw [rsL_ints]
      rfl
    · refine .inr ⟨kvs, n2, h2, h3.keep (fun d q hq => ?_) h1 e3⟩
      obtain ⟨ns, rfl, _⟩ := hq
      rfl
theorem Sim.gc {L : Nat} {w' : Wd} (S : Sim K H A w σ) (e : w.gc L = some w') : Sim K H { A with mu := A.mu.take L } w' σ ∧ w'.g = w.g := by
  unfold Wd.gc at e
  simp only [Option.bind_eq_some_iff, Option.map_eq_some_iff] at e
  obtain ⟨σ1, e1, m1, e2, rfl⟩ := e
  have ho : ∀ a, A.out a → ({ A with mu := A.mu.take L } : Ad).out a := fun a h => ⟨fun z => h.1 (List.mem_of_mem_take z), h.2.1, h.2.2⟩
  have hk : ∀ (k : Nat) a d', keep L w.m k = some d' → A.mu[k]? = some a → RD K H { A with mu := A.mu.take L } d' (.ref a) := fun k a d' h1 h2 => by
    refine up_rd S ho (fun a _ h => h) rfl (fun k a hl h => ?_) (fun k a ys vs hl h1 h2 h3 => ?_) 4 k a d' h1 h2
    · rw [List.getElem?_take_of_lt hl]
      exact h
    · refine ⟨a, vs, rfl, h2, ⟨fun z => ?_, (S.dj a (List.mem_of_getElem? h1)).1, fun z => (S.cnd a z).1 (List.mem_of_getElem? h1)⟩, (S.dj a (List.mem_of_getElem? h1)).2, h3⟩
      obtain ⟨j, hj⟩ := List.getElem?_of_mem z
      have hj2 : j < L := by
        obtain ⟨l, _⟩ := List.getElem?_eq_some_iff.mp hj
        rw [List.length_take] at l
        omega
      rw [List.getElem?_take_of_lt hj2] at hj
      have := nodupA S.nd hj h1
      omega
  have hL : ∀ (ds es : List D) (vs : List V), rsL (keep L w.m) true ds = some es → RDs K H A ds vs → RDs K H { A with mu := A.mu.take L } es vs := fun ds es vs e r => rsL_rd hk ho (fun a _ h => h) rfl ds vs es e r
  refine ⟨⟨fun i d e => ?_, (keepO_ok e1).1.trans S.len, ?_, ?_, S.nd.sublist (List.take_sublist _ _), S.ndg, fun a h => S.dj a (List.mem_of_mem_take h), S.djg, S.bt, S.cnt, fun a h => ⟨fun z => (S.cnd a h).1 (List.mem_of_mem_take z), (S.cnd a h).2⟩, S.gk⟩, rfl⟩
  · obtain ⟨d0, h1, h2⟩ := (keepO_ok e1).2 i d e
    obtain ⟨v, h3, r⟩ := S.loc i d0 h1
    exact ⟨v, h3, rs_rd hk ho (fun a _ h => h) rfl d0 v d h2 r⟩
  · -- the own lists that stay
    have go : ∀ {as : List Addr} {ms ms' : List (List D)} (n : Nat), RL K H A as ms → keepM L w.m (ms.take n) = some ms' → RL K H { A with mu := A.mu.take L } (as.take n) ms' := fun {as} => by
      induction as with
      | nil =>
        intro ms ms' n h e
        rw [show ms = [] from h, List.take_nil] at e
        cases e
        rw [List.take_nil]
        exact rfl
      | cons a as ih =>
        intro ms ms' n h e
        obtain ⟨xs, r, rfl, h2, h3⟩ := h
        cases n with
        | zero => cases e; exact rfl
        | succ n =>
          rw [List.take_succ_cons] at e ⊢
          obtain ⟨ys, e3, e⟩ := Option.bind_eq_some_iff.mp (show (rsL (keep L w.m) true xs).bind (fun y => (keepM L w.m (r.take n)).map fun zs => y :: zs) = some ms' from e)
          obtain ⟨zs, e4, rfl⟩ := Option.map_eq_some_iff.mp e
          exact ⟨ys, zs, rfl, Cell.keep h2 hL e3, ih n h3 e4⟩
    exact go L S.mu e2
  · exact RL.gok (A := A) (A' := { A with mu := A.mu.take L }) (fun _ _ h _ => h) (.inl rfl) (fun _ h => h) S.gk S.ga
theorem post_ok {A0 : Ad} {H0 : Hp} {kill : List Nat} {gc : Bool} {L : Nat} {w' : Wd} (s : Step A0 H0 A H) (S : Sim K H A w σ) (e : postF kill gc L w = some w') (hL : L = A0.mu.length) : ∃ A', Step A0 H0 A' H ∧ Sim K H A' w' σ ∧ w'.g = w.g := by
  unfold postF at e
  have S1 := S.kill kill
  cases gc with
  | false =>
    cases e
    exact ⟨A, s, S1, rfl⟩
  | true =>
    obtain ⟨S2, hg⟩ := S1.gc (show (Wd.gc { w with σ := wipeD w.σ kill } L) = some w' from e)
    refine ⟨{ A with mu := A.mu.take L }, ⟨⟨fun a o h x => ?_, s.tup, s.frz, fun k a h => ?_, s.ga, s.bad⟩, s.cn, s.cnk⟩, S2, hg⟩
    · obtain ⟨q, y⟩ := s.kept a o h x
      exact ⟨q, fun z => y.1 (List.mem_of_mem_take z), y.2⟩
    · have hk : k < L := by
        rw [hL]
        exact (List.getElem?_eq_some_iff.mp h).1
      show (A.mu.take L)[k]? = some a
      rw [List.getElem?_take_of_lt hk]
      exact s.mu k a h
end
section
variable {T : Tb} {P : Pg} {lv : Nat} {N : List Str} {sc : Scope} {X : Cx}
/-! ### simple statements -/
def noComp : Expr → Bool
  | .ListComp _ _ _ _ => false
  | .SetComp _ _ _ _ => false
  | .DictComp _ _ _ _ _ => false
  | _ => true
theorem swaps_no {e : Expr} {t : Option Expr} {l : Nat} {env : Env} (h : noComp e = true) : swapsWith e t l env = pure false := by
  cases e <;> first | rfl | cases h
theorem snd_ex {e : E} {x : Expr} {pos : Pos} (h : PE X x (rd X.K (evE P e))) (hc : noComp x = true) : PS X (.Expr x pos) (rdS X.K (exS P (.ex e))) := by
  refine PSimp (ps_expr h (swaps_no hc)) fun D σ H q => ?_
  obtain ⟨A, w, S, fl, w', e1, q⟩ := q
  obtain ⟨x, ea, e1⟩ := bd_split e1
  cases e1
  exact ⟨A, w, S, x.1, x.2, ea, fun A1 v H1 s1 S1 r1 => q A1 σ H1 s1 S1⟩
theorem snd_ret {e : E} {x : Expr} {pos : Pos} (h : PE X x (rd X.K (evE P e))) : PS X (.Return (some x) pos) (rdS X.K (exS P (.ret e))) := by
  refine PSimp (ps_ret h) fun D σ H q => ?_
  obtain ⟨A, w, S, fl, w', e1, q⟩ := q
  obtain ⟨x, ea, e1⟩ := bd_split e1
  cases e1
  exact ⟨A, w, S, x.1, x.2, ea, fun A1 v H1 s1 S1 r1 => q A1 v σ H1 s1 S1 r1⟩
theorem snd_retn {pos : Pos} : PS X (.Return none pos) (rdS X.K (exS P .retn)) := by
  refine PSimp ps_retN fun D σ H q => ?_
  obtain ⟨A, w, S, fl, w', e1, q⟩ := q
  cases e1
  exact q A .non σ H (Step.refl A H) S rfl
theorem snd_brk {pos : Pos} : PS X (.Break pos) (rdS X.K (exS P .brk)) := by
  refine PSimp ps_break fun D σ H q => ?_
  obtain ⟨A, w, S, fl, w', e1, q⟩ := q
  cases e1
  exact q A σ H (Step.refl A H) S
theorem snd_cnt {pos : Pos} : PS X (.Continue pos) (rdS X.K (exS P .cnt)) := by
  refine PSimp ps_continue fun D σ H q => ?_
  obtain ⟨A, w, S, fl, w', e1, q⟩ := q
  cases e1
  exact q A σ H (Step.refl A H) S
theorem snd_pas {pos : Pos} : PS X (.Pass pos) (rdS X.K (exS P .pas)) := by
  refine PSimp ps_pass fun D σ H q => ?_
  obtain ⟨A, w, S, fl, w', e1, q⟩ := q
  cases e1
  exact q A σ H (Step.refl A H) S
theorem snd_dead {st : Stmt} : PS X st (rdS X.K (exS P .dead)) := by
  refine PSimp ps_never fun D σ H q => ?_
  obtain ⟨A, w, S, fl, w', e1, q⟩ := q
  cases e1
theorem snd_if {c : E} {a b : List S} {x : Expr} {xs ys : List Stmt} {pos : Pos} (hc : PT X x (rdT X.K (evT P c))) (ha : PSs X xs (rdS X.K (exB P a))) (hb : PSs X ys (rdS X.K (exB P b))) : PS X (.If x xs ys pos) (rdS X.K (exS P (.ite c a b))) := by
  refine PSimp (ps_if hc ha hb) fun D σ H q => ?_
  obtain ⟨A, w, S, fl, w', e1, q⟩ := q
  obtain ⟨x, ea, e1⟩ := bd_split e1
  refine ⟨A, w, S, x.1, x.2, ea, fun A1 H1 s1 S1 => ?_⟩
  cases hx : x.1 with
  | true =>
    rw [hx, if_pos rfl] at e1
    rw [if_pos rfl]
    exact ⟨A1, x.2, S1, fl, w', e1, q.step s1⟩
  | false =>
    rw [hx, if_neg Bool.false_ne_true] at e1
    rw [if_neg Bool.false_ne_true]
    exact ⟨A1, x.2, S1, fl, w', e1, q.step s1⟩
/-- target = value, plainly -/
theorem set_read {t : Tg} {f : Wd → R (D × Wd)} (D : Ends) (σ : Sl) (H : Hp) (q : rdS X.K (fun w => (f w).bd fun x => (R.of (asg t x.1 x.2)).bd fun w' => .ok (.nx, w')) D σ H) : tAsg (rd X.K f) (gD X.K t) D σ H := by
  obtain ⟨A, w, S, fl, w', e1, q⟩ := q
  obtain ⟨x, ea, e1⟩ := bd_split e1
  obtain ⟨w2, eb, e1⟩ := bd_split e1
  cases e1
  exact ⟨A, w, S, x.1, x.2, ea, fun A1 v H1 s1 S1 r1 => ⟨A1, x.2, x.1, w', S1, r1, of_split eb, fun σ' S' _ _ _ => q A1 σ' H1 s1 S'⟩⟩
theorem snd_set {t : Tg} {e : E} {tg x : Expr} {pos : Pos} (h : PE X x (rd X.K (evE P e))) (ht : PG X tg (gD X.K t)) (hc : noComp x = true) (hs : noStar tg = true) (hw : swappedStores [tg] x X.env = pure none) : PS X (.Assign [tg] x pos) (rdS X.K (exS P (.set t e))) :=
  PSimp (ps_asg h ht (swaps_no hc) hw (by rw [assignEach_cons hs]; rfl)) set_read
/-- stored otherwise than to a name of the frame's own -/
def tgF (sc : Scope) (tg : Expr) : Bool := match tg with
  | .Tuple _ _ _ => true
  | .Name y _ => (match sc.names.lookup y with
    | some .cell => true
    | _ => false)
  | _ => false
theorem tgF_ok {sc : Scope} {tg x : Expr} {l : Nat} {env : Env} (hs : env.scope = sc) (h : tgF sc tg = true) : swapsWith x (some tg) l env = pure false := by
  cases tg with
  | Tuple a b c => cases x <;> rfl
  | Name y p =>
    have hy : (env.kindOf y == some NameKind.local) = false := by
      unfold Env.kindOf
      rw [hs]
      have h : (match sc.names.lookup y with
        | some .cell => true
        | _ => false) = true := h
      cases q : sc.names.lookup y with
      | none => rfl
      | some k =>
        rw [q] at h
        cases k <;> first | rfl | cases h
    cases x <;> first | rfl | (unfold swapsWith; simp only [hy, Bool.and_false, Bool.false_and])
  | _ => cases h
theorem snd_setF {t : Tg} {e : E} {tg x : Expr} {pos : Pos} {sc : Scope} (hsc : X.env.scope = sc) (h : PE X x (rd X.K (evE P e))) (ht : PG X tg (gD X.K t)) (hc : tgF sc tg = true) (hs : noStar tg = true) (hw : swappedStores [tg] x X.env = pure none) : PS X (.Assign [tg] x pos) (rdS X.K (exS P (.set t e))) :=
  PSimp (ps_asg h ht (tgF_ok hsc hc) hw (by rw [assignEach_cons hs]; rfl)) set_read
/-- a comprehension stored to a name -/
theorem snd_setc (G : GX T P lv N sc none X) {i : Nat} {md : Nat} {t : Tg} {it : It} {c : Oe} {e : E} {own : List Nat} {y : Str} {x tg iter : Expr} {ifs : List Expr} {scope : Scope} {pos py spos : Pos} (hy : N[i]? = some y) (hl : sc.names.lookup y = some .local)
    (hline : (py.line == pos.line) = true) (ha : (scope.names.any fun (n, k) => n == y && (k == .local || k == .cell)) = false) (h1 : ckI T lv N sc none it tg iter = true) (h2 : okX iter = true) (h3 : ckT N (relS scope sc) (some scope) t tg = true) (h4 : ckC T lv N (relS scope sc) (some scope) c ifs = true)
    (h5 : ckE T lv N (relS scope sc) (some scope) e x = true) (h6 : blkC N sc scope (ownN N own) = true) (h7 : (slotsT t).all (fun i => own.contains i) = true) :
    PS X (.Assign [.Name y py] (.ListComp x [⟨tg, iter, ifs, 0⟩] scope pos) spos) (rdS X.K (exS P (.set (.nm i) (.co md t it c e own)))) := by
  have ok := blkOk_by h6
  have hs : ∀ i ∈ slotsT t, i ∈ own := fun i hi => by simpa using List.all_eq_true.mp h7 i hi
  have kd : X.env.scope.kind = .function := by rw [G.sco]; exact G.kind
  have hl' : X.env.scope.names.lookup y = some .local := by rw [G.sco]; exact hl
  refine PSimp (ps_setLc (own := ownN N own) (i := i) (wi := rdI X.K (evI P it)) (g := gD X.K t) (tt := rdT X.K (evC P c)) (te := rd X.K (evE P e)) G.calm (by rw [G.hN]; exact G.nd) (by rw [G.hN]; exact hy) hl' (sw_true kd hl' hline ha)
    (sndI it sc none X tg iter G h1) (by rw [G.hN, G.sco]; exact ok)
    (fun s H C cl fp => sndT (G.blk ok.kind s H C cl fp) t tg h3) (fun s H C cl fp => sndC c _ _ _ ifs (G.blk ok.kind s H C cl fp) h4)
    (fun s H C cl fp => (sndE e _ _ _ x (G.blk ok.kind s H C cl fp) h5).pe) (folded_ok h2)) fun D σ H q => ?_
  rw [ownN_slots]
  obtain ⟨A, w, S, fl, w', e1, q⟩ := q
  obtain ⟨z, ea, e1⟩ := bd_split e1
  cases e1
  exact coL_read (md := md) hs σ H _ ⟨A, w, S, z.1, z.2, ea, fun A1 v H1 s1 S1 r1 => q A1 _ H1 s1 (S1.set i r1)⟩
/-- a, b = x, y: stored from the right -/
theorem snd_par2 (G : GX T P lv N sc none X) {i j : Nat} {ea eb : E} {xa xb : Expr} {x y : Str} {px py pt pt2 pos : Pos} {kt k2 : Nat} (hi : N[i]? = some x) (hj : N[j]? = some y) (hij : i ≠ j) (lx : sc.names.lookup x = some .local) (ly : sc.names.lookup y = some .local)
    (ha : PA X [xa, xb] (rdA X.K (evEs P (.cons ea (.cons eb .nil))))) (hw : swappedStores [.Tuple [.Name x px, .Name y py] kt pt] (.Tuple [xa, xb] k2 pt2) X.env = pure (some [x, y])) :
    PS X (.Assign [.Tuple [.Name x px, .Name y py] kt pt] (.Tuple [xa, xb] k2 pt2) pos) (rdS X.K (exS P (.set (.tu [.nm i, .nm j]) (.tup (.cons ea (.cons eb .nil)))))) := by
  refine PSimp (ps_par (i := i) (j := j) G.calm (by rw [G.hN]; exact G.nd) (by rw [G.hN]; exact hi) (by rw [G.hN]; exact hj) hij (by rw [G.sco]; exact lx) (by rw [G.sco]; exact ly) ha hw) fun D σ H q => ?_
  obtain ⟨A, w, S, fl, w', e1, q⟩ := q
  obtain ⟨z, e2, e1⟩ := bd_split e1
  obtain ⟨w2, e3, e1⟩ := bd_split e1
  cases e1
  obtain ⟨t, e4, e2⟩ := bd_split e2
  refine ⟨A, w, S, t.1, t.2, e4, fun A1 vs H1 s1 S1 r1 => ?_⟩
  have hl := evEs_len e4
  obtain ⟨ez, ed, _⟩ := newT_ok e2 r1
  match ht : t.1, hl with
  | [d1, d2], _ =>
    rw [ht] at r1
    obtain ⟨v, u, rfl, rv, ru⟩ := two_of r1
    refine ⟨v, u, rfl, ?_⟩
    have e5 := of_split e3
    rw [ed, ez, ht] at e5
    cases e5
    exact q A1 _ H1 s1 ((S1.set i rv).set j ru)
theorem snd_par3 (G : GX T P lv N sc none X) {i j l : Nat} {ea eb ec : E} {xa xb xc : Expr} {x y z : Str} {px py pz pt pt2 pos : Pos} {kt k2 : Nat} (hi : N[i]? = some x) (hj : N[j]? = some y) (hl : N[l]? = some z) (hij : i ≠ j) (hil : i ≠ l) (hjl : j ≠ l)
    (lx : sc.names.lookup x = some .local) (ly : sc.names.lookup y = some .local) (lz : sc.names.lookup z = some .local)
    (ha : PA X [xa, xb, xc] (rdA X.K (evEs P (.cons ea (.cons eb (.cons ec .nil)))))) (hw : swappedStores [.Tuple [.Name x px, .Name y py, .Name z pz] kt pt] (.Tuple [xa, xb, xc] k2 pt2) X.env = pure (some [x, y, z])) :
    PS X (.Assign [.Tuple [.Name x px, .Name y py, .Name z pz] kt pt] (.Tuple [xa, xb, xc] k2 pt2) pos) (rdS X.K (exS P (.set (.tu [.nm i, .nm j, .nm l]) (.tup (.cons ea (.cons eb (.cons ec .nil))))))) := by
  refine PSimp (ps_par3 (i := i) (j := j) (l := l) G.calm (by rw [G.hN]; exact G.nd) (by rw [G.hN]; exact hi) (by rw [G.hN]; exact hj) (by rw [G.hN]; exact hl) hij hil hjl (by rw [G.sco]; exact lx) (by rw [G.sco]; exact ly) (by rw [G.sco]; exact lz) ha hw) fun D σ H q => ?_
  obtain ⟨A, w, S, fl, w', e1, q⟩ := q
  obtain ⟨z, e2, e1⟩ := bd_split e1
  obtain ⟨w2, e3, e1⟩ := bd_split e1
  cases e1
  obtain ⟨t, e4, e2⟩ := bd_split e2
  refine ⟨A, w, S, t.1, t.2, e4, fun A1 vs H1 s1 S1 r1 => ?_⟩
  have hl := evEs_len e4
  obtain ⟨ez, ed, _⟩ := newT_ok e2 r1
  match ht : t.1, hl with
  | [d1, d2, d3], _ =>
    rw [ht] at r1
    obtain ⟨v, r, rfl, rv, r2⟩ := r1
    obtain ⟨u, t3, rfl, ru, rt⟩ := two_of r2
    refine ⟨v, u, t3, rfl, ?_⟩
    have e5 := of_split e3
    rw [ed, ez, ht] at e5
    cases e5
    exact q A1 _ H1 s1 (((S1.set i rv).set j ru).set l rt)
theorem swaps_sub {e o i : Expr} {p : Pos} {l : Nat} {env : Env} : swapsWith e (some (.Subscript o i p)) l env = pure false := by
  cases e <;> rfl
theorem snd_put (G : GX T P lv N sc none X) {o i e : E} {x y z : Expr} {p pos : Pos} (he : PE X z (rd X.K (evE P e))) (ho : PE X x (rd X.K (evE P o))) (hi : PE X y (rd X.K (evE P i))) (hy : okX y = true) : PS X (.Assign [.Subscript x y p] z pos) (rdS X.K (exS P (.put o i e))) := by
  refine PSimp (ps_asg he (pg_sub ho hi set_list (by intro v; cases y <;> first | rfl | cases hy)) (show swapsWithSole [.Subscript x y p] z pos.line X.env = pure false from swaps_sub (o := x) (i := y) (p := p) (l := pos.line) (env := X.env)) rfl rfl) fun D σ H q => ?_
  obtain ⟨A, w, S, fl, w', e1, q⟩ := q
  obtain ⟨z, ea, e1⟩ := bd_split e1
  obtain ⟨x, eb, e1⟩ := bd_split e1
  obtain ⟨y, ec, e1⟩ := bd_split e1
  refine ⟨A, w, S, z.1, z.2, ea, fun A1 v H1 s1 S1 r1 => ⟨A1, z.2, S1, x.1, x.2, eb, fun A2 u H2 s2 S2 r2 => ⟨A2, x.2, S2, y.1, y.2, ec, fun A3 t H3 s3 S3 r3 => ?_⟩⟩⟩
  obtain ⟨d3, w3⟩ := y
  cases d3 with
  | int k =>
    obtain ⟨xs, ed, e1⟩ := bd_split e1
    obtain ⟨j, ef, e1⟩ := bd_split e1
    obtain ⟨w4, eg, e1⟩ := bd_split e1
    cases e1
    obtain ⟨a, us, ys, rfl, h1, h2, h3, h4⟩ := put_ok (of_split ed) (of_split eg) S3 (r2.step s3.toCar)
    have e5 := of_split ed
    rw [h2] at e5
    cases e5
    obtain ⟨s4, S4⟩ := h4 _ (h3.set j ((r1.step s2.toCar).step s3.toCar))
    refine ⟨a, us, k, j, rfl, r3, h1, by rw [h3.length]; exact of_split ef, q A3 σ _ (((s1.trans s2).trans s3).trans s4) S4⟩
  | _ => cases e1

/-- a store into an own dict -/
theorem snd_dput (G : GX T P lv N sc none X) {o e : E} {es : Es} {x z : Expr} {xs : List Expr} {k : Nat} {p p2 pos : Pos} (he : PE X z (rd X.K (evE P e))) (ho : PE X x (rd X.K (evE P o))) (hk : PA X xs (rdA X.K (evEs P es))) :
    PS X (.Assign [.Subscript x (.Tuple xs k p2) p] z pos) (rdS X.K (exS P (.dput o es e))) := by
  refine PSimp (ps_dput G.hu1 ho (key_tup hk) he (show swapsWith z (some (.Subscript x (.Tuple xs k p2) p)) pos.line X.env = pure false from swaps_sub (o := x) (i := .Tuple xs k p2) (p := p) (l := pos.line) (env := X.env))) fun D σ H q => ?_
  obtain ⟨A, w, S, fl, w', e1, q⟩ := q
  obtain ⟨z, ea, e1⟩ := bd_split e1
  obtain ⟨x, eb, e1⟩ := bd_split e1
  obtain ⟨y, ec, e1⟩ := bd_split e1
  obtain ⟨q1, eq1, e1⟩ := bd_split e1
  split at e1
  case isFalse => cases e1
  rename_i hc
  cases e1
  obtain ⟨hc, c3⟩ := Bool.and_eq_true_iff.mp hc
  obtain ⟨c1, c2⟩ := Bool.and_eq_true_iff.mp hc
  obtain ⟨c3, c4⟩ := of_decide_eq_true c3
  refine ⟨A, w, S, z.1, z.2, ea, fun A1 v H1 s1 S1 r1 => ⟨A1, z.2, S1, x.1, x.2, eb, fun A2 u H2 s2 S2 r2 => ⟨A2, x.2, S2, y.1, y.2, ec, c3, fun A3 vs p H3 s3 S3 r3 hp => ?_⟩⟩⟩
  obtain ⟨a, k0, ks, rfl, hx, hm, hw, _, _, de⟩ := S3.dct (r2.step s3.toCar) (of_split eq1)
  obtain ⟨ns, hns⟩ := Option.isSome_iff_exists.mp c2
  have hds := keyT_of hns
  have hvs := r3.ints hns
  have n2 : q1.1 = 2 := of_decide_eq_true c1
  rcases de with ⟨kvs, _, h1, h2⟩ | ⟨kvs, n3, _, _⟩
  · have kk : keyT (.tup y.1) (ns.map Sum.inl) := ⟨ns, by rw [hds], rfl⟩
    have hmap : vs = (ns.map (Sum.inl : Int → Key)).map kV := by
      rw [hvs, List.map_map]
      rfl
    have r4 := (r1.step s2.toCar).step s3.toCar
    obtain ⟨s4, S4⟩ := dset_ok (o := .dT (putK kvs (ns.map Sum.inl) v)) (ks := dks true) (es := putE q1.2 (.tup y.1) z.1) S3 hm h1 (.inl ⟨_, rfl⟩) (dks_dup true) (fun s => .inl ⟨_, rfl, upd_same, EN.put (fun _ _ _ _ => keyT_eq) kk (r4.step s.toCar) (h2.carry fun d v r => r.step s.toCar)⟩)
    refine ⟨a, _, rfl, .inr ⟨kvs, ns.map Sum.inl, p, h1, rfl, by rw [hp, hmap], Nat.lt_of_lt_of_le (by rw [h2.len]; exact c4) (by decide), rfl⟩, ?_⟩
    rw [hx] at q
    exact q A3 σ _ (((s1.trans s2).trans s3).trans s4) S4
  · omega
theorem snd_dputI (G : GX T P lv N sc none X) {o e i : E} {x z y : Expr} {p pos : Pos} (he : PE X z (rd X.K (evE P e))) (ho : PE X x (rd X.K (evE P o))) (hk : PE X y (rd X.K (evE P i))) (hy : okX y = true) :
    PS X (.Assign [.Subscript x y p] z pos) (rdS X.K (exS P (.dputI o i e))) := by
  refine PSimp (ps_dput G.hu1 ho hk he (show swapsWith z (some (.Subscript x y p)) pos.line X.env = pure false from swaps_sub (o := x) (i := y) (p := p) (l := pos.line) (env := X.env))) fun D σ H q => ?_
  obtain ⟨A, w, S, fl, w', e1, q⟩ := q
  obtain ⟨z, ea, e1⟩ := bd_split e1
  obtain ⟨x, eb, e1⟩ := bd_split e1
  obtain ⟨y, ec, e1⟩ := bd_split e1
  obtain ⟨q1, eq1, e1⟩ := bd_split e1
  refine ⟨A, w, S, z.1, z.2, ea, fun A1 v H1 s1 S1 r1 => ⟨A1, z.2, S1, x.1, x.2, eb, fun A2 u H2 s2 S2 r2 => ⟨A2, x.2, S2, y.1, y.2, ec, fun A3 t H3 s3 S3 r3 => ?_⟩⟩⟩
  obtain ⟨a, k0, ks, rfl, hx, hm, hw, _, _, de⟩ := S3.dct (r2.step s3.toCar) (of_split eq1)
  obtain ⟨d3, w3⟩ := y
  cases d3 with
  | int n =>
    have e1 : (if (decide (q1.1 = 3) && decide (q1.2.length < mxLen)) = true then R.ok (Fl.nx, w3.dset x.1 (dks false) (putE q1.2 (.int n) z.1)) else .err) = .ok (fl, w') := e1
    split at e1
    case isFalse => cases e1
    rename_i hc
    cases e1
    obtain ⟨c1, c4⟩ := Bool.and_eq_true_iff.mp hc
    have n2 : q1.1 = 3 := of_decide_eq_true c1
    have c4 := of_decide_eq_true c4
    rcases de with ⟨kvs, n3, _, _⟩ | ⟨kvs, _, h1, h2⟩
    · omega
    · have kk : keyI (.int n) (.inl n) := ⟨n, rfl, rfl⟩
      have r4 := (r1.step s2.toCar).step s3.toCar
      obtain ⟨s4, S4⟩ := dset_ok (o := .dK (putK kvs (.inl n) v)) (ks := dks false) (es := putE q1.2 (.int n) z.1) S3 hm h1 (.inr ⟨_, rfl⟩) (dks_dup false) (fun s => .inr ⟨_, rfl, upd_same, EN.put (fun _ _ _ _ => keyI_eq) kk (r4.step s.toCar) (h2.carry fun d v r => r.step s.toCar)⟩)
      have et : t = .int n := r3
      subst et
      refine ⟨a, _, rfl, .inl ⟨kvs, .inl n, h1, rfl, Nat.lt_of_lt_of_le (by rw [h2.len]; exact c4) (by decide), rfl⟩, ?_⟩
      rw [hx] at q
      exact q A3 σ _ (((s1.trans s2).trans s3).trans s4) S4
  | _ => cases e1

/-! ### blocks, loops -/
theorem snd_bnil : PSs X [] (rdS X.K (exB P [])) := by
  refine PSsimp pss_nil fun D σ H q => ?_
  obtain ⟨A, w, S, fl, w', e1, q⟩ := q
  cases e1
  exact q A σ H (Step.refl A H) S
theorem snd_bcons {s : S} {r : List S} {st : Stmt} {sts : List Stmt} (h1 : PS X st (rdS X.K (exS P s))) (h2 : PSs X sts (rdS X.K (exB P r))) : PSs X (st :: sts) (rdS X.K (exB P (s :: r))) := by
  refine PSsimp (pss_cons h1 h2) fun D σ H q => ?_
  obtain ⟨A, w, S, fl, w', e1, q⟩ := q
  obtain ⟨x, ea, e1⟩ := bd_split (show ((exS P s w).bd fun x => match x.1 with
    | .nx => exB P r x.2
    | f => .ok (f, x.2)) = .ok (fl, w') from e1)
  obtain ⟨f1, w1⟩ := x
  refine ⟨A, w, S, f1, w1, ea, ?_⟩
  cases f1 with
  | nx => exact fun A1 σ1 H1 s1 S1 => ⟨A1, w1, S1, fl, w', e1, q.step s1⟩
  | bk => cases e1; exact q
  | ct => cases e1; exact q
  | rt d => cases e1; exact q
theorem snd_for (G : GX T P lv N sc none X) {t : Tg} {it : It} {body : List S} {kill : List Nat} {gc : Bool} {tg iter : Expr} {sts : List Stmt} {pos : Pos} (hi : PI X tg iter (rdI X.K (evI P it))) (hx : okX iter = true) (ht : PG X tg (gD X.K t)) (hb : PSs X sts (rdS X.K (exB P body))) :
    PS X (.For tg iter sts [] pos) (rdS X.K (exS P (.for t it body kill gc))) := by
  refine PSimp (ps_for (by rw [G.xe]; exact PassesOwn.never) G.calm hi ht hb (folded_ok hx)) fun D σ H q => ?_
  obtain ⟨A, w, S, fl, w', e1, q⟩ := q
  obtain ⟨x, ea, e1⟩ := bd_split e1
  refine ⟨A, w, S, x.1, x.2, ea, fun A1 H1 J s1 S1 ok1 wd => ?_⟩
  have hL : x.2.m.length = A1.mu.length := S1.mu.length
  let W : Nat → Sl → Hp → Prop := fun i σ' Hh => i ≤ x.1.xs.length ∧ ∃ (A' : Ad) (w1 : Wd), Step A1 H1 A' Hh ∧ Sim X.K Hh A' w1 σ' ∧ x.1.ok w1 = true ∧
    forL (asg t) (exB P body) (postF kill gc x.2.m.length) x.1.ok (x.1.xs.drop i) w1 = .ok (fl, w')
  refine ⟨fun i m σ' Hh => m = x.1.xs.length - i ∧ W i σ' Hh, ⟨x.1.xs.length, by simp, Nat.zero_le _, A1, x.2, Step.refl A1 H1, S1, ok1, e1⟩, ?_⟩
  rintro i m σ' Hh ⟨rfl, hile, A', w1, st, S', ok', hrun⟩
  by_cases hlt : i < x.1.xs.length
  · right
    obtain ⟨g1, g2⟩ := wd.go A' Hh w1 σ' i st.toCar S' ok' hlt
    refine ⟨g1, W (i + 1), fun σ2 H2 hw => ⟨_, by omega, rfl, hw⟩, fun v H2 hy => ?_⟩
    obtain ⟨st2, S2, hv⟩ := g2 v H2 hy
    rw [List.drop_eq_getElem_cons hlt] at hrun
    obtain ⟨wa, eb, hrun⟩ := bd_split hrun
    obtain ⟨r, ec, hrun⟩ := bd_split hrun
    refine ⟨A', w1, _, wa, S2, hv _ (List.getElem?_eq_getElem hlt), of_split eb, fun σ3 S3 _ _ _ => ⟨A', wa, S3, r.1, r.2, ec, ?_⟩⟩
    have s12 : Step A1 H1 A' H2 := st.trans st2
    have next : ∀ {z}, (R.of (postF kill gc x.2.m.length r.2)).bd (fun w3 => if x.1.ok w3 then forL (asg t) (exB P body) (postF kill gc x.2.m.length) x.1.ok (x.1.xs.drop (i + 1)) w3 else .err) = .ok z → z = (fl, w') →
        ∀ A4 σ4 H4, Step A' H2 A4 H4 → Sim X.K H4 A4 r.2 σ4 → W (i + 1) σ4 H4 := fun {z} h hz A4 σ4 H4 s4 S4 => by
      subst hz
      obtain ⟨w3, e3, h⟩ := bd_split h
      obtain ⟨A5, s5, S5, _⟩ := post_ok (s12.trans s4) S4 (of_split e3) hL
      split at h
      · rename_i ok3
        exact ⟨hlt, A5, w3, s5, S5, ok3, h⟩
      · cases h
    cases hr : r.1 with
    | bk =>
      rw [hr] at hrun
      cases hrun
      exact fun A4 σ4 H4 s4 S4 => q A4 σ4 H4 (s1.trans (s12.trans s4)) S4
    | rt d =>
      rw [hr] at hrun
      cases hrun
      exact fun A4 v4 σ4 H4 s4 S4 r4 => q A4 v4 σ4 H4 (s1.trans (s12.trans s4)) S4 r4
    | nx =>
      rw [hr] at hrun
      exact next hrun rfl
    | ct =>
      rw [hr] at hrun
      exact next hrun rfl
  · left
    obtain rfl : i = x.1.xs.length := Nat.le_antisymm hile (Nat.le_of_not_lt hlt)
    refine ⟨wd.stop A' Hh w1 σ' st.toCar S' ok', ?_⟩
    rw [List.drop_length] at hrun
    cases hrun
    exact q A' σ' Hh (s1.trans st) S'
theorem snd_whl (G : GX T P lv N sc none X) {c : E} {body : List S} {kill : List Nat} {gc : Bool} {x : Expr} {sts : List Stmt} {pos : Pos} (hc : PT X x (rdT X.K (evT P c))) (hb : PSs X sts (rdS X.K (exB P body))) :
    PS X (.While x sts [] pos) (rdS X.K (exS P (.whl c body kill gc))) := by
  refine PSimp (ps_while (by rw [G.xe]; exact PassesOwn.never) hc hb) fun D σ H q => ?_
  obtain ⟨A, w, S, fl, w', e1, q⟩ := q
  have hL : w.m.length = A.mu.length := S.mu.length
  have e1 : whlL (evT P c) (exB P body) (postF kill gc w.m.length) fuel w = .ok (fl, w') := e1
  let W : Nat → Sl → Hp → Prop := fun m σ' Hh => ∃ (A' : Ad) (w1 : Wd), Step A H A' Hh ∧ Sim X.K Hh A' w1 σ' ∧ whlL (evT P c) (exB P body) (postF kill gc w.m.length) m w1 = .ok (fl, w')
  refine ⟨W, ⟨fuel, A, w, Step.refl A H, S, e1⟩, ?_⟩
  rintro m σ' Hh ⟨A', w1, st, S', hrun⟩
  cases m with
  | zero => cases hrun
  | succ m =>
    obtain ⟨r, ea, hrun⟩ := bd_split hrun
    refine ⟨A', w1, S', r.1, r.2, ea, fun A2 H2 s2 S2 => ?_⟩
    cases hr : r.1 with
    | false =>
      rw [hr, if_neg Bool.false_ne_true] at hrun
      rw [if_neg Bool.false_ne_true]
      cases hrun
      exact q A2 σ' H2 (st.trans s2) S2
    | true =>
      rw [hr, if_pos rfl] at hrun
      rw [if_pos rfl]
      obtain ⟨z, eb, hrun⟩ := bd_split hrun
      refine ⟨W m, fun σ3 H3 hw => ⟨m, Nat.lt_succ_self m, hw⟩, A2, r.2, S2, z.1, z.2, eb, ?_⟩
      have s12 : Step A H A2 H2 := st.trans s2
      have next : (R.of (postF kill gc w.m.length z.2)).bd (fun w3 => whlL (evT P c) (exB P body) (postF kill gc w.m.length) m w3) = .ok (fl, w') → ∀ A4 σ4 H4, Step A2 H2 A4 H4 → Sim X.K H4 A4 z.2 σ4 → W m σ4 H4 := fun h A4 σ4 H4 s4 S4 => by
        obtain ⟨w3, e3, h⟩ := bd_split h
        obtain ⟨A5, s5, S5, _⟩ := post_ok (s12.trans s4) S4 (of_split e3) hL
        exact ⟨A5, w3, s5, S5, h⟩
      cases hz : z.1 with
      | bk =>
        rw [hz] at hrun
        cases hrun
        exact fun A4 σ4 H4 s4 S4 => q A4 σ4 H4 (s12.trans s4) S4
      | rt d =>
        rw [hz] at hrun
        cases hrun
        exact fun A4 v4 σ4 H4 s4 S4 r4 => q A4 v4 σ4 H4 (s12.trans s4) S4 r4
      | nx =>
        rw [hz] at hrun
        exact next hrun
      | ct =>
        rw [hz] at hrun
        exact next hrun
end
end Fz

/-! Q16: the checker of statements; defs. -/
namespace Fz
open PySem PySem.Spec PyProof.Rows L2

/-- which names a = b of tuples stores from the right: none: the model does not say -/
def swS (sc : Scope) (t v : Expr) : Option (Option (List Str)) := match t, v with
  | .Tuple ts _ _, .Tuple vs _ _ =>
    if (!(ts.length == 2 || ts.length == 3) || vs.length != ts.length) = true then some none else
    if (vs.any fun | .Starred .. => true | _ => false) = true then some none else
    let line := (ts.head?.map (·.pos.line)).getD 0
    let names := ts.filterMap fun
      | .Name id pos => if sc.names.lookup id == some .local && pos.line == line then some id else none
      | _ => none
    if (names.length != ts.length || names.eraseDups.length != names.length) = true then some none else
    if vs.all (foldedForSure 8) = true then some none else
    if vs.all (constantsAlone 8) = true then none else some (some names)
  | .List _ _, .Tuple _ _ _ => none
  | _, _ => some none
theorem swS_ok {sc : Scope} {t v : Expr} {env : Env} {o : Option (List Str)} (hs : env.scope = sc) (hk : sc.kind = .function) (h : swS sc t v = some o) : swappedStores [t] v env = pure o := by
  have bk : (env.blockKind != .function) = false := by
    unfold Env.blockKind
    rw [hs, hk]
    rfl
  have ko : ∀ x, env.kindOf x = sc.names.lookup x := fun x => by unfold Env.kindOf; rw [hs]
  cases t with
  | Tuple ts k pos =>
    cases v with
    | Tuple vs k2 pos2 =>
      unfold swappedStores
      simp only [swS] at h
      simp only [bk, Bool.or_false, ko, pure_bind]
      split at h
      · rename_i h1
        cases h
        exact (if_pos h1)
      · rename_i h1
        refine (if_neg h1).trans ?_
        split at h
        · rename_i h2
          cases h
          try simp only [pure_bind]
          exact (if_pos h2)
        · rename_i h2
          try simp only [pure_bind]
          refine (if_neg h2).trans ?_
          split at h
          · rename_i h3
            cases h
            try simp only [pure_bind]
            exact (if_pos h3)
          · rename_i h3
            try simp only [pure_bind]
            refine (if_neg h3).trans ?_
            split at h
            · rename_i h4
              cases h
              try simp only [pure_bind]
              exact (if_pos h4)
            · rename_i h4
              try simp only [pure_bind]
              refine (if_neg h4).trans ?_
              split at h
              · cases h
              · rename_i h5
                cases h
                try simp only [pure_bind]
                exact (if_neg h5)
    | _ => cases h; rfl
  | List ts pos =>
    cases v with
    | Tuple vs k2 pos2 => cases h
    | _ => cases h; rfl
  | _ => cases h; rfl

section
variable (T : Tb) (lv : Nat) (N : List Str) (sc : Scope)
def locB (i : Nat) (x : Str) : Bool := decide (N[i]? = some x) && (match sc.names.lookup x with
  | some .local => true
  | _ => false)
def ckPar (t : Tg) (e : E) (tg x : Expr) (names : List Str) : Bool := match t, e, tg, x with
  | .tu [.nm i, .nm j], .tup (.cons ea (.cons eb .nil)), .Tuple [.Name a _, .Name b _] _ _, .Tuple [xa, xb] _ _ =>
    locB N sc i a && (locB N sc j b && (!(i == j) && (decide (names = [a, b]) && ckEs T lv N sc none (.cons ea (.cons eb .nil)) [xa, xb])))
  | .tu [.nm i, .nm j, .nm l], .tup (.cons ea (.cons eb (.cons ec .nil))), .Tuple [.Name a _, .Name b _, .Name c _] _ _, .Tuple [xa, xb, xc] _ _ =>
    locB N sc i a && (locB N sc j b && (locB N sc l c && (!(i == j) && (!(i == l) && (!(j == l) && (decide (names = [a, b, c]) && ckEs T lv N sc none (.cons ea (.cons eb (.cons ec .nil))) [xa, xb, xc]))))))
  | _, _, _, _ => false
def ckCo (t : Tg) (e : E) (tg x : Expr) : Bool := match t, e, tg, x with
  | .nm i, .co _ t it c e own, .Name y py, .ListComp x [⟨tg, iter, ifs, 0⟩] scope pos =>
    locB N sc i y && ((py.line == pos.line) && (!(scope.names.any fun (n, k) => n == y && (k == .local || k == .cell)) && (ckI T lv N sc none it tg iter && (okX iter && (ckT N (relS scope sc) (some scope) t tg && (ckC T lv N (relS scope sc) (some scope) c ifs &&
      (ckE T lv N (relS scope sc) (some scope) e x && (blkC N sc scope (ownN N own) && (slotsT t).all (fun i => own.contains i)))))))))
  | _, _, _, _ => false
def ckSet (t : Tg) (e : E) (tg x : Expr) : Bool :=
  if noComp x then noStar tg && (match swS sc tg x with
    | some none => ckT N sc none t tg && ckE T lv N sc none e x
    | some (some names) => ckPar T lv N sc t e tg x names
    | none => false)
  else ckCo T lv N sc t e tg x || (tgF sc tg && (noStar tg && (match swS sc tg x with
    | some none => ckT N sc none t tg && ckE T lv N sc none e x
    | _ => false)))
def ckTu (es : Es) : Expr → Bool
  | .Tuple xs _ _ => ckEs T lv N sc none es xs
  | _ => false
mutual
def ckS : S → Stmt → Bool
  | .set t e, .Assign [tg] x _ => ckSet T lv N sc t e tg x
  | .put o i e, .Assign [.Subscript x y _] z _ => okX y && (ckE T lv N sc none e z && (ckE T lv N sc none o x && ckE T lv N sc none i y))
  | .dput o es e, .Assign [.Subscript x y _] z _ => ckE T lv N sc none e z && (ckE T lv N sc none o x && ckTu T lv N sc es y)
  | .dputI o i e, .Assign [.Subscript x y _] z _ => okX y && (ckE T lv N sc none e z && (ckE T lv N sc none o x && ckE T lv N sc none i y))
  | .ex e, .Expr x _ => noComp x && ckE T lv N sc none e x
  | .ret e, .Return (some x) _ => ckE T lv N sc none e x
  | .retn, .Return none _ => true
  | .brk, .Break _ => true
  | .cnt, .Continue _ => true
  | .pas, .Pass _ => true
  | .dead, _ => true
  | .ite c a b, .If x xs ys _ => ckE T lv N sc none c x && (ckB a xs && ckB b ys)
  | .for t it body _ _, .For tg iter sts [] _ => okX iter && (ckI T lv N sc none it tg iter && (ckT N sc none t tg && ckB body sts))
  | .whl c body _ _, .While x sts [] _ => ckE T lv N sc none c x && ckB body sts
  | _, _ => false
def ckB : List S → List Stmt → Bool
  | [], [] => true
  | s :: r, st :: sts => ckS s st && ckB r sts
  | _, _ => false
end
end
section
variable {T : Tb} {P : Pg} {lv : Nat} {N : List Str} {sc : Scope} {X : Cx}
theorem locB_ok {i : Nat} {x : Str} (h : locB N sc i x = true) : N[i]? = some x ∧ sc.names.lookup x = some .local := by
  obtain ⟨h1, h2⟩ := and1 h
  refine ⟨of_decide_eq_true h1, ?_⟩
  cases q : sc.names.lookup x with
  | none => rw [q] at h2; cases h2
  | some k =>
    rw [q] at h2
    cases k <;> first | rfl | cases h2
theorem ne_ok {i j : Nat} (h : (!(i == j)) = true) : i ≠ j := by simpa using h
theorem sndSet (G : GX T P lv N sc none X) {t : Tg} {e : E} {tg x : Expr} {pos : Pos} (h : ckSet T lv N sc t e tg x = true) : PS X (.Assign [tg] x pos) (rdS X.K (exS P (.set t e))) := by
  unfold ckSet at h
  split at h
  · rename_i hc
    obtain ⟨h1, h2⟩ := and1 h
    cases q : swS sc tg x with
    | none => rw [q] at h2; cases h2
    | some o =>
      rw [q] at h2
      have hw := swS_ok G.sco G.kind q
      cases o with
      | none =>
        obtain ⟨h3, h4⟩ := and1 h2
        exact snd_set (sndE e sc none X x G h4).pe (sndT G t tg h3) hc h1 hw
      | some names =>
        have h2 : ckPar T lv N sc t e tg x names = true := h2
        unfold ckPar at h2
        split at h2
        · obtain ⟨h3, k⟩ := and1 h2
          obtain ⟨h4, k⟩ := and1 k
          obtain ⟨h5, k⟩ := and1 k
          obtain ⟨h6, kz⟩ := and1 k
          have h6 := of_decide_eq_true h6
          subst h6
          obtain ⟨a1, a2⟩ := locB_ok h3
          obtain ⟨b1, b2⟩ := locB_ok h4
          exact snd_par2 G a1 b1 (ne_ok h5) a2 b2 (sndEs _ sc none X _ G kz) hw
        · obtain ⟨h3, k⟩ := and1 h2
          obtain ⟨h4, k⟩ := and1 k
          obtain ⟨h5, k⟩ := and1 k
          obtain ⟨h6, k⟩ := and1 k
          obtain ⟨h7, k⟩ := and1 k
          obtain ⟨h8, k⟩ := and1 k
          obtain ⟨h9, kz⟩ := and1 k
          have h9 := of_decide_eq_true h9
          subst h9
          obtain ⟨a1, a2⟩ := locB_ok h3
          obtain ⟨b1, b2⟩ := locB_ok h4
          obtain ⟨c1, c2⟩ := locB_ok h5
          exact snd_par3 G a1 b1 c1 (ne_ok h6) (ne_ok h7) (ne_ok h8) a2 b2 c2 (sndEs _ sc none X _ G kz) hw
        · cases h2
  · rcases Bool.or_eq_true_iff.mp h with h | h
    case inr =>
      obtain ⟨h1, k⟩ := and1 h
      obtain ⟨h2, k⟩ := and1 k
      cases q : swS sc tg x with
      | none => rw [q] at k; cases k
      | some o =>
        rw [q] at k
        cases o with
        | none =>
          obtain ⟨h3, h4⟩ := and1 k
          exact snd_setF G.sco (sndE e sc none X x G h4).pe (sndT G t tg h3) h1 h2 (swS_ok G.sco G.kind q)
        | some names => cases k
    unfold ckCo at h
    split at h
    · obtain ⟨h1, k⟩ := and1 h
      obtain ⟨h2, k⟩ := and1 k
      obtain ⟨h3, k⟩ := and1 k
      obtain ⟨h4, k⟩ := and1 k
      obtain ⟨h5, k⟩ := and1 k
      obtain ⟨h6, k⟩ := and1 k
      obtain ⟨h7, k⟩ := and1 k
      obtain ⟨h8, k⟩ := and1 k
      obtain ⟨h9, h10⟩ := and1 k
      obtain ⟨a1, a2⟩ := locB_ok h1
      exact snd_setc G a1 a2 h2 (by simpa using h3) h4 h5 h6 h7 h8 h9 h10
    · cases h
mutual
theorem sndS (G : GX T P lv N sc none X) : ∀ (s : S) (st : Stmt), ckS T lv N sc s st = true → PS X st (rdS X.K (exS P s))
  | .set t e, st, h => by
    cases st with
    | Assign tgs x pos =>
      match tgs, h with
      | [], h => cases h
      | [tg], h => exact sndSet G h
      | _ :: _ :: _, h => cases h
    | _ => cases h
  | .put o i e, st, h => by
    cases st with
    | Assign tgs z pos =>
      match tgs, h with
      | [], h => cases h
      | [tg], h =>
        cases tg with
        | Subscript x y p =>
          obtain ⟨h1, k⟩ := and1 h
          obtain ⟨h2, k⟩ := and1 k
          obtain ⟨h3, h4⟩ := and1 k
          exact snd_put G (sndE e sc none X z G h2).pe (sndE o sc none X x G h3).pe (sndE i sc none X y G h4).pe h1
        | _ => cases h
      | t1 :: _ :: _, h => cases t1 <;> cases h
    | _ => cases h
  | .dput o es e, st, h => by
    cases st with
    | Assign tgs z pos =>
      match tgs, h with
      | [], h => cases h
      | [tg], h =>
        cases tg with
        | Subscript x y p =>
          obtain ⟨h2, k⟩ := and1 h
          obtain ⟨h3, h4⟩ := and1 k
          cases y with
          | Tuple xs k p2 => exact snd_dput G (sndE e sc none X z G h2).pe (sndE o sc none X x G h3).pe (sndEs es sc none X xs G h4)
          | _ => cases h4
        | _ => cases h
      | t1 :: _ :: _, h => cases t1 <;> cases h
    | _ => cases h
  | .dputI o i e, st, h => by
    cases st with
    | Assign tgs z pos =>
      match tgs, h with
      | [], h => cases h
      | [tg], h =>
        cases tg with
        | Subscript x y p =>
          obtain ⟨h1, k⟩ := and1 h
          obtain ⟨h2, k⟩ := and1 k
          obtain ⟨h3, h4⟩ := and1 k
          exact snd_dputI G (sndE e sc none X z G h2).pe (sndE o sc none X x G h3).pe (sndE i sc none X y G h4).pe h1
        | _ => cases h
      | t1 :: _ :: _, h => cases t1 <;> cases h
    | _ => cases h
  | .ex e, st, h => by
    cases st with
    | Expr x pos =>
      obtain ⟨h1, h2⟩ := and1 h
      exact snd_ex (sndE e sc none X x G h2).pe h1
    | _ => cases h
  | .ret e, st, h => by
    cases st with
    | Return x pos =>
      cases x with
      | none => cases h
      | some x => exact snd_ret (sndE e sc none X x G h).pe
    | _ => cases h
  | .retn, st, h => by
    cases st with
    | Return x pos =>
      cases x with
      | none => exact snd_retn
      | some x => cases h
    | _ => cases h
  | .brk, st, h => by
    cases st with
    | Break pos => exact snd_brk
    | _ => cases h
  | .cnt, st, h => by
    cases st with
    | Continue pos => exact snd_cnt
    | _ => cases h
  | .pas, st, h => by
    cases st with
    | Pass pos => exact snd_pas
    | _ => cases h
  | .dead, st, h => snd_dead
  | .ite c a b, st, h => by
    cases st with
    | If x xs ys pos =>
      obtain ⟨h1, k⟩ := and1 h
      obtain ⟨h2, h3⟩ := and1 k
      exact snd_if (sndE c sc none X x G h1).pt (sndB G a xs h2) (sndB G b ys h3)
    | _ => cases h
  | .for t it body kill gc, st, h => by
    cases st with
    | For tg iter sts el pos =>
      cases el with
      | nil =>
        obtain ⟨h1, k⟩ := and1 h
        obtain ⟨h2, k⟩ := and1 k
        obtain ⟨h3, h4⟩ := and1 k
        exact snd_for G (sndI it sc none X tg iter G h2) h1 (sndT G t tg h3) (sndB G body sts h4)
      | cons _ _ => cases h
    | _ => cases h
  | .whl c body kill gc, st, h => by
    cases st with
    | While x sts el pos =>
      cases el with
      | nil =>
        obtain ⟨h1, h2⟩ := and1 h
        exact snd_whl G (sndE c sc none X x G h1).pt (sndB G body sts h2)
      | cons _ _ => cases h
    | _ => cases h
theorem sndB (G : GX T P lv N sc none X) : ∀ (b : List S) (sts : List Stmt), ckB T lv N sc b sts = true → PSs X sts (rdS X.K (exB P b))
  | [], sts, h => by
    cases sts with
    | nil => exact snd_bnil
    | cons _ _ => cases h
  | s :: r, sts, h => by
    cases sts with
    | nil => cases h
    | cons st sts =>
      obtain ⟨h1, h2⟩ := and1 h
      exact snd_bcons (sndS G s st h1) (sndB G r sts h2)
end
end

/-! ### defs -/
structure DefC where
  name : Str
  ps : List Str
  N : List Str
  body : List S
/-- the defs below n -/
def Fn (C : List D) (ds : List DefC) : Nat → Nat → List D → List (List D) → R (D × List (List D))
  | 0 => fun _ _ _ => .err
  | n + 1 => fun j => if j = n then (match ds[n]? with
    | some d => exD ⟨Fn C ds n, C⟩ d.N.length d.body
    | none => fun _ _ => .err) else Fn C ds n j
theorem Fn_lt {C : List D} {ds : List DefC} {j : Nat} : ∀ {n : Nat}, j < n → Fn C ds n j = Fn C ds (j + 1) j
  | 0, h => absurd h (Nat.not_lt_zero _)
  | n + 1, h => by
    by_cases e : j = n
    · subst e
      rfl
    · show (if j = n then _ else Fn C ds n j) = _
      rw [if_neg e]
      exact Fn_lt (by omega)
theorem Fn_at {C : List D} {ds : List DefC} {j : Nat} {d : DefC} (h : ds[j]? = some d) : Fn C ds (j + 1) j = exD ⟨Fn C ds j, C⟩ d.N.length d.body := by
  show (if j = j then _ else _) = _
  rw [if_pos rfl, h]
mutual
theorem give_ok {m : List (List D)} (n : Nat) (hn : ∀ k d', up D.lst 0 m false n k = some d' → okRet d' = true) : ∀ (d d' : D), rs (up D.lst 0 m false n) false d = some d' → okRet d' = true
  | .non, _, e => by cases e; rfl
  | .bl _, _, e => by cases e; rfl
  | .int _, _, e => by cases e; rfl
  | .str _, _, e => by cases e; rfl
  | .tup ds, _, e => by
    obtain ⟨es, e1, rfl⟩ := Option.map_eq_some_iff.mp (show (rsL (up D.lst 0 m false n) false ds).map D.tup = some _ from e)
    exact gives_ok n hn ds es e1
  | .lst ds, _, e => by
    obtain ⟨es, e1, rfl⟩ := Option.map_eq_some_iff.mp (show (rsL (up D.lst 0 m false n) false ds).map D.lst = some _ from e)
    exact gives_ok n hn ds es e1
  | .fl ds, _, e => by cases e
  | .sc ds, _, e => by cases e
  | .ref k, d', e => hn k d' e
  | .g k, _, e => by cases e; rfl
  | .dic ks ds, _, e => by
    obtain ⟨es, e1, rfl⟩ := Option.map_eq_some_iff.mp (show (rsL (up D.lst 0 m false n) false ds).map (D.dic ks) = some _ from e)
    exact gives_ok n hn ds es e1
theorem gives_ok {m : List (List D)} (n : Nat) (hn : ∀ k d', up D.lst 0 m false n k = some d' → okRet d' = true) : ∀ (ds ds' : List D), rsL (up D.lst 0 m false n) false ds = some ds' → okRets ds' = true
  | [], _, e => by cases e; rfl
  | d :: ds, _, e => by
    simp only [rsL, Option.bind_eq_some_iff, Option.map_eq_some_iff] at e
    obtain ⟨y, e1, ys, e2, rfl⟩ := e
    show (okRet y && okRets ys) = true
    rw [give_ok n hn d y e1, gives_ok n hn ds ys e2]
    rfl
end
theorem up_ok {m : List (List D)} : ∀ (n k : Nat) (d' : D), up D.lst 0 m false n k = some d' → okRet d' = true
  | 0, k, d', e => by cases e
  | n + 1, k, d', e => by
    have e : (((m[k]?).bind lsq).bind fun ds => (rsL (up D.lst 0 m false n) false ds).map D.lst) = some d' := e
    simp only [Option.bind_eq_some_iff, Option.map_eq_some_iff] at e
    obtain ⟨ds, _, ys, e2, rfl⟩ := e
    exact gives_ok n (up_ok n) ds ys e2
theorem exD_ret {P : Pg} {n : Nat} {body : List S} {ds : List D} {g : List (List D)} {r : D} {g' : List (List D)} (e : exD P n body ds g = .ok (r, g')) : okRet r = true := by
  unfold exD at e
  obtain ⟨x, _, e⟩ := bd_split e
  split at e
  · obtain ⟨d', e1, e⟩ := bd_split e
    cases e
    exact give_ok 4 (up_ok 4) _ _ (of_split e1)
  · cases e; rfl
  · cases e
def scopeB (N ps : List Str) (sc : Scope) : Bool := (match sc.kind with
  | .function => true
  | _ => false) && (!sc.isCoroutine && (!sc.isGenerator && (decide N.Nodup && (decide (N.take ps.length = ps) && (ps.all (fun x => match sc.names.lookup x with
    | some .local => true
    | some .cell => true
    | _ => false) && sc.names.all fun y => match y.2 with
    | .free => false
    | _ => true)))))
theorem scopeB_ok {N ps : List Str} {sc : Scope} (h : scopeB N ps sc = true) : FnScope N ps sc := by
  obtain ⟨h1, k⟩ := and1 h
  obtain ⟨h2, k⟩ := and1 k
  obtain ⟨h3, k⟩ := and1 k
  obtain ⟨h4, k⟩ := and1 k
  obtain ⟨h5, k⟩ := and1 k
  obtain ⟨h6, h7⟩ := and1 k
  refine ⟨?_, by simpa using h2, by simpa using h3, of_decide_eq_true h4, of_decide_eq_true h5, fun x hx => ?_, fun y hy z => ?_⟩
  · cases q : sc.kind <;> first | rfl | (rw [q] at h1; cases h1)
  · have q := List.all_eq_true.mp h6 x hx
    cases e : sc.names.lookup x with
    | none => rw [e] at q; cases q
    | some k => 
      rw [e] at q
      cases k with
      | «local» => exact .inl rfl
      | cell => exact .inr rfl
      | _ => cases q
  · have q := List.all_eq_true.mp h7 y hy
    rw [z] at q
    cases q
section
variable {P : Program} {w : World} {K : PySem.W.Frag} {mg : Str → Option Value} {base : Heap}
theorem Room.guards {A : Around} {qual : Str} {scope : Scope} {n f : Nat} {cd : Value} (h : A.guards = some []) : (A.deeper (envOfC qual scope n f cd)).guards = some [] := by
  first
    | exact h
    | (unfold Around.deeper; simp [h])
/-- a def keeps its promise -/
theorem def_ok {T : Tb} {Pr : Pg} {j : Nat} {dc : DefC} {fd : FuncData} {f : Addr} {params : Arguments} {stmts : List Stmt} {scope : Scope} {dvs : List V} {kws : List (Str × V)} {nm : Str} (F : FunD K nm dc.name params stmts scope dvs kws f fd)
    (hs : scopeB dc.N dc.ps scope = true) (hb : ckB T j dc.N scope dc.body stmts = true) (dig : base.NoDigits)
    (free : ∀ x ∈ T.free, mg x = none)
    (defs : ∀ (i : Nat) d, T.defs[i]? = some d → i < j → ∃ f fd, mg d.1 = some (.ref f) ∧ PySem.W.keepIn K (.ref f) = true ∧ FnG P w K mg base j f fd d.2 (spD K (Pr.F i) d.2.length) ∧
      (∀ n ks p, (i, n, ks, p) ∈ T.binds → BindOk fd d.2 n ks p) ∧ ∀ ds g r g', Pr.F i ds g = .ok (r, g') → okRet r = true)
    (cons : ∀ (i : Nat) c, T.cons[i]? = some c → Pr.C[i]? = some c.2 ∧ ∃ u v, mg c.1 = some u ∧ RelV v u ∧ ∀ H A, RD K H A c.2 v) :
    FnG P w K mg base (j + 1) f fd dc.ps (spD K (exD Pr dc.N.length dc.body) dc.ps.length) := by
  have S := scopeB_ok hs
  obtain ⟨oc, od, dV, kV, doc, pm, an, cdv, ct, osl, rfl, lk, hcd, _, _⟩ := F.ex
  refine ⟨fun A outer s H args us vs Q E hr hg e0 hbd rv hsp => ?_⟩
  obtain ⟨Ad0, g, ds, d, g', m0, c0, S0, r0, l0, e1, q⟩ := hsp
  have hl : vs.length = dc.ps.length := r0.length.trans l0
  have kx : K.In s.heap := e0.mod.kin.keeps fun b o e => (e0.bs b o e).1
  have lim : s.heap.NoLimit := e0.mod.nolimit.keeps fun b o e => (e0.bs b o e).1
  have kinds : ∀ y ∈ dc.ps.zip us, scope.names.lookup y.1 = some .local ∨ (scope.names.lookup y.1 = some .cell ∧ ((cellsFrom (s.heap.objs.size + 1) scope.names []).lookup y.1).isSome = true) := by
    rintro ⟨n, v⟩ hy
    rcases S.par n (List.of_mem_zip hy).1 with q | q
    · exact .inl q
    · exact .inr ⟨q, PySem.W.cellsFrom_some _ _ _ (.inl q)⟩
  refine codeAny_call_function hr.depth (kx _ _ lk) rfl S.co S.gen rfl (PySem.W.codeRec_of kx hcd) (hbd _ _ _ _ ?_)
  refine wpAny_newFunctionEnv_cells S.kind kinds fun env he s1 x => ?_
  subst he
  refine ⟨lim.keeps x.toInCall.keep, codeAny_func ?_⟩
  have I : Inv (cxOf CX0 P w K mg base dc.N dc.name scope f cdv A outer s H E) [] (L2.start dc.N vs) H s1 := inv_start S hr.hd e0 hl rv x
  have G : GX T Pr j dc.N scope none ((cxOf CX0 P w K mg base dc.N dc.name scope f cdv A outer s H E).nox) :=
    ⟨rfl, S.nd, rfl, S.kind, rfl, rfl, hr.deeper _, Room.guards hg, dig, fun _ _ => rfl, free, defs, cons⟩
  have body := (sndB G dc.body stmts hb).nox
  obtain ⟨z, e2, e3⟩ := bd_split (show ((exB Pr dc.body ⟨ds.map some ++ List.replicate (dc.N.length - ds.length) none, [], g⟩).bd fun x => match x.1 with
    | .rt d => (R.of (give x.2 d)).bd fun d' => R.ok (d', x.2.g)
    | .nx => R.ok (D.non, x.2.g)
    | _ => R.err) = .ok (d, g') from e1)
  have hpl : dc.ps.length ≤ dc.N.length := by
    have := congrArg List.length S.pre
    rw [List.length_take] at this
    omega
  -- the slots at the entry
  have St : Sim K H Ad0 ⟨ds.map some ++ List.replicate (dc.N.length - ds.length) none, [], g⟩ (L2.start dc.N vs) := by
    refine ⟨fun i d e => ?_, ?_, S0.mu, S0.ga, S0.nd, S0.ndg, S0.dj, S0.djg, S0.bt, S0.cnt, S0.cnd, S0.gk⟩
    · have hi : i < ds.length := by
        by_cases hi : i < ds.length
        · exact hi
        · have e : (ds.map some ++ List.replicate (dc.N.length - ds.length) none)[i]? = some (some d) := e
          rw [List.getElem?_append_right (by simpa using hi), List.getElem?_replicate] at e
          split at e <;> cases e
      have e : (ds.map some ++ List.replicate (dc.N.length - ds.length) none)[i]? = some (some d) := e
      rw [List.getElem?_append_left (by simpa using hi), List.getElem?_map] at e
      cases e4 : ds[i]? with
      | none => rw [e4] at e; cases e
      | some d2 =>
        rw [e4] at e
        cases e
        obtain ⟨v, h1, h2⟩ := r0.get e4
        refine ⟨v, ?_, h2⟩
        unfold L2.start
        rw [List.getElem?_append_left (by rw [List.length_map, r0.length]; exact hi), List.getElem?_map, h1]
        rfl
    · show (ds.map some ++ List.replicate (dc.N.length - ds.length) none).length = (L2.start dc.N vs).length
      unfold L2.start
      rw [List.length_append, List.length_append, List.length_map, List.length_map, List.length_replicate, List.length_replicate, r0.length]
  have back : ∀ {A' : Ad} {w' : Wd} {σ' : Sl} {H' : Hp}, Step Ad0 H A' H' → Sim K H' A' w' σ' → Step Ad0 H ⟨[], A'.ga, A'.bad, []⟩ H' ∧ Sim K H' ⟨[], A'.ga, A'.bad, []⟩ ⟨[], [], w'.g⟩ [] := fun {A' w' σ' H'} st S' => by
    have hc : A'.cn = [] := st.cn.trans c0
    refine ⟨⟨⟨fun a o h x => ?_, st.tup, st.frz, fun k a h => ?_, st.ga, st.bad⟩, c0.symm, st.cnk⟩, fun i d e => by simp at e, rfl, rfl, ?_, List.nodup_nil, S'.ndg, (fun a h => nomatch h), S'.djg, S'.bt, (fun a h => nomatch h), (fun a h => nomatch h), S'.gk⟩
    · obtain ⟨h1, h2⟩ := st.kept a o h x
      exact ⟨h1, List.not_mem_nil, h2.2.1, List.not_mem_nil⟩
    · rw [m0] at h
      simp at h
    · exact RL.gok (A := A') (A' := ⟨[], A'.ga, A'.bad, []⟩) (fun _ _ h _ => h) (.inl rfl) (fun _ h => h) S'.gk S'.ga
  have fin : ∀ {σ' : Sl} {H' : Hp} {v : V} {u : Value} {s' : Shared}, Inv (cxOf CX0 P w K mg base dc.N dc.name scope f cdv A outer s H E) [] σ' H' s' → RelV v u → Q v H' → CE outer P w H s Q u s' :=
    fun {σ' H' v u s'} J r q => ⟨v, H', J.os, J.bare, J.base, J.hok, r, q⟩
  refine wpAny_mono (body.run [] s1 (L2.start dc.N vs) H { nx := fun _ H' => Q .non H', rt := Q } I ⟨Ad0, _, St, z.1, z.2, e2, ?_⟩) (fun fl s' hs => ?_) fun e s' hs => hs
  · cases hz : z.1 with
    | nx =>
      rw [hz] at e3
      cases e3
      exact fun A' σ' H' st S' => let ⟨a, b⟩ := back st S'; q _ .non H' a rfl b rfl
    | rt d1 =>
      rw [hz] at e3
      obtain ⟨d2, e4, e3⟩ := bd_split e3
      cases e3
      refine fun A' v σ' H' st S' r => ?_
      obtain ⟨a, b⟩ := back st S'
      have hc : A'.cn = [] := st.cn.trans c0
      refine q _ v H' a rfl b ?_
      refine rs_rd (A := A') (A' := ⟨[], A'.ga, A'.bad, []⟩) (fun k a d' e h => up_rd (K := K) (A' := ⟨[], A'.ga, A'.bad, []⟩) S' (fun a h => ⟨List.not_mem_nil, h.2.1, List.not_mem_nil⟩) (fun a _ h => h) rfl (fun k a h => absurd h (Nat.not_lt_zero _)) (fun k a ys vs _ h1 h2 h3 => ?_) 4 k a d' e h) (fun a h => ⟨List.not_mem_nil, h.2.1, List.not_mem_nil⟩) (fun a _ h => h) rfl d1 v d (of_split e4) r
      obtain ⟨d3, d4⟩ := S'.dj a (List.mem_of_getElem? h1)
      exact ⟨a, vs, rfl, h2, ⟨List.not_mem_nil, d3, List.not_mem_nil⟩, d4, h3⟩
    | bk => rw [hz] at e3; cases e3
    | ct => rw [hz] at e3; cases e3
  · cases fl with
    | ret u =>
      obtain ⟨v, σ', H', J, r, q⟩ := hs
      exact fin J r q
    | next =>
      obtain ⟨σ', H', J, q⟩ := hs
      exact fin (v := V.non) (u := Value.none) J rfl q
    | brk =>
      obtain ⟨_, _, _, q⟩ := hs
      exact False.elim q
    | cont =>
      obtain ⟨_, _, _, q⟩ := hs
      exact False.elim q
end
end Fz

/-! Q17: the program's end: all defs keep their promises; the law's call. -/
namespace Fz
open PySem PySem.Spec PyProof.Rows L2

/-! ### the law's call -/
theorem law_callG {P : Program} {w : World} {K : PySem.W.Frag} {mg mb : Str → Option Value} {k : Nat} {fa a : Addr} {fd : FuncData} {x : Str} {sp : Sp} {s1 : Shared} {vs : List Value} {ns : List Int}
    (KX : K.In s1.heap) (hns : s1.heap.Ns mainGlobals mg) (hb : s1.heap.Ns builtinsNs mb) (hbb : ∀ x : Str, x ≠ "__name__" → mb x = bootBuiltins x) (hlim : s1.heap.NoLimit) (hdig : s1.heap.NoDigits) (hg : s1.gens = #[])
    (ha : s1.heap.get? a = some { cls := .type "list", data := .seq vs.toArray }) (hi : IntsAre vs ns) (hl : ns.length ≤ sizeLine) (hr : Room k callerA)
    (F : ∀ base : Heap, K.In base → base.Ns mainGlobals mg → base.NoDigits → FnG P w K mg base k fa fd [x] sp) (hbind : ∀ (s : Shared) (u : Value), BindsTo s fd ⟨[u], []⟩ [(x, u)])
    (hsp : ∀ H : Hp, SqF K H a (ns.map V.int) → sp [.ref a] H (fun v _ => v = .bl true) fun _ _ _ => False) :
    codeAny (model P w) callerA (.call (.ref fa) ⟨[.ref a], []⟩) (fun r s' => r = .ok (.ret (.bool true)) ∧ OldK s1.heap s'.heap ∧ s'.os = s1.os ∧ AllBare s'.gens) s1 := by
  have rv := vals_ints hi
  have lv := hi.length
  -- with an abstract heap that holds the script alone, or nothing
  have core : ∀ H : Hp, SqF K H a (ns.map V.int) → HOk P w H s1.heap → (∀ b u, H b = some u → b = a ∧ ∃ o ys, u = .frz o (.lst ys)) → (H a ≠ none → K.lookup a = none) →
      codeAny (model P w) callerA (.call (.ref fa) ⟨[.ref a], []⟩) (fun r s' => r = .ok (.ret (.bool true)) ∧ OldK s1.heap s'.heap ∧ s'.os = s1.os ∧ AllBare s'.gens) s1 := by
    intro H hS hok hA hK
    have dictH : ∀ {b : Addr} {o : Obj} {es : Array DictEntry} {ep : Nat}, s1.heap.get? b = some o → o.data = .dict es ep → H b = none := fun {b o es ep} e d => by
      cases q : H b with
      | none => rfl
      | some u =>
        obtain ⟨rfl, _⟩ := hA b u q
        rw [ha] at e
        cases e
        cases (show Data.seq vs.toArray _ = Data.dict es ep from d)
    have nsH : ∀ {b : Addr} {m : Str → Option Value}, s1.heap.Ns b m → (hidT s1.heap H).Ns b m := fun {b m} ⟨o, es, ep, e, d, r⟩ => ⟨o, es, ep, hidT_get e (dictH e d), d, r⟩
    have kIn : K.In (hidT s1.heap H) := fun b o e => hidT_get (KX b o e) (by
      cases q : H b with
      | none => rfl
      | some u =>
        obtain ⟨rfl, _⟩ := hA b u q
        rw [hK (by rw [q]; exact fun z => nomatch z)] at e
        cases e)
    have mod : Mod K mg (hidT s1.heap H) := ⟨kIn, nsH hns, ⟨mb, nsH hb, hbb⟩, let ⟨mc, h1, h2⟩ := hlim; ⟨mc, nsH h1, h2⟩⟩
    have dig : (hidT s1.heap H).NoDigits := let ⟨mc, h1, h2⟩ := hdig; ⟨mc, nsH h1, h2⟩
    have e0 : Env0 P w K mg (hidT s1.heap H) callerA [] s1 H := ⟨rfl, mod, fun b o e => of_hidT e, Nat.le_of_eq (hidT_size _ _), trivial, (fun b hb => nomatch hb), hok, .of_eq hg⟩
    refine codeAny_mono ((F _ kIn (nsH hns) dig).run callerA [] s1 H ⟨[.ref a], []⟩ [.ref a] [.ref a] _ _ hr rfl e0 (hbind s1 (.ref a)) (.cons rfl .nil) (hsp H hS)) fun r s' h => ?_
    cases r with
    | error e => exact False.elim h
    | ok fl =>
      cases fl with
      | next => exact False.elim h
      | brk => exact False.elim h
      | cont => exact False.elim h
      | ret u =>
        obtain ⟨v, H', os, bare, un, hok', r', q⟩ := h
        obtain rfl : v = .bl true := q
        obtain rfl : u = Value.bool true := r'
        refine ⟨rfl, OldK.of_keep fun b o e => ?_, os, bare⟩
        cases q : H b with
        | none => exact un.keep b o e q (fun z => nomatch z) (fun z => nomatch z)
        | some u =>
          obtain ⟨_, ob, ys, rfl⟩ := hA b u q
          have e1 := (hok b _ q).1
          have e2 := (hok' b _ (un.frzs b ob _ q)).1
          rw [e] at e1
          cases e1
          exact e2
  cases hk : K.lookup a with
  | some o =>
    have e := KX a o hk
    rw [ha] at e
    cases e
    exact core (fun _ => none) (.inr (.inr ⟨_, vs.toArray, _, hk, rfl, rfl, rfl, by rw [List.size_toArray, lv]; exact hl, rv⟩)) (fun b u z => nomatch z) (fun b u z => nomatch z) fun z => absurd rfl z
  | none =>
    let o : Obj := { cls := .type "list", data := .seq vs.toArray }
    have at_ : ∀ b u, (if b = a then some (HO.frz o (.lst (ns.map V.int))) else none) = some u → b = a ∧ u = .frz o (.lst (ns.map V.int)) := fun b u z => by
      by_cases hb : b = a
      · rw [if_pos hb] at z
        cases z
        exact ⟨hb, rfl⟩
      · rw [if_neg hb] at z
        cases z
    refine core (fun b => if b = a then some (.frz o (.lst (ns.map V.int))) else none) (.inl ⟨o, if_pos rfl⟩) (fun b u z => ?_) (fun b u z => ?_) fun _ => hk
    · obtain ⟨rfl, rfl⟩ := at_ b u z
      exact ⟨ha, by rw [List.length_map]; exact hl, vs, _, rv, ha⟩
    · obtain ⟨e1, e2⟩ := at_ b u z
      exact ⟨e1, _, _, e2⟩
theorem intD_rds {K : PySem.W.Frag} {H : Hp} {A : Ad} : ∀ ns : List Int, RDs K H A (ns.map D.int) (ns.map V.int)
  | [] => rfl
  | n :: ns => ⟨_, _, rfl, rfl, intD_rds ns⟩
/-- the end of a law's row -/
theorem walk_ofG {l : PySem.W.OpenLaw} {n k : Nat} {q : Program} {loose : List Str} {XP : (Str → Option Value) → Heap → Prop} {YP : World → Heap → Prop} {d : DefRec} {x : Str} {Fl : List D → List (List D) → R (D × List (List D))}
    (hn : l.most = some n) (hn2 : n ≤ sizeLine) (hdf : d.params.defaults = []) (hr : Room k callerA)
    (F : ∀ (w : World) (mg : Str → Option Value) (fa : Addr) (h : Heap), YP w h → h.Ns mainGlobals mg → mg d.name = some (.ref fa) →
      ∃ (K : PySem.W.Frag) (fd : FuncData), K.In h ∧ (∀ (s : Shared) (u : Value), BindsTo s fd ⟨[u], []⟩ [(x, u)]) ∧
        ∀ base : Heap, K.In base → base.Ns mainGlobals mg → base.NoDigits → FnG l.prog w K mg base k fa fd [x] (spD K Fl 1))
    (hrun : ∀ ns : List Int, ns.length ≤ n → ∃ g', Fl [.sc (ns.map D.int)] [] = .ok (.bl true, g')) :
    PySem.W.WalkO q loose XP YP l.row.toRowW d [] (fun f vs => PySem.call f vs) := by
  refine Att.attach_call hn hdf fun w s0 s1 mg mb fa o pm cd doc a vs ns G Y ho hd hcd hmg hobj hints hlen hg => ?_
  obtain ⟨K, fd, KX, hb, hF⟩ := F w mg fa _ Y G.T.g hmg
  obtain ⟨g', hrun⟩ := hrun ns hlen
  refine law_callG KX G.T.g G.T.b G.T.builtins G.T.nolimit G.T.nodigits hg hobj hints (Nat.le_trans hlen hn2) hr hF hb fun H hS => ?_
  refine ⟨⟨[], [], [], []⟩, [], [.sc (ns.map D.int)], .bl true, g', rfl, rfl, ⟨fun i d e => by simp at e, rfl, rfl, rfl, List.nodup_nil, List.nodup_nil, (fun a h => nomatch h), (fun a h => nomatch h), (fun a h => nomatch h), (fun a h => nomatch h), (fun a h => nomatch h), fun xs h => nomatch h⟩, ?_, rfl, hrun, fun A' v H' _ _ _ r => r⟩
  exact ⟨_, [], rfl, ⟨a, _, rfl, hS, intD_rds ns⟩, rfl⟩

/-! ### all defs -/
/-- a def of the text: its row's statement -/
def stName : Stmt → Str
  | .FunctionDef n _ _ _ _ _ _ _ _ _ => n
  | _ => ""
def dOf (st : Stmt) : He.DefD := ⟨(stName st, none), stName st, stName st, defArgs st, defBody st, defScope st, [], []⟩
def faOf (ds : List DefC) (free : List Str) (nums : List (Str × Int)) : List He.Fa := ds.map (fun d => He.Fa.glo d.name) ++ (free.map He.Fa.free ++ nums.map fun p => He.Fa.int p.1 p.2)
theorem says_all {fa : List He.Fa} {fn : List He.DefD} {K : PySem.W.Frag} (c : He.SaysD fa fn K) {f : He.Fa} (h : f ∈ fa) : f.ok K = true := by
  obtain ⟨i, hi⟩ := List.getElem?_of_mem h
  exact c.fact i hi
def ckAll (T : Tb) : Nat → List DefC → List Stmt → Bool
  | _, [], [] => true
  | j, d :: ds, st :: sts => decide (stName st = d.name) && (scopeB d.N d.ps (defScope st) && (ckB T j d.N (defScope st) d.body (defBody st) && ckAll T (j + 1) ds sts))
  | _, _, _ => false
theorem ckAll_at {T : Tb} : ∀ {j : Nat} {ds : List DefC} {sts : List Stmt}, ckAll T j ds sts = true → ∀ (i : Nat) d, ds[i]? = some d → ∃ st, sts[i]? = some st ∧ stName st = d.name ∧ scopeB d.N d.ps (defScope st) = true ∧ ckB T (j + i) d.N (defScope st) d.body (defBody st) = true
  | _, [], _, _, i, d, e => by simp at e
  | _, _ :: _, [], h, _, _, _ => nomatch h
  | j, d :: ds, st :: sts, h, i, d', e => by
    obtain ⟨h1, k⟩ := and1 h
    obtain ⟨h2, k⟩ := and1 k
    obtain ⟨h3, h4⟩ := and1 k
    cases i with
    | zero =>
      cases e
      exact ⟨st, rfl, of_decide_eq_true h1, h2, h3⟩
    | succ i =>
      obtain ⟨st', a, b, c, d2⟩ := ckAll_at h4 i d' e
      exact ⟨st', a, b, c, by rw [show j + (i + 1) = j + 1 + i by omega]; exact d2⟩
def tbOf (ds : List DefC) (free : List Str) (nums : List (Str × Int)) (binds : List (Nat × Nat × List Str × Option (List Nat))) : Tb := ⟨free, ds.map fun d => (d.name, d.ps), nums.map fun p => (p.1, D.int p.2), binds⟩
def cOf (nums : List (Str × Int)) : List D := nums.map fun p => D.int p.2
/-- how the calls bind, by the defs' heads -/
def BindsAll (ds : List DefC) (sts : List Stmt) (binds : List (Nat × Nat × List Str × Option (List Nat))) : Prop :=
  ∀ b ∈ binds, ∀ d st, ds[b.1]? = some d → sts[b.1]? = some st → ∀ (kV doc pm : Value) (an : Option Addr) (cdv ct : Value) (us ws zs : List Value), us.length = b.2.1 → ws.length = b.2.2.1.length → arrD b.2.2.2 (us ++ ws) = some zs →
    bindArgs (PySem.W.fnOf (stName st) (stName st) (defArgs st) (defBody st) (defScope st) .none kV doc pm an cdv ct) ⟨us, b.2.2.1.zip ws⟩ = pure (d.ps.zip zs)
theorem all_ok {P : Program} {w : World} {K : PySem.W.Frag} {h : Heap} {mg : Str → Option Value} {ds : List DefC} {sts : List Stmt} {free : List Str} {nums : List (Str × Int)} {binds : List (Nat × Nat × List Str × Option (List Nat))}
    (X : K.In h) (G : h.Ns mainGlobals mg) (c : He.SaysD (faOf ds free nums) (sts.map dOf) K) (ck : ckAll (tbOf ds free nums binds) 0 ds sts = true) (hb : BindsAll ds sts binds) :
    ∀ (j : Nat) d, ds[j]? = some d → ∃ fd, FunD K d.name d.name (defArgs (sts.getD j (.Pass ⟨0, 0, 0, 0⟩))) (defBody (sts.getD j (.Pass ⟨0, 0, 0, 0⟩))) (defScope (sts.getD j (.Pass ⟨0, 0, 0, 0⟩))) [] [] (He.fAd K (d.name, none)) fd ∧ mg d.name = some (.ref (He.fAd K (d.name, none))) ∧
      (∀ base : Heap, base.NoDigits → FnG P w K mg base (j + 1) (He.fAd K (d.name, none)) fd d.ps (spD K (Fn (cOf nums) ds (j + 1) j) d.ps.length)) ∧ ∀ n ks p, (j, n, ks, p) ∈ binds → BindOk fd d.ps n ks p := by
  intro j
  induction j using Nat.strongRecOn with
  | ind j ih =>
    intro d hd
    obtain ⟨st, hst, hn, hs, hbody⟩ := ckAll_at ck j d hd
    have hgd : sts.getD j (.Pass ⟨0, 0, 0, 0⟩) = st := by rw [List.getD_eq_getElem?_getD, hst]; rfl
    obtain ⟨fd, F⟩ := c.def_ j (d := dOf st) (by rw [List.getElem?_map, hst]; rfl)
    have F : FunD K (stName st) (stName st) (defArgs st) (defBody st) (defScope st) [] [] (He.fAd K (stName st, none)) fd := F
    rw [hn] at F
    have glo : ∀ (i : Nat) d, ds[i]? = some d → mg d.name = some (.ref (He.fAd K (d.name, none))) := fun i d hi =>
      He.glo_ok X G (says_all c (List.mem_append_left _ (List.mem_map.mpr ⟨d, List.mem_of_getElem? hi, rfl⟩)))
    refine ⟨fd, by rw [hgd]; exact F, glo j d hd, ?_, fun n ks p hm => ?_⟩
    · intro base dig
      rw [Fn_at hd]
      rw [Nat.zero_add] at hbody
      refine def_ok (T := tbOf ds free nums binds) F hs hbody dig (fun x hx => ?_) (fun i e hi hij => ?_) (fun i e hi => ?_)
      · exact He.free_ok X G (says_all c (List.mem_append_right _ (List.mem_append_left _ (List.mem_map.mpr ⟨x, hx, rfl⟩))))
      · have hi : (ds.map fun d => (d.name, d.ps))[i]? = some e := hi
        rw [List.getElem?_map] at hi
        cases hdi : ds[i]? with
        | none => rw [hdi] at hi; cases hi
        | some di =>
          rw [hdi] at hi
          cases hi
          obtain ⟨fdi, Fi, gi, fi, bi⟩ := ih i hij di hdi
          refine ⟨_, fdi, gi, Fi.kp, ?_, bi, fun ds' g r g' e => ?_⟩
          · show FnG P w K mg base j _ fdi di.ps (spD K (Fn (cOf nums) ds j i) di.ps.length)
            rw [Fn_lt hij]
            exact (fi base dig).mono hij
          · have e : Fn (cOf nums) ds j i ds' g = .ok (r, g') := e
            rw [Fn_lt hij, Fn_at hdi] at e
            exact exD_ret e
      · have hi : (nums.map fun p => (p.1, D.int p.2))[i]? = some e := hi
        rw [List.getElem?_map] at hi
        cases hdi : nums[i]? with
        | none => rw [hdi] at hi; cases hi
        | some p =>
          rw [hdi] at hi
          cases hi
          obtain ⟨t, ht⟩ := He.int_ok X G (says_all c (List.mem_append_right _ (List.mem_append_right _ (List.mem_map.mpr ⟨p, List.mem_of_getElem? hdi, rfl⟩))))
          refine ⟨?_, _, .int p.2, ht, ⟨t, rfl⟩, fun _ _ => rfl⟩
          show (nums.map fun p => D.int p.2)[i]? = _
          rw [List.getElem?_map, hdi]
          rfl
    · obtain ⟨oc, od, dV, kV, doc, pm, an, cdv, ct, osl, rfl, lk, hcd, hD, hK⟩ := F.ex
      rcases hD with ⟨_, rfl⟩ | ⟨e, _⟩
      · intro s us ws zs l1 l2 e
        have := hb _ hm d st hd hst kV doc pm an cdv ct us ws zs l1 l2 e
        rw [hn] at this
        exact .of_eq this
      · exact absurd rfl e
/-- the end's last step -/
theorem end_ok {P : Program} {w : World} {K : PySem.W.Frag} {h : Heap} {mg : Str → Option Value} {fa : Addr} {nums : List (Str × Int)} {ds : List DefC} {j : Nat} {d : DefC} {pa : Arguments} {bo : List Stmt} {sc : Scope} {x : Str}
    (A : ∃ fd, FunD K d.name d.name pa bo sc [] [] (He.fAd K (d.name, none)) fd ∧ mg d.name = some (.ref (He.fAd K (d.name, none))) ∧ (∀ base : Heap, base.NoDigits → FnG P w K mg base (j + 1) (He.fAd K (d.name, none)) fd d.ps (spD K (Fn (cOf nums) ds (j + 1) j) d.ps.length)) ∧ ∀ n ks p, (j, n, ks, p) ∈ ([] : List (Nat × Nat × List Str × Option (List Nat))) → True)
    (hps : d.ps = [x]) (B : ∀ f fd, FunD K d.name d.name pa bo sc [] [] f fd → ∀ (s : Shared) (u : Value), BindsTo s fd ⟨[u], []⟩ [(x, u)]) (X : K.In h) (hmg : mg d.name = some (.ref fa)) :
    ∃ (fd : FuncData), K.In h ∧ (∀ (s : Shared) (u : Value), BindsTo s fd ⟨[u], []⟩ [(x, u)]) ∧ ∀ base : Heap, K.In base → base.Ns mainGlobals mg → base.NoDigits → FnG P w K mg base (j + 1) fa fd [x] (spD K (Fn (cOf nums) ds (j + 1) j) 1) := by
  obtain ⟨fd, F, g, G, _⟩ := A
  rw [hmg] at g
  cases g
  rw [hps] at G
  exact ⟨fd, X, B _ _ F, fun base _ _ dig => G base dig⟩
end Fz

/-! Q18: reasoning about the evaluator. -/
namespace Fz
open PySem
section
variable {P : Pg} {w : Wd}
theorem bd_congr {α β : Type} {x x' : R α} {f : α → R β} (h : x = x') : x.bd f = x'.bd f := by rw [h]
@[simp] theorem bd_ite {α β : Type} {c : Prop} [Decidable c] (a b : R α) (f : α → R β) : (if c then a else b).bd f = if c then a.bd f else b.bd f := by split <;> rfl
@[simp] theorem evE_v {i : Nat} : evE P (.v i) w = (match w.σ[i]? with
    | some (some d) => .ok (d, w)
    | _ => .err) := .trans rfl rfl
@[simp] theorem evE_k {d : D} : evE P (.k d) w = .ok (d, w) := .trans rfl rfl
@[simp] theorem evE_gl {i : Nat} : evE P (.gl i) w = (R.of P.C[i]?).bd fun d => .ok (d, w) := .trans rfl rfl
@[simp] theorem evE_op {o : Op} {md : Nat} {a b : E} : evE P (.op o md a b) w = (evE P a w).bd fun x => (evE P b x.2).bd fun y => opF o md x.1 y.1 y.2 := .trans rfl rfl
@[simp] theorem evE_neg {a : E} : evE P (.neg a) w = (evE P a w).bd fun x => match x.1 with
    | .int i => .ok (.int (-i), x.2)
    | _ => .err := .trans rfl rfl
@[simp] theorem evE_no {a : E} : evE P (.no a) w = (evE P a w).bd fun x => (R.of (x.2.tru x.1)).bd fun b => .ok (.bl (!b), x.2) := .trans rfl rfl
@[simp] theorem evE_an {a b : E} : evE P (.an a b) w = (evE P a w).bd fun x => (R.of (x.2.tru x.1)).bd fun c => if c then evE P b x.2 else .ok x := .trans rfl rfl
@[simp] theorem evE_or {a b : E} : evE P (.or a b) w = (evE P a w).bd fun x => (R.of (x.2.tru x.1)).bd fun c => if c then .ok x else evE P b x.2 := .trans rfl rfl
@[simp] theorem evE_cm {c : Cm} {a b : E} : evE P (.cm c a b) w = (evE P a w).bd fun x => (evE P b x.2).bd fun y => (R.of (cmF c x.1 y.1 y.2)).bd fun r => .ok (.bl r, y.2) := .trans rfl rfl
@[simp] theorem evE_ch {c c2 : Cm} {a b d : E} : evE P (.ch a c b c2 d) w = (evE P a w).bd fun x => (evE P b x.2).bd fun y => (R.of (cmF c x.1 y.1 y.2)).bd fun r => if r then
      (evE P d y.2).bd fun z => (R.of (cmF c2 y.1 z.1 z.2)).bd fun q => .ok (.bl q, z.2) else .ok (.bl false, y.2) := .trans rfl rfl
@[simp] theorem evE_ite {c a b : E} : evE P (.ite c a b) w = (evE P c w).bd fun x => (R.of (x.2.tru x.1)).bd fun r => if r then evE P a x.2 else evE P b x.2 := .trans rfl rfl
@[simp] theorem evE_tup {es : Es} : evE P (.tup es) w = (evEs P es w).bd fun x => newT x.1 x.2 := .trans rfl rfl
@[simp] theorem evE_lst {md : Nat} {es : Es} : evE P (.lst md es) w = (evEs P es w).bd fun x => newL md x.1 x.2 := .trans rfl rfl
@[simp] theorem evE_ix {a i : E} : evE P (.ix a i) w = (evE P a w).bd fun x => (evE P i x.2).bd fun y => match y.1 with
    | .int k => (R.of (y.2.seq x.1)).bd fun xs => (R.of ((ixI xs.length k).bind fun j => xs[j]?)).bd fun d => .ok (d, y.2)
    | .str k => (R.of (dicL x.1 k)).bd fun d => .ok (d, y.2)
    | _ => .err := .trans rfl rfl
@[simp] theorem evE_lrg {tp : Bool} {md : Nat} {es : Es} : evE P (.lrg tp md es) w = (evEs P es w).bd fun x => (R.of (rngF x.1)).bd fun xs => if tp then newT xs x.2 else newL md xs x.2 := .trans rfl rfl
@[simp] theorem evE_dis {ks : List Str} {es : Es} : evE P (.dis ks es) w = (evEs P es w).bd fun x => if ks.Nodup ∧ ks ≠ [] ∧ ks.length ≤ 15 ∧ ks.length = x.1.length then .ok (.dic ks x.1, x.2) else .err := .trans rfl rfl
@[simp] theorem dicL_dic {ks : List Str} {ds : List D} {k : Str} : dicL (.dic ks ds) k = lkp ks ds k := .trans rfl rfl
@[simp] theorem lkp_cons {k x : Str} {ks : List Str} {d : D} {ds : List D} : lkp (k :: ks) (d :: ds) x = if k = x then some d else lkp ks ds x := .trans rfl rfl
@[simp] theorem evE_sl {md : Nat} {a : E} {lo hi : Oe} : evE P (.sl md a lo hi) w = (evE P a w).bd fun x => (evO P lo x.2).bd fun l => (evO P hi l.2).bd fun h => (R.of (h.2.seq x.1)).bd fun xs =>
      if isT x.1 then newT (cut xs l.1 h.1) h.2 else newL md (cut xs l.1 h.1) h.2 := .trans rfl rfl
@[simp] theorem evE_rev {md : Nat} {a : E} : evE P (.rev md a) w = (evE P a w).bd fun x => (R.of (x.2.seq x.1)).bd fun xs => if isT x.1 then newT xs.reverse x.2 else newL md xs.reverse x.2 := .trans rfl rfl
@[simp] theorem evE_call {f : Nat} {perm : Option (List Nat)} {es ks : Es} : evE P (.call f perm es ks) w = (evEs P es w).bd fun x => (evEs P ks x.2).bd fun y => (R.of (lendL y.2 (x.1 ++ y.1))).bd fun ds => (R.of (arrD perm ds)).bd fun ds =>
      (P.F f ds y.2.g).bd fun r => .ok (r.1, { y.2 with g := r.2 }) := .trans rfl rfl
@[simp] theorem evE_bi {b : Bi} {md : Nat} {es : Es} : evE P (.bi b md es) w = (evEs P es w).bd fun x => biF b md x.1 x.2 := .trans rfl rfl
@[simp] theorem evE_me {m : Me} {o : E} {es : Es} : evE P (.me m o es) w = (evE P o w).bd fun x => (R.of (x.2.seq x.1)).bd fun _ => (evEs P es x.2).bd fun y => meF m x.1 y.1 y.2 := .trans rfl rfl
@[simp] theorem evE_isi {e : E} {t : Ty} : evE P (.isi e t) w = (evE P e w).bd fun x => (R.of (tyF t x.2 x.1)).bd fun b => .ok (.bl b, x.2) := .trans rfl rfl
@[simp] theorem evE_dnew {b : Bool} : evE P (.dnew b) w = .ok (.ref w.m.length, { w with m := w.m ++ [[.dic (dks b) []]] }) := .trans rfl rfl
@[simp] theorem evE_dget {o : E} {es : Es} {z : D} : evE P (.dget o es z) w = (evE P o w).bd fun x => (R.of (x.2.dct x.1)).bd fun _ => (evEs P es x.2).bd fun y => (R.of (y.2.dct x.1)).bd fun q => if decide (q.1 = 2) && (intD y.1).isSome && decide (y.1.length ≤ mxLen) && isFlat z then .ok ((getE q.2 (.tup y.1)).getD z, y.2) else .err := .trans rfl rfl
@[simp] theorem evE_din {n : Bool} {k o : E} : evE P (.din n k o) w = (evE P k w).bd fun y => (evE P o y.2).bd fun x => (R.of (x.2.dct x.1)).bd fun q => match y.1 with
    | .int i => if decide (q.1 = 3) then .ok (.bl (xor n (getE q.2 (.int i)).isSome), x.2) else .err
    | _ => .err := .trans rfl rfl
@[simp] theorem exS_dput {o : E} {es : Es} {e : E} : exS P (.dput o es e) w = (evE P e w).bd fun z => (evE P o z.2).bd fun x => (evEs P es x.2).bd fun y => (R.of (y.2.dct x.1)).bd fun q => if decide (q.1 = 2) && (intD y.1).isSome && decide (y.1.length ≤ mxLen ∧ q.2.length < mxLen) then .ok (.nx, y.2.dset x.1 (dks true) (putE q.2 (.tup y.1) z.1)) else .err := .trans rfl rfl
@[simp] theorem exS_dputI {o k e : E} : exS P (.dputI o k e) w = (evE P e w).bd fun z => (evE P o z.2).bd fun x => (evE P k x.2).bd fun y => (R.of (y.2.dct x.1)).bd fun q => match y.1 with
    | .int i => if decide (q.1 = 3) && decide (q.2.length < mxLen) then .ok (.nx, y.2.dset x.1 (dks false) (putE q.2 (.int i) z.1)) else .err
    | _ => .err := .trans rfl rfl
@[simp] theorem lsq_nil : lsq [] = some [] := .trans rfl rfl
@[simp] theorem lsq_int {i : Int} {r : List D} : lsq (.int i :: r) = some (.int i :: r) := .trans rfl rfl
@[simp] theorem lsq_bl {i : Bool} {r : List D} : lsq (.bl i :: r) = some (.bl i :: r) := .trans rfl rfl
@[simp] theorem lsq_str {i : Str} {r : List D} : lsq (.str i :: r) = some (.str i :: r) := .trans rfl rfl
@[simp] theorem lsq_non {r : List D} : lsq (.non :: r) = some (.non :: r) := .trans rfl rfl
@[simp] theorem lsq_tup {i : List D} {r : List D} : lsq (.tup i :: r) = some (.tup i :: r) := .trans rfl rfl
@[simp] theorem lsq_lst {i : List D} {r : List D} : lsq (.lst i :: r) = some (.lst i :: r) := .trans rfl rfl
@[simp] theorem lsq_fl {i : List D} {r : List D} : lsq (.fl i :: r) = some (.fl i :: r) := .trans rfl rfl
@[simp] theorem lsq_ref {i : Nat} {r : List D} : lsq (.ref i :: r) = some (.ref i :: r) := .trans rfl rfl
theorem lsq_noDc {xs : List D} (h : isDc xs = false) : lsq xs = some xs := by unfold lsq; rw [h]; exact if_neg (by decide)
@[simp] theorem lsq_ints {l : List Int} : lsq (l.map D.int) = some (l.map D.int) := by cases l <;> exact .trans rfl rfl
@[simp] theorem lsq_mapt {α : Type} {f : α → List D} {l : List α} : lsq (l.map fun a => D.tup (f a)) = some (l.map fun a => D.tup (f a)) := by cases l <;> exact .trans rfl rfl
@[simp] theorem lsq_mapi {α : Type} {f : α → Int} {l : List α} : lsq (l.map fun a => D.int (f a)) = some (l.map fun a => D.int (f a)) := by cases l <;> exact .trans rfl rfl
@[simp] theorem evE_co {md : Nat} {t : Tg} {it : It} {c : Oe} {e : E} {own : List Nat} : evE P (.co md t it c e own) w = (evI P it w).bd fun x => (coL (asg t) (evC P c) (evE P e) x.1.ok own x.2.σ x.1.xs x.2 []).bd fun r => newL md r.1 r.2 := .trans rfl rfl
@[simp] theorem evEs_nil : evEs P .nil w = .ok ([], w) := .trans rfl rfl
@[simp] theorem evEs_cons {e : E} {r : Es} : evEs P (.cons e r) w = (evE P e w).bd fun x => (evEs P r x.2).bd fun y => .ok (x.1 :: y.1, y.2) := .trans rfl rfl
@[simp] theorem evO_no : evO P .no w = .ok (none, w) := .trans rfl rfl
@[simp] theorem evO_so {e : E} : evO P (.so e) w = (evE P e w).bd fun x => match x.1 with
    | .int i => .ok (some i, x.2)
    | _ => .err := .trans rfl rfl
@[simp] theorem evC_no : evC P .no w = .ok (true, w) := .trans rfl rfl
@[simp] theorem evC_so {e : E} : evC P (.so e) w = (evE P e w).bd fun x => (R.of (x.2.tru x.1)).bd fun b => .ok (b, x.2) := .trans rfl rfl
@[simp] theorem evI_seq {e : E} : evI P (.seq e) w = (evE P e w).bd fun x => (R.of (x.2.seq x.1)).bd fun xs => .ok (⟨xs, (srcOf x.1).ok xs⟩, x.2) := .trans rfl rfl
@[simp] theorem evI_rng {es : Es} : evI P (.rng es) w = (evEs P es w).bd fun x => (R.of (rngF x.1)).bd fun xs => .ok (⟨xs, fun _ => true⟩, x.2) := .trans rfl rfl
@[simp] theorem evI_enu {e : E} : evI P (.enu e) w = (evE P e w).bd fun x => (R.of (x.2.seq x.1)).bd fun xs => .ok (⟨enuL 0 xs, (srcOf x.1).ok xs⟩, x.2) := .trans rfl rfl
@[simp] theorem evI_zip {a b : E} : evI P (.zip a b) w = (evE P a w).bd fun x => (evE P b x.2).bd fun y => (R.of (y.2.seq x.1)).bd fun xs => (R.of (y.2.seq y.1)).bd fun ys =>
      if isT x.1 == isT y.1 then .ok (⟨zipD xs ys, fun w => (srcOf x.1).ok xs w && (srcOf y.1).ok ys w⟩, y.2) else .err := .trans rfl rfl
@[simp] theorem exS_set {t : Tg} {e : E} : exS P (.set t e) w = (evE P e w).bd fun x => (R.of (asg t x.1 x.2)).bd fun w' => .ok (.nx, w') := .trans rfl rfl
@[simp] theorem exS_put {o i e : E} : exS P (.put o i e) w = (evE P e w).bd fun z => (evE P o z.2).bd fun x => (evE P i x.2).bd fun y => match y.1 with
    | .int k => (R.of (y.2.seq x.1)).bd fun xs => (R.of (ixI xs.length k)).bd fun j => (R.of (y.2.put x.1 (xs.set j z.1))).bd fun w' => .ok (.nx, w')
    | _ => .err := .trans rfl rfl
@[simp] theorem exS_ex {e : E} : exS P (.ex e) w = (evE P e w).bd fun x => .ok (.nx, x.2) := .trans rfl rfl
@[simp] theorem exS_ret {e : E} : exS P (.ret e) w = (evE P e w).bd fun x => .ok (.rt x.1, x.2) := .trans rfl rfl
@[simp] theorem exS_retn : exS P .retn w = .ok (.rt .non, w) := .trans rfl rfl
@[simp] theorem exS_brk : exS P .brk w = .ok (.bk, w) := .trans rfl rfl
@[simp] theorem exS_cnt : exS P .cnt w = .ok (.ct, w) := .trans rfl rfl
@[simp] theorem exS_pas : exS P .pas w = .ok (.nx, w) := .trans rfl rfl
@[simp] theorem exS_dead : exS P .dead w = .err := .trans rfl rfl
@[simp] theorem exS_ite {c : E} {a b : List S} : exS P (.ite c a b) w = (evT P c w).bd fun x => if x.1 then exB P a x.2 else exB P b x.2 := .trans rfl rfl
@[simp] theorem exS_for {t : Tg} {it : It} {body : List S} {kill : List Nat} {gc : Bool} : exS P (.for t it body kill gc) w = (evI P it w).bd fun x => forL (asg t) (exB P body) (postF kill gc x.2.m.length) x.1.ok x.1.xs x.2 := .trans rfl rfl
@[simp] theorem exS_whl {c : E} {body : List S} {kill : List Nat} {gc : Bool} : exS P (.whl c body kill gc) w = whlL (evT P c) (exB P body) (postF kill gc w.m.length) fuel w := .trans rfl rfl
@[simp] theorem evT_eq {e : E} : evT P e w = (evE P e w).bd fun x => (R.of (x.2.tru x.1)).bd fun b => .ok (b, x.2) := .trans rfl rfl
@[simp] theorem exB_nil : exB P [] w = .ok (.nx, w) := .trans rfl rfl
@[simp] theorem exB_cons {s : S} {r : List S} : exB P (s :: r) w = (exS P s w).bd fun x => match x.1 with
    | .nx => exB P r x.2
    | f => .ok (f, x.2) := .trans rfl rfl
@[simp] theorem asg_nm {i : Nat} {d : D} : asg (.nm i) d w = some { w with σ := w.σ.set i (some d) } := .trans rfl rfl
@[simp] theorem asg_tu {ts : List Tg} {ds : List D} : asg (.tu ts) (.tup ds) w = asgL ts ds w := .trans rfl rfl
@[simp] theorem asg_tuL {ts : List Tg} {ds : List D} : asg (.tu ts) (.lst ds) w = asgL ts ds w := .trans rfl rfl
@[simp] theorem asgL_nil : asgL [] [] w = some w := .trans rfl rfl
@[simp] theorem asgL_cons {t : Tg} {ts : List Tg} {d : D} {ds : List D} : asgL (t :: ts) (d :: ds) w = (asg t d w).bind fun w' => asgL ts ds w' := .trans rfl rfl
@[simp] theorem wipeD_nil {σ : List (Option D)} : wipeD σ [] = σ := .trans rfl rfl
@[simp] theorem wipeD_cons {σ : List (Option D)} {v : Nat} {vs : List Nat} : wipeD σ (v :: vs) = (wipeD σ vs).set v none := .trans rfl rfl
@[simp] theorem tru_bl {b : Bool} : w.tru (.bl b) = some b := .trans rfl rfl
@[simp] theorem tru_int {i : Int} : w.tru (.int i) = some (i != 0) := .trans rfl rfl
@[simp] theorem tru_non : w.tru .non = some false := .trans rfl rfl
@[simp] theorem seq_tup {ds : List D} : w.seq (.tup ds) = some ds := .trans rfl rfl
@[simp] theorem seq_lst {ds : List D} : w.seq (.lst ds) = some ds := .trans rfl rfl
@[simp] theorem seq_fl {ds : List D} : w.seq (.fl ds) = some ds := .trans rfl rfl
@[simp] theorem seq_sc {ds : List D} : w.seq (.sc ds) = some ds := .trans rfl rfl
@[simp] theorem seq_ref {k : Nat} : w.seq (.ref k) = (w.m[k]?).bind lsq := .trans rfl rfl
@[simp] theorem seq_g {k : Nat} : w.seq (.g k) = w.g[k]? := .trans rfl rfl
@[simp] theorem op_add {md : Nat} {i j : Int} : opF .add md (.int i) (.int j) w = .ok (.int (i + j), w) := .trans rfl rfl
@[simp] theorem op_sub {md : Nat} {i j : Int} : opF .sub md (.int i) (.int j) w = .ok (.int (i - j), w) := .trans rfl rfl
@[simp] theorem op_mul {md : Nat} {i j : Int} : opF .mul md (.int i) (.int j) w = if mulOk i j then .ok (.int (i * j), w) else .err := .trans rfl rfl
@[simp] theorem op_fdiv {md : Nat} {i j : Int} : opF .fdiv md (.int i) (.int j) w = if divOk i j then .ok (.int (i.fdiv j), w) else .err := .trans rfl rfl
@[simp] theorem op_mod {md : Nat} {i j : Int} : opF .mod md (.int i) (.int j) w = if j = 0 then .err else .ok (.int (i.fmod j), w) := .trans rfl rfl
@[simp] theorem op_pow {md : Nat} {i j : Int} : opF .pow md (.int i) (.int j) w = if powOk i j then .ok (.int (i ^ j.toNat), w) else .err := .trans rfl rfl
@[simp] theorem op_band {md : Nat} {i j : Int} : opF .band md (.int i) (.int j) w = .ok (.int (Builtin.bitAnd i j), w) := .trans rfl rfl
@[simp] theorem op_bxor {md : Nat} {i j : Int} : opF .bxor md (.int i) (.int j) w = .ok (.int (Builtin.bitXor i j), w) := .trans rfl rfl
@[simp] theorem op_shl {md : Nat} {i j : Int} : opF .shl md (.int i) (.int j) w = if powOk i j then .ok (.int (i * 2 ^ j.toNat), w) else .err := .trans rfl rfl
@[simp] theorem op_addS {md : Nat} {a b : Str} : opF .add md (.str a) (.str b) w = if a.length + b.length ≤ mxLen then .ok (.str (a ++ b), w) else .err := .trans rfl rfl
@[simp] theorem op_addT {md : Nat} {a b : List D} : opF .add md (.tup a) (.tup b) w = newT (a ++ b) w := .trans rfl rfl
@[simp] theorem cm_eqI {i j : Int} : cmF .eq (.int i) (.int j) w = some (decide (i = j)) := .trans rfl rfl
@[simp] theorem cm_neI {i j : Int} : cmF .ne (.int i) (.int j) w = some (!decide (i = j)) := .trans rfl rfl
@[simp] theorem cm_eqS {i j : Str} : cmF .eq (.str i) (.str j) w = some (decide (i = j)) := .trans rfl rfl
@[simp] theorem cm_neS {i j : Str} : cmF .ne (.str i) (.str j) w = some (!decide (i = j)) := .trans rfl rfl
@[simp] theorem cm_lt {i j : Int} : cmF .lt (.int i) (.int j) w = some (decide (i < j)) := .trans rfl rfl
@[simp] theorem cm_le {i j : Int} : cmF .le (.int i) (.int j) w = some (decide (i ≤ j)) := .trans rfl rfl
@[simp] theorem cm_gt {i j : Int} : cmF .gt (.int i) (.int j) w = some (decide (j < i)) := .trans rfl rfl
@[simp] theorem cm_ge {i j : Int} : cmF .ge (.int i) (.int j) w = some (decide (j ≤ i)) := .trans rfl rfl
theorem newL_0 {xs : List D} (h : xs.length ≤ mxLen) : newL 0 xs w = .ok (.lst xs, w) := by
  unfold newL; rw [if_pos h]; rfl
theorem newL_1 {xs : List D} (h : xs.length ≤ mxLen) : newL 1 xs w = .ok (.ref w.m.length, { w with m := w.m ++ [xs] }) := by
  unfold newL; rw [if_pos h]; rfl
theorem newL_2 {xs : List D} (h : xs.length ≤ mxLen) (h2 : xs.all gOk = true) : newL 2 xs w = .ok (.g w.g.length, { w with g := w.g ++ [xs] }) := by
  unfold newL; rw [if_pos h]; simp [h2]
theorem newT_ok' {xs : List D} (h : xs.length ≤ mxLen) : newT xs w = .ok (.tup xs, w) := by
  unfold newT; rw [if_pos h]
theorem le_mx {n : Nat} (h : n ≤ 100000) : n ≤ mxLen := Nat.le_trans h (by decide)

/-! ### loops -/
section
variable {bind : D → Wd → Option Wd} {body : Wd → R (Fl × Wd)} {post : Wd → Option Wd} {ok : Wd → Bool} {test : Wd → R (Bool × Wd)}
@[simp] theorem forL_nil : forL bind body post ok [] w = .ok (.nx, w) := .trans rfl rfl
theorem forL_cons {x : D} {xs : List D} : forL bind body post ok (x :: xs) w = (R.of (bind x w)).bd fun w1 => (body w1).bd fun r => match r.1 with
    | .bk => .ok (.nx, r.2)
    | .rt d => .ok (.rt d, r.2)
    | _ => (R.of (post r.2)).bd fun w3 => if ok w3 then forL bind body post ok xs w3 else .err := rfl
/-- a loop whose turns are known -/
theorem forL_run {f : Nat → D} (st : Nat → Wd) : ∀ (xs : List D) (k : Nat), (∀ i (h : i < xs.length), xs[i] = f (k + i)) → (∀ i r, i < k + xs.length → k ≤ i → forL bind body post ok (f i :: r) (st i) = forL bind body post ok r (st (i + 1))) → forL bind body post ok xs (st k) = .ok (.nx, st (k + xs.length))
  | [], k, _, _ => rfl
  | x :: xs, k, hf, h => by
    have e : x = f k := hf 0 (Nat.zero_lt_succ _)
    rw [e, h k xs (by simp) (Nat.le_refl _), forL_run st xs (k + 1) (fun i hi => by have := hf (i + 1) (Nat.succ_lt_succ hi); rw [show k + (i + 1) = k + 1 + i by omega] at this; exact this) (fun i r h1 h2 => h i r (by rw [List.length_cons]; omega) (by omega))]
    rw [List.length_cons, show k + 1 + xs.length = k + (xs.length + 1) by omega]
/-- a loop with an invariant -/
theorem forL_inv (I : Nat → Wd → Prop) {f : Nat → D} : ∀ (xs : List D) (k : Nat) (w : Wd), (∀ i (h : i < xs.length), xs[i] = f (k + i)) → (∀ i w r, i < k + xs.length → k ≤ i → I i w → ∃ w', I (i + 1) w' ∧ forL bind body post ok (f i :: r) w = forL bind body post ok r w') → I k w → ∃ w', I (k + xs.length) w' ∧ forL bind body post ok xs w = .ok (.nx, w')
  | [], k, w, _, _, hI => ⟨w, hI, rfl⟩
  | x :: xs, k, w, hf, h, hI => by
    have e : x = f k := hf 0 (Nat.zero_lt_succ _)
    obtain ⟨w', h1, h2⟩ := h k w xs (by simp) (Nat.le_refl _) hI
    obtain ⟨w2, h3, h4⟩ := forL_inv I xs (k + 1) w' (fun i hi => by have := hf (i + 1) (Nat.succ_lt_succ hi); rw [show k + (i + 1) = k + 1 + i by omega] at this; exact this) (fun i w r h1 h2 => h i w r (by rw [List.length_cons]; omega) (by omega)) h1
    exact ⟨w2, by rw [List.length_cons, show k + (xs.length + 1) = k + 1 + xs.length by omega]; exact h3, by rw [e, h2, h4]⟩
theorem rngL_ln : ∀ (n : Nat) (lo : Int), (rngL lo n).length = n
  | 0, _ => rfl
  | n + 1, lo => by show (rngL (lo + 1) n).length + 1 = n + 1; rw [rngL_ln n]
theorem rngL_at : ∀ (n : Nat) (lo : Int) (i : Nat) (h : i < (rngL lo n).length), (rngL lo n)[i] = .int (lo + i)
  | 0, _, i, h => absurd h (Nat.not_lt_zero _)
  | n + 1, lo, 0, h => by simp [rngL]
  | n + 1, lo, i + 1, h => by
    have h' : i < (rngL (lo + 1) n).length := by simp [rngL] at h; exact h
    show (rngL (lo + 1) n)[i] = _
    rw [rngL_at n (lo + 1) i h']
    congr 1
    push_cast
    omega
/-- over a range -/
theorem forL_rng (st : Nat → Wd) (lo : Int) (n : Nat) (h : ∀ i r, i < n → forL bind body post ok (.int (lo + i) :: r) (st i) = forL bind body post ok r (st (i + 1))) : forL bind body post ok (rngL lo n) (st 0) = .ok (.nx, st n) := by
  have := forL_run (bind := bind) (body := body) (post := post) (ok := ok) (f := fun i => .int (lo + (i : Int))) st (rngL lo n) 0 (fun i hi => by rw [rngL_at, Nat.zero_add]) (fun i r h1 _ => h i r (by rw [rngL_ln] at h1; omega))
  rw [rngL_ln, Nat.zero_add] at this
  exact this
theorem forL_rngI (I : Nat → Wd → Prop) (lo : Int) (n : Nat) (w : Wd) (h : ∀ i w r, i < n → I i w → ∃ w', I (i + 1) w' ∧ forL bind body post ok (.int (lo + i) :: r) w = forL bind body post ok r w') (h0 : I 0 w) : ∃ w', I n w' ∧ forL bind body post ok (rngL lo n) w = .ok (.nx, w') := by
  have := forL_inv (bind := bind) (body := body) (post := post) (ok := ok) (f := fun i => .int (lo + (i : Int))) I (rngL lo n) 0 w (fun i hi => by rw [rngL_at, Nat.zero_add]) (fun i w r h1 _ h2 => h i w r (by rw [rngL_ln] at h1; omega) h2) h0
  rw [rngL_ln, Nat.zero_add] at this
  exact this
end
/-! ### comprehensions -/
section
variable {bind : D → Wd → Option Wd} {elt : Wd → R (D × Wd)} {ok : Wd → Bool} {own : List Nat} {σ : List (Option D)} {test : Wd → R (Bool × Wd)}
@[simp] theorem coL_nil {acc : List D} : coL bind test elt ok own σ [] w acc = .ok (acc, w) := .trans rfl rfl
theorem coL_cons {x : D} {xs acc : List D} : coL bind test elt ok own σ (x :: xs) w acc = (R.of (bind x { w with σ := wipeD σ own })).bd fun w1 => (test w1).bd fun r => if r.1 then
      (elt r.2).bd fun q => if ok { q.2 with σ := σ } && decide (acc.length < mxLen) then coL bind test elt ok own σ xs { q.2 with σ := σ } (acc ++ [q.1]) else .err
    else if ok { r.2 with σ := σ } then coL bind test elt ok own σ xs { r.2 with σ := σ } acc else .err := rfl
/-- items worked out one by one, the world as it was -/
theorem coL_map {m g : List (List D)} (f : D → D) : ∀ (xs acc : List D), acc.length + xs.length ≤ mxLen → (∀ x ∈ xs, ∀ r acc, acc.length < mxLen → coL bind test elt ok own σ (x :: r) ⟨σ, m, g⟩ acc = coL bind test elt ok own σ r ⟨σ, m, g⟩ (acc ++ [f x])) →
    coL bind test elt ok own σ xs ⟨σ, m, g⟩ acc = .ok (acc ++ xs.map f, ⟨σ, m, g⟩)
  | [], acc, _, _ => by simp
  | x :: xs, acc, h, hx => by
    rw [List.length_cons] at h
    rw [hx x List.mem_cons_self xs acc (by omega), coL_map f xs (acc ++ [f x]) (by simp; omega) fun y hy => hx y (List.mem_cons_of_mem _ hy)]
    simp
theorem coL_filter {m g : List (List D)} (p : D → Bool) (f : D → D) : ∀ (xs acc : List D), acc.length + xs.length ≤ mxLen → (∀ x ∈ xs, ∀ r acc, acc.length < mxLen → coL bind test elt ok own σ (x :: r) ⟨σ, m, g⟩ acc = coL bind test elt ok own σ r ⟨σ, m, g⟩ (if p x then acc ++ [f x] else acc)) →
    coL bind test elt ok own σ xs ⟨σ, m, g⟩ acc = .ok (acc ++ (xs.filter p).map f, ⟨σ, m, g⟩)
  | [], acc, _, _ => by simp
  | x :: xs, acc, h, hx => by
    rw [List.length_cons] at h
    rw [hx x List.mem_cons_self xs acc (by omega), coL_filter p f xs (if p x then acc ++ [f x] else acc) (by split <;> (try rw [List.length_append]) <;> (try rw [List.length_singleton]) <;> omega) fun y hy => hx y (List.mem_cons_of_mem _ hy)]
    cases q : p x <;> simp [List.filter_cons, q]
end
/-! ### sums of size -/
theorem mulOk_l {i j : Int} (h : -(2 ^ 64) < i ∧ i < 2 ^ 64) : mulOk i j = true := decide_eq_true (.inl h)
theorem mulOk_r {i j : Int} (h : -(2 ^ 64) < j ∧ j < 2 ^ 64) : mulOk i j = true := decide_eq_true (.inr (.inl h))
theorem mulOk_b {i j : Int} {a b : Nat} (hi : i.natAbs < 2 ^ a) (hj : j.natAbs < 2 ^ b) (ha : a ≤ 400000) (hb : b ≤ 400000) : mulOk i j = true :=
  decide_eq_true (.inr (.inr ⟨Nat.lt_of_lt_of_le hi (Nat.pow_le_pow_right (by decide) ha), Nat.lt_of_lt_of_le hj (Nat.pow_le_pow_right (by decide) hb)⟩))
end
end Fz
namespace Fz
theorem rngOk_of {j : Int} (h : -4611686018427387904 ≤ j ∧ j < 4611686018427387904) : rngOk j = true := decide_eq_true (p := -(2 ^ 62) ≤ j ∧ j < 2 ^ 62) (by omega)
theorem rng_1 {j : Int} {n : Nat} (h : j.toNat = n) (h2 : -4611686018427387904 ≤ j ∧ j < 4611686018427387904) : rngF [.int j] = some (rngL 0 n) := by
  show (if rngOk j = true then _ else _) = _
  rw [if_pos (rngOk_of h2), h]
theorem rng_2 {i j : Int} {n : Nat} (h : (j - i).toNat = n) (h1 : -4611686018427387904 ≤ i ∧ i < 4611686018427387904) (h2 : -4611686018427387904 ≤ j ∧ j < 4611686018427387904) : rngF [.int i, .int j] = some (rngL i n) := by
  show (if (rngOk i && rngOk j) = true then _ else _) = _
  rw [rngOk_of h1, rngOk_of h2, h]
  rfl
end Fz

/-! Q19: more simp rules; the pot. -/
namespace Fz
open PySem
/-! ### data without own lists -/
mutual
theorem rs_ok {ρ : Nat → Option D} {φ : Bool} : ∀ d : D, okRet d = true → rs ρ φ d = some d
  | .non, _ => rfl
  | .bl _, _ => rfl
  | .int _, _ => rfl
  | .str _, _ => rfl
  | .tup ds, h => by show (rsL ρ φ ds).map D.tup = _; rw [rsL_ok ds h]; rfl
  | .lst ds, h => by show (rsL ρ φ ds).map D.lst = _; rw [rsL_ok ds h]; rfl
  | .fl _, h => nomatch h
  | .sc _, h => nomatch h
  | .ref _, h => nomatch h
  | .g _, _ => rfl
  | .dic ks ds, h => by show (rsL ρ φ ds).map (D.dic ks) = _; rw [rsL_ok ds h]; rfl
theorem rsL_ok {ρ : Nat → Option D} {φ : Bool} : ∀ ds : List D, okRets ds = true → rsL ρ φ ds = some ds
  | [], _ => rfl
  | d :: ds, h => by
    obtain ⟨h1, h2⟩ := and1 (show (okRet d && okRets ds) = true from h)
    show (rs ρ φ d).bind (fun y => (rsL ρ φ ds).map fun ys => y :: ys) = _
    rw [rs_ok d h1, rsL_ok ds h2]
    rfl
end
theorem okRets_all {ds : List D} (h : ∀ d ∈ ds, okRet d = true) : okRets ds = true := by
  induction ds with
  | nil => rfl
  | cons d ds ih =>
    show (okRet d && okRets ds) = true
    rw [h d List.mem_cons_self, ih fun e he => h e (List.mem_cons_of_mem _ he)]
    rfl
theorem okRets_mem {ds : List D} (h : okRets ds = true) : ∀ d ∈ ds, okRet d = true := by
  induction ds with
  | nil => exact fun d hd => nomatch hd
  | cons e ds ih =>
    obtain ⟨h1, h2⟩ := and1 (show (okRet e && okRets ds) = true from h)
    intro d hd
    rcases List.mem_cons.mp hd with rfl | hd
    · exact h1
    · exact ih h2 d hd
@[simp] theorem okRets_int (ns : List Int) : okRets (ns.map D.int) = true := okRets_all fun d hd => by
  obtain ⟨n, _, rfl⟩ := List.mem_map.mp hd
  rfl
@[simp] theorem okRets_nil : okRets [] = true := rfl
@[simp] theorem okRets_cons {d : D} {ds : List D} : okRets (d :: ds) = (okRet d && okRets ds) := .trans rfl rfl
@[simp] theorem okRet_int {i : Int} : okRet (.int i) = true := rfl
@[simp] theorem okRet_bl {i : Bool} : okRet (.bl i) = true := rfl
@[simp] theorem okRet_str {i : Str} : okRet (.str i) = true := rfl
@[simp] theorem okRet_non : okRet .non = true := rfl
@[simp] theorem okRet_g {k : Nat} : okRet (.g k) = true := rfl
@[simp] theorem okRet_lst {ds : List D} : okRet (.lst ds) = okRets ds := .trans rfl rfl
@[simp] theorem okRet_tup {ds : List D} : okRet (.tup ds) = okRets ds := .trans rfl rfl
section
variable {ρ : Nat → Option D} {φ : Bool} {w : Wd}
@[simp] theorem rsL_nil : rsL ρ φ [] = some [] := .trans rfl rfl
@[simp] theorem rsL_cons {x : D} {xs : List D} : rsL ρ φ (x :: xs) = (rs ρ φ x).bind fun y => (rsL ρ φ xs).map fun ys => y :: ys := .trans rfl rfl
@[simp] theorem rs_non : rs ρ φ .non = some .non := .trans rfl rfl
@[simp] theorem rs_bl {b : Bool} : rs ρ φ (.bl b) = some (.bl b) := .trans rfl rfl
@[simp] theorem rs_int {b : Int} : rs ρ φ (.int b) = some (.int b) := .trans rfl rfl
@[simp] theorem rs_str {b : Str} : rs ρ φ (.str b) = some (.str b) := .trans rfl rfl
@[simp] theorem rs_g {k : Nat} : rs ρ φ (.g k) = some (.g k) := .trans rfl rfl
@[simp] theorem rs_ref {k : Nat} : rs ρ φ (.ref k) = ρ k := .trans rfl rfl
@[simp] theorem rs_tup {ds : List D} : rs ρ φ (.tup ds) = (rsL ρ φ ds).map D.tup := .trans rfl rfl
@[simp] theorem rs_lst {ds : List D} : rs ρ φ (.lst ds) = (rsL ρ φ ds).map D.lst := .trans rfl rfl
@[simp] theorem rs_fl {ds : List D} : rs ρ φ (.fl ds) = if φ then (rsL ρ φ ds).map D.fl else none := .trans rfl rfl
@[simp] theorem rs_dic {ks : List Str} {ds : List D} : rs ρ φ (.dic ks ds) = (rsL ρ φ ds).map (D.dic ks) := .trans rfl rfl
@[simp] theorem rs_sc {ds : List D} : rs ρ φ (.sc ds) = if φ then (rsL ρ φ ds).map D.sc else none := .trans rfl rfl
@[simp] theorem rsL_int {ns : List Int} : rsL ρ φ (ns.map D.int) = some (ns.map D.int) := rsL_ok _ (okRets_int ns)
@[simp] theorem give_eq {d : D} : give w d = rs (up D.lst 0 w.m false 4) false d := .trans rfl rfl
@[simp] theorem lendL_eq {ds : List D} : lendL w ds = rsL (up D.fl 0 w.m true 4) true ds := .trans rfl rfl
@[simp] theorem up_0 {mk : List D → D} {m : List (List D)} {n k : Nat} : up mk 0 m φ (n + 1) k = ((m[k]?).bind lsq).bind fun ds => (rsL (up mk 0 m φ n) φ ds).map mk := .trans rfl rfl
theorem up_S {mk : List D → D} {L : Nat} {m : List (List D)} {n k : Nat} : up mk L m φ (n + 1) k = if k < L then some (.ref k) else ((m[k]?).bind lsq).bind fun ds => (rsL (up mk L m φ n) φ ds).map mk := .trans rfl rfl
@[simp] theorem keepO_nil {L : Nat} {m : List (List D)} : keepO L m [] = some [] := .trans rfl rfl
@[simp] theorem keepO_none {L : Nat} {m : List (List D)} {r : List (Option D)} : keepO L m (none :: r) = (keepO L m r).map fun xs => none :: xs := .trans rfl rfl
@[simp] theorem keepO_some {L : Nat} {m : List (List D)} {d : D} {r : List (Option D)} : keepO L m (some d :: r) = (rs (keep L m) true d).bind fun y => (keepO L m r).map fun xs => some y :: xs := .trans rfl rfl
@[simp] theorem keepM_nil {L : Nat} {m : List (List D)} : keepM L m [] = some [] := .trans rfl rfl
@[simp] theorem keepM_cons {L : Nat} {m : List (List D)} {x : List D} {r : List (List D)} : keepM L m (x :: r) = (rsL (keep L m) true x).bind fun y => (keepM L m r).map fun xs => y :: xs := .trans rfl rfl
theorem keep_lt {L : Nat} {m : List (List D)} {k : Nat} (h : k < L) : keep L m k = some (.ref k) := by
  unfold keep
  rw [up_S, if_pos h]
theorem keep_ge {L : Nat} {m : List (List D)} {k : Nat} (h : ¬ k < L) : keep L m k = ((m[k]?).bind lsq).bind fun ds => (rsL (up D.lst L m true 3) true ds).map D.lst := by
  unfold keep
  rw [up_S, if_neg h]
theorem gc_eq {L : Nat} : w.gc L = (keepO L w.m w.σ).bind fun σ => (keepM L w.m (w.m.take L)).map fun m => { w with σ := σ, m := m } := .trans rfl rfl
@[simp] theorem postF_0 {kill : List Nat} {L : Nat} : postF kill false L w = some { w with σ := wipeD w.σ kill } := .trans rfl rfl
@[simp] theorem postF_1 {kill : List Nat} {L : Nat} : postF kill true L w = Wd.gc { w with σ := wipeD w.σ kill } L := .trans rfl rfl
@[simp] theorem arrD_none {α : Type} {xs : List α} : arrD none xs = some xs := .trans rfl rfl
@[simp] theorem arrD_some {α : Type} {p : List Nat} {xs : List α} : arrD (some p) xs = arr p xs := .trans rfl rfl
@[simp] theorem arr_nil {α : Type} {xs : List α} : arr [] xs = some [] := .trans rfl rfl
@[simp] theorem arr_cons {α : Type} {i : Nat} {r : List Nat} {xs : List α} : arr (i :: r) xs = (xs[i]?).bind fun x => (arr r xs).map fun ys => x :: ys := .trans rfl rfl
@[simp] theorem put_g {k : Nat} {xs : List D} : w.put (.g k) xs = if k < w.g.length ∧ xs.all gOk = true then some { w with g := w.g.set k xs } else none := .trans rfl rfl
@[simp] theorem put_ref {k : Nat} {xs : List D} : w.put (.ref k) xs = if k < w.m.length then some { w with m := w.m.set k xs } else none := .trans rfl rfl
@[simp] theorem src_non {xs : List D} : Src.non.ok xs w = true := .trans rfl rfl
@[simp] theorem src_nonF {xs : List D} : Src.non.ok xs = fun _ => true := .trans rfl rfl
@[simp] theorem src_ref {k : Nat} {xs : List D} : (Src.ref k).ok xs w = (w.m[k]?).any fun ys => deqL ys xs := .trans rfl rfl
@[simp] theorem src_g {k : Nat} {xs : List D} : (Src.g k).ok xs w = (w.g[k]?).any fun ys => deqL ys xs := .trans rfl rfl
@[simp] theorem srcOf_lst {xs : List D} : srcOf (.lst xs) = .non := .trans rfl rfl
@[simp] theorem srcOf_tup {xs : List D} : srcOf (.tup xs) = .non := .trans rfl rfl
@[simp] theorem srcOf_fl {xs : List D} : srcOf (.fl xs) = .non := .trans rfl rfl
@[simp] theorem srcOf_sc {xs : List D} : srcOf (.sc xs) = .non := .trans rfl rfl
@[simp] theorem srcOf_ref {k : Nat} : srcOf (.ref k) = .ref k := .trans rfl rfl
@[simp] theorem srcOf_g {k : Nat} : srcOf (.g k) = .g k := .trans rfl rfl
@[simp] theorem deqL_same {xs : List D} : deqL xs xs = true := deqL_refl xs
@[simp] theorem isT_tup {xs : List D} : isT (.tup xs) = true := rfl
@[simp] theorem isT_lst {xs : List D} : isT (.lst xs) = false := rfl
@[simp] theorem isT_fl {xs : List D} : isT (.fl xs) = false := rfl
@[simp] theorem isT_sc {xs : List D} : isT (.sc xs) = false := rfl
@[simp] theorem isT_ref {k : Nat} : isT (.ref k) = false := rfl
@[simp] theorem isT_g {k : Nat} : isT (.g k) = false := rfl
@[simp] theorem isL_lst {xs : List D} : isL (.lst xs) = true := rfl
@[simp] theorem isL_fl {xs : List D} : isL (.fl xs) = true := rfl
@[simp] theorem isL_ref {k : Nat} : isL (.ref k) = true := rfl
@[simp] theorem isL_g {k : Nat} : isL (.g k) = true := rfl
@[simp] theorem isL_tup {xs : List D} : isL (.tup xs) = false := rfl
@[simp] theorem isL_sc {xs : List D} : isL (.sc xs) = false := rfl
/-! ### built-ins -/
variable {md : Nat}
@[simp] theorem bi_len_lst {xs : List D} : biF .len md [.lst xs] w = .ok (.int xs.length, w) := .trans rfl rfl
@[simp] theorem bi_len_tup {xs : List D} : biF .len md [.tup xs] w = .ok (.int xs.length, w) := .trans rfl rfl
@[simp] theorem bi_len_fl {xs : List D} : biF .len md [.fl xs] w = .ok (.int xs.length, w) := .trans rfl rfl
@[simp] theorem bi_len_sc {xs : List D} : biF .len md [.sc xs] w = .ok (.int xs.length, w) := .trans rfl rfl
@[simp] theorem bi_len_ref {k : Nat} : biF .len md [.ref k] w = (R.of ((w.m[k]?).bind lsq)).bd fun xs => .ok (.int xs.length, w) := .trans rfl rfl
@[simp] theorem bi_len_g {k : Nat} : biF .len md [.g k] w = (R.of (w.g[k]?)).bd fun xs => .ok (.int xs.length, w) := .trans rfl rfl
@[simp] theorem bq_abs {i : Int} : biF .abs md [.int i] w = .ok (.int (if i < 0 then -i else i), w) := .trans rfl rfl
@[simp] theorem bi_intI {i : Int} : biF .int md [.int i] w = .ok (.int i, w) := .trans rfl rfl
@[simp] theorem bi_intB {k : Bool} : biF .int md [.bl k] w = .ok (.int (if k then 1 else 0), w) := .trans rfl rfl
@[simp] theorem bi_boolI {i : Int} : biF .bool md [.int i] w = .ok (.bl (i != 0), w) := .trans rfl rfl
@[simp] theorem bi_boolB {k : Bool} : biF .bool md [.bl k] w = .ok (.bl k, w) := .trans rfl rfl
theorem bq_repr {d : D} : biF .repr md [d] w = (R.of (w.py d)).bd fun p => if reprOk p then .ok (.str p.shown, w) else .err := by cases d <;> exact .trans rfl rfl
@[simp] theorem bq_sum {d : D} : biF .sum md [d] w = (R.of ((w.seq d).bind intD)).bd fun xs => .ok (.int xs.sum, w) := by cases d <;> exact .trans rfl rfl
@[simp] theorem bq_dict {d : D} : biF .dict md [d] w = if isT d then .err else (R.of ((w.seq d).bind prsD)).bd fun p => if p.1.Nodup ∧ p.1 ≠ [] ∧ p.1.length ≤ 15 then .ok (.dic p.1 p.2, w) else .err := by cases d <;> exact .trans rfl rfl
@[simp] theorem prsD_nil : prsD [] = some ([], []) := .trans rfl rfl
@[simp] theorem prsD_cons {k : Str} {d : D} {r : List D} : prsD (.tup [.str k, d] :: r) = (prsD r).map fun p => (k :: p.1, d :: p.2) := .trans rfl rfl
@[simp] theorem bi_max2 {i j : Int} : biF .max md [.int i, .int j] w = .ok (.int (if j > i then j else i), w) := .trans rfl rfl
@[simp] theorem bi_min2 {i j : Int} : biF .min md [.int i, .int j] w = .ok (.int (if j < i then j else i), w) := .trans rfl rfl
@[simp] theorem bq_max {d : D} : biF .max md [d] w = if isT d then .err else (R.of ((w.seq d).bind intD)).bd fun xs => if xs.isEmpty then .err else .ok (.int (maxL xs), w) := by cases d <;> exact .trans rfl rfl
@[simp] theorem bq_min {d : D} : biF .min md [d] w = if isT d then .err else (R.of ((w.seq d).bind intD)).bd fun xs => if xs.isEmpty then .err else .ok (.int (minL xs), w) := by cases d <;> exact .trans rfl rfl
@[simp] theorem bq_tuple {d : D} : biF .tuple md [d] w = (R.of (w.seq d)).bd fun xs => newT xs w := by cases d <;> exact .trans rfl rfl
@[simp] theorem bq_list {d : D} : biF .list md [d] w = (R.of (w.seq d)).bd fun xs => newL md xs w := by cases d <;> exact .trans rfl rfl
@[simp] theorem bq_all {d : D} : biF .all md [d] w = if isT d then .err else (R.of ((w.seq d).bind boolD)).bd fun xs => .ok (.bl (xs.all id), w) := by cases d <;> exact .trans rfl rfl
@[simp] theorem bq_any {d : D} : biF .any md [d] w = if isT d then .err else (R.of ((w.seq d).bind boolD)).bd fun xs => .ok (.bl (xs.any id), w) := by cases d <;> exact .trans rfl rfl
@[simp] theorem mq_append {o d : D} : meF .append o [d] w = (R.of (w.seq o)).bd fun xs => if xs.length < mxLen then (R.of (w.put o (xs ++ [d]))).bd fun w' => .ok (.non, w') else .err := .trans rfl rfl
@[simp] theorem mq_extend {o d : D} : meF .extend o [d] w = if isL d && !deq d o then (R.of (w.seq o)).bd fun xs => (R.of (w.seq d)).bd fun ys => if xs.length + ys.length ≤ mxLen then (R.of (w.put o (xs ++ ys))).bd fun w' => .ok (.non, w') else .err else .err := .trans rfl rfl
@[simp] theorem mq_pop {o : D} : meF .pop o [] w = (R.of (w.seq o)).bd fun xs => (R.of xs[xs.length - 1]?).bd fun y => (R.of (w.put o xs.dropLast)).bd fun w' => .ok (y, w') := .trans rfl rfl
@[simp] theorem me_popI {o : D} {i : Int} : meF .pop o [.int i] w = (R.of (w.seq o)).bd fun xs => (R.of (ixI xs.length i)).bd fun k => (R.of xs[k]?).bd fun y => (R.of (w.put o (xs.eraseIdx k))).bd fun w' => .ok (y, w') := .trans rfl rfl
/-! ### indices -/
theorem ixI_nat {n k : Nat} (h : k < n) : ixI n (k : Int) = some k := by
  unfold ixI
  rw [if_pos (by omega), if_pos (by omega)]
  simp
theorem ixI_pos {n : Nat} {i : Int} (h0 : 0 ≤ i) (h : i < n) : ixI n i = some i.toNat := by
  unfold ixI
  rw [if_pos h0, if_pos h]
theorem ixI_neg {n k : Nat} (h0 : 0 < k) (h : k ≤ n) : ixI n (-(k : Int)) = some (n - k) := by
  unfold ixI
  rw [if_neg (by omega), if_pos (by omega)]
  congr 1
  omega
@[simp] theorem ixI_0 {n : Nat} : ixI (n + 1) 0 = some 0 := ixI_nat (k := 0) (by omega)
@[simp] theorem ixI_1 {n : Nat} : ixI (n + 1 + 1) 1 = some 1 := ixI_nat (k := 1) (by omega)
@[simp] theorem ixI_2 {n : Nat} : ixI (n + 1 + 1 + 1) 2 = some 2 := ixI_nat (k := 2) (by omega)
@[simp] theorem ixI_3 {n : Nat} : ixI (n + 1 + 1 + 1 + 1) 3 = some 3 := ixI_nat (k := 3) (by omega)
theorem ixI_m1 {n : Nat} (h : 0 < n) : ixI n (-1) = some (n - 1) := ixI_neg (k := 1) (by omega) h
theorem ixI_m2 {n : Nat} (h : 1 < n) : ixI n (-2) = some (n - 2) := ixI_neg (k := 2) (by omega) h
end
/-! ### as data -/
section
variable {ρ γ : Nat → Option PyData}
theorem pyL_int : ∀ ns : List Int, pyL ρ γ (ns.map D.int) = some (ns.map PyData.int)
  | [] => rfl
  | n :: ns => by
    show (py ρ γ (.int n)).bind (fun y => (pyL ρ γ (ns.map D.int)).map fun ys => y :: ys) = _
    rw [pyL_int ns]
    rfl
end
theorem intD_map : ∀ ns : List Int, intD (ns.map D.int) = some ns
  | [] => rfl
  | n :: ns => by
    show (intD (ns.map D.int)).map (fun is => n :: is) = _
    rw [intD_map ns]
    rfl
end Fz

/-! Q20: plain data: as the model's data, alike, shown. -/
namespace Fz
open PySem
mutual
/-- data without own or shared lists as the model's data -/
def pd : D → PyData
  | .non => .none
  | .bl b => .bool b
  | .int i => .int i
  | .str s => .str s
  | .tup ds => .tuple (pds ds)
  | .lst ds => .list (pds ds)
  | .fl ds => .list (pds ds)
  | .sc ds => .list (pds ds)
  | .ref _ => .none
  | .g _ => .none
  | .dic _ _ => .none
def pds : List D → List PyData
  | [] => []
  | d :: ds => pd d :: pds ds
end
mutual
/-- plain, at most n deep, ints of at most k figures -/
def Pl (k : Nat) : Nat → D → Prop
  | _, .non => True
  | _, .bl _ => True
  | _, .int i => i.natAbs < 10 ^ k
  | _, .str s => PyData.strOk s = true
  | n, .tup ds => 0 < n ∧ Pls k (n - 1) ds
  | n, .lst ds => 0 < n ∧ Pls k (n - 1) ds
  | n, .fl ds => 0 < n ∧ Pls k (n - 1) ds
  | n, .sc ds => 0 < n ∧ Pls k (n - 1) ds
  | _, .ref _ => False
  | _, .g _ => False
  | _, .dic _ _ => False
def Pls (k : Nat) : Nat → List D → Prop
  | _, [] => True
  | n, d :: ds => Pl k n d ∧ Pls k n ds
end
mutual
/-- at most so long -/
def szB (k : Nat) : D → Nat
  | .str s => (reprText s).length
  | .int _ => k + 1
  | .tup ds => szBs k ds + 3
  | .lst ds => szBs k ds + 3
  | .fl ds => szBs k ds + 3
  | .sc ds => szBs k ds + 3
  | _ => 5
def szBs (k : Nat) : List D → Nat
  | [] => 0
  | d :: ds => szB k d + 2 + szBs k ds
end
section
variable {ρ γ : Nat → Option PyData} {k : Nat}
mutual
theorem py_pd : ∀ (d : D) (n : Nat), Pl k n d → py ρ γ d = some (pd d)
  | .non, _, _ => rfl
  | .bl _, _, _ => rfl
  | .int _, _, _ => rfl
  | .str _, _, _ => rfl
  | .tup ds, n, h => by show (pyL ρ γ ds).map PyData.tuple = _; rw [pyL_pd ds _ h.2]; rfl
  | .lst ds, n, h => by show (pyL ρ γ ds).map PyData.list = _; rw [pyL_pd ds _ h.2]; rfl
  | .fl ds, n, h => by show (pyL ρ γ ds).map PyData.list = _; rw [pyL_pd ds _ h.2]; rfl
  | .sc ds, n, h => by show (pyL ρ γ ds).map PyData.list = _; rw [pyL_pd ds _ h.2]; rfl
  | .ref _, _, h => False.elim h
  | .g _, _, h => False.elim h
  | .dic _ _, _, h => False.elim h
theorem pyL_pd : ∀ (ds : List D) (n : Nat), Pls k n ds → pyL ρ γ ds = some (pds ds)
  | [], _, _ => rfl
  | d :: ds, n, h => by
    show (py ρ γ d).bind (fun y => (pyL ρ γ ds).map fun ys => y :: ys) = _
    rw [py_pd d n h.1, pyL_pd ds n h.2]
    rfl
end
mutual
theorem pd_fit : ∀ (d : D) (n : Nat), Pl k n d → (pd d).canLay0 = true ∧ (pd d).depth ≤ n ∧ (k ≤ 4300 → canShow (pd d) = true)
  | .non, _, _ => ⟨rfl, Nat.zero_le _, fun _ => rfl⟩
  | .bl _, _, _ => ⟨rfl, Nat.zero_le _, fun _ => rfl⟩
  | .int i, _, h => ⟨rfl, Nat.zero_le _, fun hk => decide_eq_true (Nat.lt_of_lt_of_le (show i.natAbs < 10 ^ k from h) (Nat.pow_le_pow_right (by decide) hk))⟩
  | .str _, _, h => ⟨h, Nat.zero_le _, fun _ => rfl⟩
  | .tup ds, n, h => by
    obtain ⟨a, b, c⟩ := pds_fit ds _ h.2
    refine ⟨a, ?_, c⟩
    show PyData.depthAll (pds ds) + 1 ≤ n
    have := h.1
    omega
  | .lst ds, n, h => by
    obtain ⟨a, b, c⟩ := pds_fit ds _ h.2
    refine ⟨a, ?_, c⟩
    show PyData.depthAll (pds ds) + 1 ≤ n
    have := h.1
    omega
  | .fl ds, n, h => by
    obtain ⟨a, b, c⟩ := pds_fit ds _ h.2
    refine ⟨a, ?_, c⟩
    show PyData.depthAll (pds ds) + 1 ≤ n
    have := h.1
    omega
  | .sc ds, n, h => by
    obtain ⟨a, b, c⟩ := pds_fit ds _ h.2
    refine ⟨a, ?_, c⟩
    show PyData.depthAll (pds ds) + 1 ≤ n
    have := h.1
    omega
  | .ref _, _, h => False.elim h
  | .g _, _, h => False.elim h
  | .dic _ _, _, h => False.elim h
theorem pds_fit : ∀ (ds : List D) (n : Nat), Pls k n ds → PyData.canLayAll0 (pds ds) = true ∧ PyData.depthAll (pds ds) ≤ n ∧ (k ≤ 4300 → canShows (pds ds) = true)
  | [], _, _ => ⟨rfl, Nat.zero_le _, fun _ => rfl⟩
  | d :: ds, n, h => by
    obtain ⟨a, b, c⟩ := pd_fit d n h.1
    obtain ⟨a2, b2, c2⟩ := pds_fit ds n h.2
    refine ⟨?_, Nat.max_le.mpr ⟨b, b2⟩, fun hk => ?_⟩
    · show ((pd d).canLay0 && PyData.canLayAll0 (pds ds)) = true
      rw [a, a2]; rfl
    · show (canShow (pd d) && canShows (pds ds)) = true
      rw [c hk, c2 hk]; rfl
end
theorem textFrom_le : ∀ (ts : List Str) (j : Nat) (acc : Str), (textFrom j acc ts).length ≤ acc.length + piled ts
  | [], _, acc => by show acc.length ≤ _; omega
  | t :: r, j, acc => by
    have ih := textFrom_le r (j + 1) (acc ++ (if j > 0 then ", " else "" : String) ++ t)
    have e : (acc ++ (if j > 0 then ", " else "" : String) ++ t).length = acc.length + (if j > 0 then 2 else 0) + t.length := by
      rw [strLen_append, strLen_append]
      split <;> rfl
    rw [piled_cons]
    show (textFrom (j + 1) _ r).length ≤ _
    rw [e] at ih
    have : (if j > 0 then 2 else 0 : Nat) ≤ 2 := by split <;> omega
    omega
theorem int_len {i : Int} (hk : 0 < k) (h : i.natAbs < 10 ^ k) : (PyData.shown (.int i)).length ≤ k + 1 := by
  show (Str.ofString (toString i)).length ≤ k + 1
  by_cases h0 : 0 ≤ i
  · have := PyProof.Rows.toString_length_le h0 hk (by
      have e : i = (i.natAbs : Int) := by omega
      rw [e]
      exact_mod_cast h)
    omega
  · obtain ⟨n, rfl⟩ : ∃ n : Nat, i = Int.negSucc n := by cases i with
      | ofNat n => exact absurd (Int.natCast_nonneg n) h0
      | negSucc n => exact ⟨n, rfl⟩
    have e : toString (Int.negSucc n) = "-" ++ toString ((n + 1 : Nat) : Int) := rfl
    rw [e]
    have := PyProof.Rows.toString_length_le (v := ((n + 1 : Nat) : Int)) (by omega) hk (by
      have h : n + 1 < 10 ^ k := h
      exact_mod_cast h)
    rw [ofString_length] at this ⊢
    rw [String.length_append]
    have e2 : ("-" : String).length = 1 := rfl
    omega
mutual
theorem shown_le (hk : 0 < k) : ∀ (d : D) (n : Nat), Pl k n d → (pd d).shown.length ≤ szB k d
  | .non, _, _ => by show ("None" : Str).length ≤ 5; decide
  | .bl b, _, _ => by cases b <;> (show _ ≤ 5; decide)
  | .int i, _, h => int_len hk h
  | .str s, _, _ => Nat.le_refl _
  | .tup ds, n, h => by
    have := showns_le hk ds _ h.2
    show (tupleText (PyData.shownAll (pds ds))).length ≤ szBs k ds + 3
    unfold tupleText
    rw [strLen_append, strLen_append]
    have e1 : ("(" : Str).length = 1 := rfl
    have e2 : ((if (PyData.shownAll (pds ds)).length == 1 then ",)" else ")" : String) : Str).length ≤ 2 := by split <;> decide
    have e3 : (Str.join ", " (PyData.shownAll (pds ds))).length ≤ piled (PyData.shownAll (pds ds)) := by
      by_cases q : PyData.shownAll (pds ds) = []
      · rw [q]; exact Nat.le_refl _
      · have := join_length_add _ q
        omega
    omega
  | .lst ds, n, h => by
    have := showns_le hk ds _ h.2
    show (textFrom 0 "[" (PyData.shownAll (pds ds)) ++ "]").length ≤ szBs k ds + 3
    rw [strLen_append]
    have := textFrom_le (PyData.shownAll (pds ds)) 0 "["
    have e1 : ("[" : Str).length = 1 := rfl
    have e2 : ("]" : Str).length = 1 := rfl
    omega
  | .fl ds, n, h => by
    have := showns_le hk ds _ h.2
    show (textFrom 0 "[" (PyData.shownAll (pds ds)) ++ "]").length ≤ szBs k ds + 3
    rw [strLen_append]
    have := textFrom_le (PyData.shownAll (pds ds)) 0 "["
    have e1 : ("[" : Str).length = 1 := rfl
    have e2 : ("]" : Str).length = 1 := rfl
    omega
  | .sc ds, n, h => by
    have := showns_le hk ds _ h.2
    show (textFrom 0 "[" (PyData.shownAll (pds ds)) ++ "]").length ≤ szBs k ds + 3
    rw [strLen_append]
    have := textFrom_le (PyData.shownAll (pds ds)) 0 "["
    have e1 : ("[" : Str).length = 1 := rfl
    have e2 : ("]" : Str).length = 1 := rfl
    omega
  | .ref _, _, h => False.elim h
  | .g _, _, h => False.elim h
  | .dic _ _, _, h => False.elim h
theorem showns_le (hk : 0 < k) : ∀ (ds : List D) (n : Nat), Pls k n ds → piled (PyData.shownAll (pds ds)) ≤ szBs k ds
  | [], _, _ => Nat.le_refl _
  | d :: ds, n, h => by
    have h1 := shown_le hk d n h.1
    have h2 := showns_le hk ds n h.2
    show piled ((pd d).shown :: PyData.shownAll (pds ds)) ≤ szB k d + 2 + szBs k ds
    rw [piled_cons]
    omega
end
variable {w : Wd} {n : Nat} {d e : D}
theorem py_of (h : Pl k n d) : w.py d = some (pd d) := py_pd d n h
/-- its text -/
theorem repr_of {md : Nat} (h : Pl k n d) (hk : 0 < k) (hk2 : k ≤ 4300) (hn : n ≤ 60) (hz : szB k d ≤ 1000000) : biF .repr md [d] w = .ok (.str (pd d).shown, w) := by
  obtain ⟨a, b, c⟩ := pd_fit d n h
  rw [bq_repr, py_of h, R.of_some, R.bd_ok]
  have : reprOk (pd d) = true := by
    unfold reprOk
    rw [c hk2, decide_eq_true (Nat.le_trans b hn), decide_eq_true (show (pd d).shown.length ≤ mxLen from Nat.le_trans (shown_le hk d n h) hz)]
    rfl
  rw [if_pos this]
theorem eqF_plain (h : Pl k n d) (h2 : Pl k n e) (hn : n ≤ 64) : eqF d e w = some (PyData.eqv (pd d) (pd e)) := by
  have s1 : SeqAt.shaped (pd d) = true := by
    obtain ⟨a, b, c⟩ := pd_fit d n h
    show ((pd d).canLay0 && decide _) = true
    rw [a, decide_eq_true (Nat.le_trans b hn)]; rfl
  have s2 : SeqAt.shaped (pd e) = true := by
    obtain ⟨a, b, c⟩ := pd_fit e n h2
    show ((pd e).canLay0 && decide _) = true
    rw [a, decide_eq_true (Nat.le_trans b hn)]; rfl
  have gen : ((w.py d).bind fun a => (w.py e).bind fun b => if SeqAt.shaped a && SeqAt.shaped b then some (PyData.eqv a b) else none) = some (PyData.eqv (pd d) (pd e)) := by
    rw [py_of h, py_of h2]
    show (if (SeqAt.shaped (pd d) && SeqAt.shaped (pd e)) = true then _ else _) = _
    rw [s1, s2]; rfl
  cases d with
  | int i => cases e with
    | int j => show some (decide (i = j)) = some (PyData.eqv (.int i) (.int j)); rw [PyData.eqv]; congr 1
    | _ => exact gen
  | str i => cases e with
    | str j => show some (decide (i = j)) = some (PyData.eqv (.str i) (.str j)); rw [PyData.eqv]; congr 1
    | _ => exact gen
  | _ => exact gen
theorem eqv_same {n : Nat} (h : Pl k n d) : PyData.eqv (pd d) (pd d) = true := SeqAt.eqv_refl_plain _ (PyData.plain_of_canLay0 _ (pd_fit d n h).1)
theorem eq_same (h : Pl k n d) (h2 : Pl k n e) (hn : n ≤ 64) (he : pd d = pd e) : cmF .eq d e w = some true := by
  show eqF d e w = _
  rw [eqF_plain h h2 hn, ← he, eqv_same h]
theorem ne_same (h : Pl k n d) (h2 : Pl k n e) (hn : n ≤ 64) (he : pd d = pd e) : cmF .ne d e w = some false := by
  show (eqF d e w).map (fun b => !b) = _
  rw [eqF_plain h h2 hn, ← he, eqv_same h]
  rfl
end
/-! ### simp rules -/
section
variable {k n : Nat}
@[simp] theorem Pl_non : Pl k n .non ↔ True := Iff.rfl
@[simp] theorem Pl_bl {b : Bool} : Pl k n (.bl b) ↔ True := Iff.rfl
@[simp] theorem Pl_int {b : Int} : Pl k n (.int b) ↔ b.natAbs < 10 ^ k := by unfold Pl; exact Iff.rfl
@[simp] theorem Pl_tup {ds : List D} : Pl k (n + 1) (.tup ds) ↔ Pls k n ds := ⟨fun h => h.2, fun h => ⟨Nat.zero_lt_succ _, h⟩⟩
@[simp] theorem Pl_lst {ds : List D} : Pl k (n + 1) (.lst ds) ↔ Pls k n ds := ⟨fun h => h.2, fun h => ⟨Nat.zero_lt_succ _, h⟩⟩
@[simp] theorem Pl_fl {ds : List D} : Pl k (n + 1) (.fl ds) ↔ Pls k n ds := ⟨fun h => h.2, fun h => ⟨Nat.zero_lt_succ _, h⟩⟩
@[simp] theorem Pls_nil : Pls k n [] ↔ True := Iff.rfl
@[simp] theorem Pls_cons {d : D} {ds : List D} : Pls k n (d :: ds) ↔ Pl k n d ∧ Pls k n ds := Iff.rfl
theorem Pls_all {ds : List D} (h : ∀ d ∈ ds, Pl k n d) : Pls k n ds := by
  induction ds with
  | nil => trivial
  | cons d ds ih => exact ⟨h d List.mem_cons_self, ih fun e he => h e (List.mem_cons_of_mem _ he)⟩
theorem pds_map (ds : List D) : pds ds = ds.map pd := by
  induction ds with
  | nil => rfl
  | cons d ds ih => show pd d :: pds ds = _; rw [ih]; rfl
theorem szBs_le {ds : List D} {c : Nat} (h : ∀ d ∈ ds, szB k d ≤ c) : szBs k ds ≤ ds.length * (c + 2) := by
  induction ds with
  | nil => exact Nat.zero_le _
  | cons d ds ih =>
    have h1 := h d List.mem_cons_self
    have h2 := ih fun e he => h e (List.mem_cons_of_mem _ he)
    show szB k d + 2 + szBs k ds ≤ (ds.length + 1) * (c + 2)
    rw [Nat.add_mul, Nat.one_mul]
    omega
end
@[simp] theorem mx_le {n : Nat} (h : n ≤ 100000) : (n ≤ mxLen) = True := eq_true (Nat.le_trans h (by decide))
@[simp] theorem mx_lt {n : Nat} (h : n ≤ 100000) : (n < mxLen) = True := eq_true (Nat.lt_of_le_of_lt h (by decide))
end Fz

/-! Q21: the pot of laws k01 to k19, k90 to k99. -/
namespace Fz
open PySem
theorem exB_step {P : Pg} {s : S} {r : List S} {w w' : Wd} (h : exS P s w = .ok (.nx, w')) : exB P (s :: r) w = exB P r w' := by
  rw [exB_cons, h]
  rfl
theorem rngL_map : ∀ (n : Nat) (lo : Int), rngL lo n = (List.range n).map fun j : Nat => D.int (lo + j)
  | 0, _ => rfl
  | n + 1, lo => by
    rw [List.range_succ_eq_map, List.map_cons, List.map_map, rngL, rngL_map n (lo + 1)]
    congr 1
    · simp
    · refine List.map_congr_left fun j _ => ?_
      show D.int _ = D.int _
      congr 1
      push_cast
      omega
theorem rngL_map0 (n : Nat) : rngL 0 n = (List.range n).map fun j : Nat => D.int j := by
  rw [rngL_map]
  exact List.map_congr_left fun j _ => by rw [Int.zero_add]
theorem op_mulL {xs : List D} {j : Nat} {w : Wd} {md : Nat} (hj : j ≤ 1000000000) (h : xs.length * j ≤ mxLen) : opF .mul md (.lst xs) (.int j) w = newL md (List.replicate j xs).flatten w := by
  have hd : -(2 ^ 63) ≤ (j : Int) ∧ (j : Int) < 2 ^ 63 := by omega
  unfold opF
  simp only [isL_lst, hd, decide_true, Bool.and_self, if_true, seq_lst, R.of_some, R.bd_ok, Int.toNat_natCast, h, and_self]
/-- the pot's making; s0, s1: the law's own seeds -/
def potB (s0 s1 : Int) : List S := [
  .set (.tu [.nm 1, .nm 2]) (.tup (.cons (.co 0 (.nm 3) (.seq (.sl 0 (.v 0) .no (.so (.k (.int 63))))) .no (.op .add 0 (.op .mul 0 (.k (.int 2)) (.bi .abs 0 (.cons (.v 3) .nil))) (.bi .int 0 (.cons (.cm .lt (.v 3) (.k (.int 0))) .nil))) [3]) (.cons (.op .add 0 (.k (.int s0)) (.op .mul 0 (.k (.int s1)) (.bi .len 0 (.cons (.v 0) .nil)))) .nil))),
  .for (.nm 3) (.seq (.v 1)) [
    .set (.nm 2) (.op .mod 0 (.op .add 0 (.op .add 0 (.op .mul 0 (.v 2) (.k (.int 69069))) (.v 3)) (.k (.int 11))) (.k (.int 4294967291)))] [3] false,
  .ret (.lst 2 (.cons (.co 2 (.nm 3) (.seq (.v 1)) (.so (.cm .gt (.v 3) (.op .pow 0 (.k (.int 10)) (.k (.int 12))))) (.v 3) [3]) (.cons (.v 2) (.cons (.k (.int 0)) .nil))))]
def ofB : List S := [
  .ite (.cm .lt (.v 1) (.k (.int 2))) [
    .ret (.k (.int 0))] [],
  .ite (.cm .ne (.ix (.v 0) (.k (.int 0))) (.lst 0 .nil)) [
    .set (.nm 2) (.me .pop (.ix (.v 0) (.k (.int 0))) .nil),
    .ite (.cm .ge (.v 2) (.v 1)) [
      .ex (.me .append (.ix (.v 0) (.k (.int 0))) (.cons (.op .fdiv 0 (.v 2) (.v 1)) .nil))] [],
    .ret (.op .mod 0 (.v 2) (.v 1))] [],
  .put (.v 0) (.k (.int 2)) (.op .add 1 (.ix (.v 0) (.k (.int 2))) (.k (.int 1))),
  .set (.nm 3) (.op .mod 0 (.op .add 0 (.ix (.v 0) (.k (.int 1))) (.op .mul 0 (.ix (.v 0) (.k (.int 2))) (.k (.int 2654435761)))) (.k (.int 4294967279))),
  .set (.nm 3) (.op .mod 0 (.op .add 0 (.op .add 0 (.op .mul 0 (.v 3) (.v 3)) (.op .mul 0 (.ix (.v 0) (.k (.int 2))) (.k (.int 40503)))) (.k (.int 5))) (.k (.int 4294967231))),
  .set (.nm 3) (.op .mod 0 (.op .add 0 (.op .mul 0 (.v 3) (.v 3)) (.ix (.v 0) (.k (.int 1)))) (.k (.int 4294967291))),
  .ret (.op .mod 0 (.op .fdiv 0 (.v 3) (.k (.int 256))) (.v 1))]
def oneB (j : Nat) : List S := [
  .ret (.ix (.v 1) (.call j none (.cons (.v 0) (.cons (.bi .len 0 (.cons (.v 1) .nil)) .nil)) .nil))]
/-- the shared lists are a pot's -/
def Pot (g : List (List D)) : Prop := ∃ (cs : List Int) (a b : Int), g = [cs.map D.int, [.g 0, .int a, .int b]] ∧ cs.length ≤ 63
@[simp] theorem gOk_ints (cs : List Int) : (cs.map D.int).all gOk = true := by
  rw [List.all_eq_true]
  intro d hd
  obtain ⟨n, _, rfl⟩ := List.mem_map.mp hd
  rfl
theorem cut_to {α : Type} {xs : List α} {k : Nat} : cut xs none (some (k : Int)) = xs.take k := by
  unfold cut
  rw [HT.sIx_none, HT.sIx_nat, List.drop_zero, Nat.sub_zero]
  by_cases h : k ≤ xs.length
  · rw [Nat.min_eq_left h]
  · rw [Nat.min_eq_right (by omega), List.take_length, List.take_of_length_le (by omega)]
theorem cut_from {α : Type} {xs : List α} {k : Nat} : cut xs (some (k : Int)) none = xs.drop k := by
  unfold cut
  rw [HT.sIx_none, HT.sIx_nat]
  by_cases h : k ≤ xs.length
  · rw [Nat.min_eq_left h, List.take_of_length_le (by rw [List.length_drop]; omega)]
  · rw [Nat.min_eq_right (by omega), Nat.sub_self, List.take_zero, List.drop_eq_nil_of_le (by omega)]
theorem cut_mid {α : Type} {xs : List α} {j k : Nat} : cut xs (some (j : Int)) (some (k : Int)) = (xs.take k).drop j := by
  unfold cut
  rw [HT.sIx_nat, HT.sIx_nat, List.drop_take]
  by_cases h : j ≤ xs.length
  · rw [Nat.min_eq_left h]
    by_cases h2 : k ≤ xs.length
    · rw [Nat.min_eq_left h2]
    · rw [Nat.min_eq_right (by omega), List.take_of_length_le (by rw [List.length_drop]; omega), List.take_of_length_le (by rw [List.length_drop]; omega)]
  · rw [Nat.min_eq_right (a := j) (by omega), List.drop_eq_nil_of_le (Nat.le_refl _), List.drop_eq_nil_of_le (i := j) (by omega), List.take_nil, List.take_nil]
theorem fmod_lt {a b : Int} (h : 0 < b) : 0 ≤ a.fmod b ∧ a.fmod b < b := ⟨Int.fmod_nonneg_of_pos a h, Int.fmod_lt_of_pos a h⟩
theorem divOk_s {i j : Int} (h : 0 < j) (h2 : j < 1073741824) : divOk i j = true := by
  unfold divOk
  rw [decide_eq_true (show j ≠ 0 by omega), decide_eq_true (show j.natAbs < 1073741824 by omega)]
  rfl
theorem ne_nil_g {w : Wd} {k : Nat} {cs : List Int} (h : w.g[k]? = some (cs.map D.int)) (hc : cs.length ≤ 100) : cmF .ne (.g k) (.lst []) w = some (!cs.isEmpty) := by
  have h0 : w.py (.g k) = some (.list (cs.map PyData.int)) := by
    show pyR w (3 + 1) false k = _
    unfold pyR
    rw [if_neg (by decide), h]
    show (pyL _ _ (cs.map D.int)).map PyData.list = _
    rw [pyL_int]
    rfl
  have h1 : w.py (.lst []) = some (.list []) := rfl
  show ((w.py (.g k)).bind fun a => (w.py (.lst [])).bind fun b => if SeqAt.shaped a && SeqAt.shaped b then some (PyData.eqv a b) else none).map (fun b => !b) = _
  rw [h0, h1]
  have s1 : SeqAt.shaped (.list (cs.map PyData.int)) = true := by
    have l : ∀ cs : List Int, PyData.canLayAll0 (cs.map PyData.int) = true := by
      intro cs
      induction cs with
      | nil => rfl
      | cons c cs ih => show (true && PyData.canLayAll0 (cs.map PyData.int)) = true; rw [ih]; rfl
    have d : ∀ cs : List Int, PyData.depthAll (cs.map PyData.int) = 0 := by
      intro cs
      induction cs with
      | nil => rfl
      | cons c cs ih => show max 0 (PyData.depthAll (cs.map PyData.int)) = 0; rw [ih]; rfl
    show (PyData.canLayAll0 (cs.map PyData.int) && decide (PyData.depthAll (cs.map PyData.int) + 1 ≤ 64)) = true
    rw [l, d]; rfl
  show (if (SeqAt.shaped (.list (cs.map PyData.int)) && SeqAt.shaped (.list [])) = true then some (PyData.eqv (.list (cs.map PyData.int)) (.list [])) else none).map (fun b => !b) = _
  rw [s1]
  cases cs with
  | nil => rfl
  | cons n ns => rfl
section
variable {P : Pg}
def nx1 (a b : Int) : Int := (a + (b + 1) * 2654435761).fmod 4294967279
def nx2 (a b : Int) : Int := (nx1 a b * nx1 a b + (b + 1) * 40503 + 5).fmod 4294967231
def nx3 (a b : Int) : Int := (nx2 a b * nx2 a b + a).fmod 4294967291
theorem of_nil {a b m : Int} (h1 : ¬ m < 2) (h2 : m < 1073741824) : exD P 4 ofB [.g 1, .int m] [[], [.g 0, .int a, .int b]] = .ok (.int (((nx3 a b).fdiv 256).fmod m), [[], [.g 0, .int a, .int (b + 1)]]) := by
  have n0 : ∀ σ m, cmF .ne (.g 0) (.lst []) ⟨σ, m, [[], [.g 0, .int a, .int b]]⟩ = some false := fun σ m => ne_nil_g (cs := []) rfl (by decide)
  have m0 : ¬ m = 0 := by omega
  have e1 : mulOk (b + 1) 2654435761 = true := mulOk_r (by omega)
  have e2 : mulOk (b + 1) 40503 = true := mulOk_r (by omega)
  have e3 : mulOk (nx1 a b) (nx1 a b) = true := mulOk_r (by have := fmod_lt (a := a + (b + 1) * 2654435761) (b := 4294967279) (by decide); unfold nx1; omega)
  have e4 : mulOk (nx2 a b) (nx2 a b) = true := mulOk_r (by have := fmod_lt (a := nx1 a b * nx1 a b + (b + 1) * 40503 + 5) (b := 4294967231) (by decide); unfold nx2; omega)
  have e5 : divOk (nx3 a b) 256 = true := divOk_s (by decide) (by decide)
  have e6 : (a + (b + 1) * 2654435761).fmod 4294967279 = nx1 a b := rfl
  have e7 : (nx1 a b * nx1 a b + (b + 1) * 40503 + 5).fmod 4294967231 = nx2 a b := rfl
  have e8 : (nx2 a b * nx2 a b + a).fmod 4294967291 = nx3 a b := rfl
  simp [exD, ofB, h1, newL_0, n0, m0, e1, e2, e3, e4, e5, e6, e7, e8, gOk]
theorem of_cons {a b m c : Int} {cs : List Int} (h1 : ¬ m < 2) (h2 : m < 1073741824) (hc : cs.length < 63) : exD P 4 ofB [.g 1, .int m] [(cs ++ [c]).map D.int, [.g 0, .int a, .int b]] = .ok (.int (c.fmod m), [(if m ≤ c then cs ++ [c.fdiv m] else cs).map D.int, [.g 0, .int a, .int b]]) := by
  have n0 : ∀ σ m, cmF .ne (.g 0) (.lst []) ⟨σ, m, [cs.map D.int ++ [.int c], [.g 0, .int a, .int b]]⟩ = some true := fun σ m => by
    have := ne_nil_g (w := ⟨σ, m, [(cs ++ [c]).map D.int, [.g 0, .int a, .int b]]⟩) (k := 0) (cs := cs ++ [c]) rfl (by simp; omega)
    rw [show (!(cs ++ [c]).isEmpty) = true by cases cs <;> rfl] at this
    simpa using this
  have m0 : ¬ m = 0 := by omega
  have e5 : divOk c m = true := divOk_s (by omega) h2
  have l : cs.length < mxLen := Nat.lt_trans hc (by decide)
  have g0 : ∀ d ∈ cs.map D.int, gOk d = true := fun d hd => List.all_eq_true.mp (gOk_ints cs) d hd
  have g1 : ∀ c : Int, (cs.map D.int ++ [D.int c]).all gOk = true := fun c => by rw [List.all_append, gOk_ints]; rfl
  by_cases q : m ≤ c
  · simp [exD, ofB, h1, newL_0, n0, m0, e5, q, gOk, l]
  · simp [exD, ofB, h1, newL_0, n0, m0, e5, q, gOk, l]
theorem of_ok {g : List (List D)} (h : Pot g) {m : Int} (h1 : 1 ≤ m) (h2 : m < 1073741824) : ∃ r g', exD P 4 ofB [.g 1, .int m] g = .ok (.int r, g') ∧ Pot g' ∧ 0 ≤ r ∧ r < m := by
  obtain ⟨cs, a, b, rfl, hc⟩ := h
  by_cases hm : m < 2
  · refine ⟨0, _, ?_, ⟨cs, a, b, rfl, hc⟩, by omega, by omega⟩
    simp [exD, ofB, hm]
  · rcases List.eq_nil_or_concat cs with rfl | ⟨cs, c, rfl⟩
    · exact ⟨_, _, of_nil hm h2, ⟨[], a, b + 1, rfl, hc⟩, fmod_lt (by omega)⟩
    · rw [List.concat_eq_append, List.length_append, List.length_singleton] at hc
      rw [List.concat_eq_append]
      refine ⟨_, _, of_cons hm h2 (by omega), ⟨_, a, b, rfl, ?_⟩, fmod_lt (by omega)⟩
      split
      · rw [List.length_append, List.length_singleton]; omega
      · omega
theorem one_ok {j : Nat} {P2 : Pg} (hj : P.F j = exD P2 4 ofB) {g : List (List D)} (h : Pot g) {ds : List D} (h0 : 0 < ds.length) (h1 : ds.length < 1000000) (hr : okRets ds = true) :
    ∃ (i : Nat) (hi : i < ds.length) (g' : List (List D)), exD P 2 (oneB j) [.g 1, .lst ds] g = .ok (ds[i], g') ∧ Pot g' := by
  obtain ⟨r, g', e, hp, r0, r1⟩ := of_ok (P := P2) h (m := ds.length) (by omega) (by omega)
  obtain ⟨i, rfl⟩ : ∃ i : Nat, r = (i : Int) := ⟨r.toNat, by omega⟩
  have hi : i < ds.length := by omega
  refine ⟨i, hi, g', ?_, hp⟩
  have e2 : P.F j [.g 1, .int ds.length] g = .ok (.int i, g') := by rw [hj]; exact e
  have e3 : ds[i]? = some ds[i] := List.getElem?_eq_getElem hi
  have e4 : ∀ w, give w ds[i] = some ds[i] := fun w => rs_ok _ (okRets_mem hr _ (List.getElem_mem hi))
  simp only [exD, oneB]
  simp [e2, ixI_nat hi, rsL_ok ds hr, -give_eq, e4, e3]
end
section
variable {P : Pg} {s0 s1 : Int}
def potC (ns : List Int) : List Int := (ns.take 63).map fun n => 2 * (if n < 0 then -n else n) + if n < 0 then 1 else 0
def potM (s : Int) (cs : List Int) : Int := cs.foldl (fun a c => (a * 69069 + c + 11).fmod 4294967291) s
theorem pot_ok (h0 : -1000000 < s1 ∧ s1 < 1000000) {ns : List Int} (hn : ns.length ≤ 63) : ∃ g', exD P 4 (potB s0 s1) [.sc (ns.map D.int)] [] = .ok (.g 1, g') ∧ Pot g' := by
  have c63 : cut (ns.map D.int) none (some 63) = (ns.take 63).map D.int := by
    rw [show (some 63 : Option Int) = some ((63 : Nat) : Int) from rfl, cut_to, List.map_take]
  have len : (potC ns).length ≤ 63 := by unfold potC; rw [List.length_map, List.length_take]; omega
  -- the cells
  have L1 : ∀ (s : D), coL (asg (.nm 3)) (evC P .no) (evE P (.op .add 0 (.op .mul 0 (.k (.int 2)) (.bi .abs 0 (.cons (.v 3) .nil))) (.bi .int 0 (.cons (.cm .lt (.v 3) (.k (.int 0))) .nil)))) (fun _ => true) [3] [some s, none, none, none] ((ns.take 63).map D.int) ⟨[some s, none, none, none], [], []⟩ [] = .ok ((potC ns).map D.int, ⟨[some s, none, none, none], [], []⟩) := by
    intro s
    have e : mulOk 2 = fun _ => true := funext fun i => mulOk_l (by decide)
    rw [coL_map (fun d => match d with | .int n => .int (2 * (if n < 0 then -n else n) + if n < 0 then 1 else 0) | _ => .non) ((ns.take 63).map D.int) [] (Nat.le_trans (m := 63) (by simp; omega) (by decide)) (fun x hx r acc hacc => by
        obtain ⟨n, _, rfl⟩ := List.mem_map.mp hx
        simp [coL_cons, e, hacc])]
    unfold potC
    rw [List.map_map, List.map_map, List.nil_append]
    rfl
  -- the mixing
  have L2 : ∀ (s : D) (c : List D) (cs : List Int) (a : Int), forL (asg (.nm 3)) (exB P [.set (.nm 2) (.op .mod 0 (.op .add 0 (.op .add 0 (.op .mul 0 (.v 2) (.k (.int 69069))) (.v 3)) (.k (.int 11))) (.k (.int 4294967291)))]) (postF [3] false 0) (fun _ => true) (cs.map D.int) ⟨[some s, some (.lst c), some (.int a), none], [], []⟩ = .ok (.nx, ⟨[some s, some (.lst c), some (.int (potM a cs)), none], [], []⟩) := by
    intro s c cs
    induction cs with
    | nil => intro a; rfl
    | cons x cs ih =>
      intro a
      have e : mulOk a 69069 = true := mulOk_r (by decide)
      have := ih ((a * 69069 + x + 11).fmod 4294967291)
      simp [forL_cons, e]
      rw [this]
      rfl
  -- the great ones
  have L3 : ∀ (σ : List (Option D)) (cs : List Int), cs.length ≤ 63 → σ.length = 4 → coL (asg (.nm 3)) (evC P (.so (.cm .gt (.v 3) (.op .pow 0 (.k (.int 10)) (.k (.int 12)))))) (evE P (.v 3)) (fun _ => true) [3] σ (cs.map D.int) ⟨σ, [], []⟩ [] = .ok ((cs.filter fun c => 1000000000000 < c).map D.int, ⟨σ, [], []⟩) := by
    intro σ cs hc hl
    have e : powOk 10 12 = true := by decide
    match σ, hl with
    | [a, b, c, d], _ =>
      rw [coL_filter (fun d => match d with | .int n => decide (1000000000000 < n) | _ => false) id (cs.map D.int) [] (Nat.le_trans (m := 63) (by simp; omega) (by decide)) (fun x hx r acc hacc => by
        obtain ⟨n, _, rfl⟩ := List.mem_map.mp hx
        by_cases q : 1000000000000 < n <;> simp [coL_cons, e, hacc, q])]
      rw [List.nil_append, List.map_id, List.filter_map]
      rfl
  have m1 : mulOk s1 ns.length = true := mulOk_l (by omega)
  have hl : ∀ (p : Int → Bool), ((potC ns).filter p).length ≤ 63 := fun p => Nat.le_trans (List.length_filter_le _ _) len
  have q1 : ((ns.take 63).map D.int).length ≤ 100000 := by rw [List.length_map, List.length_take]; omega
  refine ⟨[((potC ns).filter fun c => decide (1000000000000 < c)).map D.int, [.g 0, .int (potM (s0 + s1 * ns.length) (potC ns)), .int 0]], ?_, ⟨_, _, _, rfl, hl (fun c => decide (1000000000000 < c))⟩⟩
  have l1 := L1 (.sc (ns.map D.int))
  have n1 : ∀ w, newL 0 (List.take 63 (ns.map D.int)) w = .ok (.lst (List.take 63 (ns.map D.int)), w) := fun w => newL_0 (le_mx (by rw [List.length_take]; omega))
  have n2 : ∀ w, newL 0 ((potC ns).map D.int) w = .ok (.lst ((potC ns).map D.int), w) := fun w => newL_0 (le_mx (by rw [List.length_map]; omega))
  have n3 : ∀ w, newL 2 (((potC ns).filter fun c => decide (1000000000000 < c)).map D.int) w = .ok (.g w.g.length, { w with g := w.g ++ [((potC ns).filter fun c => decide (1000000000000 < c)).map D.int] }) := fun w => newL_2 (le_mx (by rw [List.length_map]; exact Nat.le_trans (hl _) (by decide))) (gOk_ints _)
  have l3 := fun σ h => L3 σ (potC ns) len h
  simp only [List.map_take] at l1 c63
  have n4 : ∀ (w : Wd) a, newL 2 [.g 0, .int a, .int 0] w = .ok (.g w.g.length, { w with g := w.g ++ [[.g 0, .int a, .int 0]] }) := fun w a => newL_2 (le_mx (show 3 ≤ 100000 by decide)) rfl
  simp [exD, potB, c63, newT_ok', m1, n1, n2, n3, n4, l1, L2, l3]
end
end Fz

/-! Q22: while loops; the bag of laws k50 to k65, k81 to k89. -/
namespace Fz
open PySem
theorem whlL_dec {test : Wd → R (Bool × Wd)} {body : Wd → R (Fl × Wd)} {post : Wd → Option Wd} (I J : Wd → Prop) (μ : Wd → Nat)
    (h : ∀ w, I w → (∃ w', test w = .ok (false, w') ∧ J w') ∨ ∃ w1 w2 w3, test w = .ok (true, w1) ∧ body w1 = .ok (.nx, w2) ∧ post w2 = some w3 ∧ I w3 ∧ μ w3 < μ w) :
    ∀ (n : Nat) (w : Wd), μ w < n → I w → ∃ w', whlL test body post n w = .ok (.nx, w') ∧ J w'
  | 0, _, hn, _ => absurd hn (Nat.not_lt_zero _)
  | n + 1, w, hn, hi => by
    rcases h w hi with ⟨w', e, j⟩ | ⟨w1, w2, w3, e1, e2, e3, i3, d⟩
    · refine ⟨w', ?_, j⟩
      show (test w).bd _ = _
      rw [e]
      rfl
    · obtain ⟨w', e4, j⟩ := whlL_dec I J μ h n w3 (by omega) i3
      refine ⟨w', ?_, j⟩
      show (test w).bd _ = _
      rw [e1, R.bd_ok]
      show (body w1).bd _ = _
      rw [e2, R.bd_ok]
      show (R.of (post w2)).bd _ = _
      rw [e3]
      exact e4
theorem divOk_m {i j : Int} (h : 0 < j) (h2 : j < 1606938044258990275541962092341162602522202993782792835301376) : divOk i j = true := by
  unfold divOk
  have : Builtin.divisionGoesByPylong i j = false := PyProof.noPylong_of_log2 (by
    have hz : j.natAbs ≠ 0 := by omega
    have : j.natAbs.log2 < 200 := (Nat.log2_lt hz).mpr (by omega)
    omega)
  rw [decide_eq_true (show j ≠ 0 by omega), this]
  simp
def bagB_0 : List S := [
  .set (.nm 3) (.op .mod 0 (.bi .int 0 (.cons (.op .add 0 (.op .add 0 (.op .mul 0 (.v 3) (.k (.int 48271))) (.op .mod 0 (.bi .int 0 (.cons (.v 2) .nil)) (.k (.int 2147483629)))) (.k (.int 5))) .nil)) (.k (.int 2147483647)))]
def bagB : List S := [
  .set (.nm 1) (.co 0 (.nm 2) (.seq (.sl 0 (.v 0) .no (.so (.k (.int 63))))) .no (.bi .abs 0 (.cons (.v 2) .nil)) [2]),
  .set (.nm 3) (.op .add 0 (.k (.int 17539)) (.bi .len 0 (.cons (.v 1) .nil))),
  .for (.nm 2) (.seq (.v 1)) bagB_0 [2] false,
  .ret (.lst 2 (.cons (.rev 2 (.v 1)) (.cons (.k (.int 0)) (.cons (.v 3) .nil))))]
def drawB_0 : List S := [
  .set (.nm 2) (.me .pop (.ix (.v 0) (.k (.int 0))) .nil),
  .put (.v 0) (.k (.int 1)) (.ite (.cm .gt (.v 2) (.op .pow 0 (.k (.int 10)) (.k (.int 9)))) (.v 2) (.k (.int 0)))]
def drawB : List S := [
  .whl (.an (.cm .eq (.ix (.v 0) (.k (.int 1))) (.k (.int 0))) (.cm .ne (.ix (.v 0) (.k (.int 0))) (.lst 0 .nil))) drawB_0 [2] true,
  .ite (.cm .gt (.ix (.v 0) (.k (.int 1))) (.k (.int 0))) [
    .set (.nm 3) (.op .mod 0 (.bi .int 0 (.cons (.ix (.v 0) (.k (.int 1))) .nil)) (.v 1)),
    .put (.v 0) (.k (.int 1)) (.op .fdiv 1 (.ix (.v 0) (.k (.int 1))) (.v 1)),
    .ret (.v 3)] [],
  .put (.v 0) (.k (.int 2)) (.op .mod 1 (.bi .int 0 (.cons (.op .add 0 (.op .mul 0 (.ix (.v 0) (.k (.int 2))) (.k (.int 48271))) (.k (.int 13))) .nil)) (.k (.int 2147483647))),
  .ret (.op .mod 0 (.bi .int 0 (.cons (.op .fdiv 0 (.op .mod 0 (.bi .int 0 (.cons (.op .mul 0 (.ix (.v 0) (.k (.int 2))) (.ix (.v 0) (.k (.int 2)))) .nil)) (.k (.int 2147483629))) (.k (.int 7))) .nil)) (.v 1))]
/-- the shared lists are a bag's -/
def Bag (g : List (List D)) : Prop := ∃ (cs : List Int) (a b : Int), g = [cs.map D.int, [.g 0, .int a, .int b]] ∧ cs.length ≤ 63
section
variable {P : Pg}
theorem draw_ok {g : List (List D)} (h : Bag g) {m : Int} (h1 : 1 ≤ m) (h2 : m < 1606938044258990275541962092341162602522202993782792835301376) : ∃ r g', exD P 4 drawB [.g 1, .int m] g = .ok (.int r, g') ∧ Bag g' ∧ 0 ≤ r ∧ r < m := by
  obtain ⟨w, e, cs, a, b, rfl, hc⟩ := whlL_dec (test := evT P (.an (.cm .eq (.ix (.v 0) (.k (.int 1))) (.k (.int 0))) (.cm .ne (.ix (.v 0) (.k (.int 0))) (.lst 0 .nil)))) (body := exB P drawB_0) (post := postF [2] true 0)
    (fun w => ∃ (cs : List Int) (a b : Int), w = ⟨[some (.g 1), some (.int m), none, none], [], [cs.map D.int, [.g 0, .int a, .int b]]⟩ ∧ cs.length ≤ 63) (fun w => ∃ (cs : List Int) (a b : Int), w = ⟨[some (.g 1), some (.int m), none, none], [], [cs.map D.int, [.g 0, .int a, .int b]]⟩ ∧ cs.length ≤ 63)
    (fun w => (w.g[0]?.getD []).length) (by
      rintro w ⟨cs, a, b, rfl, hc⟩
      have n0 : ∀ σ m, cmF .ne (.g 0) (.lst []) ⟨σ, m, [cs.map D.int, [.g 0, .int a, .int b]]⟩ = some (!cs.isEmpty) := fun σ m => ne_nil_g rfl (by omega)
      by_cases ha : a = 0
      · subst ha
        rcases List.eq_nil_or_concat cs with rfl | ⟨cs, c, rfl⟩
        · left
          simp at n0
          refine ⟨_, ?_, [], 0, b, rfl, hc⟩
          simp [newL_0, n0]
        · right
          rw [List.concat_eq_append] at *
          rw [show (!(cs ++ [c]).isEmpty) = true by cases cs <;> rfl] at n0
          have hc' : cs.length ≤ 63 := by simp at hc; omega
          have g0 : ∀ d ∈ cs.map D.int, gOk d = true := fun d hd => List.all_eq_true.mp (gOk_ints cs) d hd
          have e : powOk 10 9 = true := by decide
          simp at n0
          by_cases q : 1000000000 < c
          · refine ⟨⟨[some (.g 1), some (.int m), none, none], [], [(cs ++ [c]).map D.int, [.g 0, .int 0, .int b]]⟩, ⟨[some (.g 1), some (.int m), some (.int c), none], [], [cs.map D.int, [.g 0, .int c, .int b]]⟩, _, ?_, ?_, ?_, ⟨cs, c, b, rfl, hc'⟩, by simp⟩
            · simp [newL_0, n0]
            · simp [drawB_0, e, q, gOk]
            · simp [gc_eq]
          · refine ⟨⟨[some (.g 1), some (.int m), none, none], [], [(cs ++ [c]).map D.int, [.g 0, .int 0, .int b]]⟩, ⟨[some (.g 1), some (.int m), some (.int c), none], [], [cs.map D.int, [.g 0, .int 0, .int b]]⟩, _, ?_, ?_, ?_, ⟨cs, 0, b, rfl, hc'⟩, by simp⟩
            · simp [newL_0, n0]
            · simp [drawB_0, e, q, gOk]
            · simp [gc_eq]
      · left
        exact ⟨_, by simp [ha], cs, a, b, rfl, hc⟩)
    fuel ⟨[some (.g 1), some (.int m), none, none], [], g⟩ (by
      obtain ⟨cs, a, b, rfl, hc⟩ := h
      show (cs.map D.int).length < 1000000000000
      rw [List.length_map]; omega) (by
      obtain ⟨cs, a, b, rfl, hc⟩ := h
      exact ⟨cs, a, b, rfl, hc⟩)
  have m0 : m ≠ 0 := by omega
  by_cases q : 0 < a
  · have d : divOk a m = true := divOk_m (by omega) h2
    refine ⟨a.fmod m, _, ?_, ⟨cs, a.fdiv m, b, rfl, hc⟩, fmod_lt (by omega)⟩
    have g0 : ∀ d ∈ cs.map D.int, gOk d = true := fun d hd => List.all_eq_true.mp (gOk_ints cs) d hd
    simp [exD, drawB, e, q, m0, d, gOk]
  · have d : ∀ x, divOk x 7 = true := fun x => divOk_s (by decide) (by decide)
    have e1 : mulOk b 48271 = true := mulOk_r (by decide)
    have e2 := fmod_lt (a := b * 48271 + 13) (b := 2147483647) (by decide)
    have e3 : mulOk ((b * 48271 + 13).fmod 2147483647) ((b * 48271 + 13).fmod 2147483647) = true := mulOk_r (by omega)
    refine ⟨_, _, ?_, ⟨cs, a, (b * 48271 + 13).fmod 2147483647, rfl, hc⟩, fmod_lt (a := (((b * 48271 + 13).fmod 2147483647 * (b * 48271 + 13).fmod 2147483647).fmod 2147483629).fdiv 7) (by omega)⟩
    simp [exD, drawB, e, q, m0, d, e1, e3, gOk]
theorem pick_ok {j : Nat} {P2 : Pg} (hj : P.F j = exD P2 4 drawB) {g : List (List D)} (h : Bag g) {ds : List D} (h0 : 0 < ds.length) (h1 : ds.length < 1000000) (hr : okRets ds = true) :
    ∃ (i : Nat) (hi : i < ds.length) (g' : List (List D)), exD P 2 (oneB j) [.g 1, .lst ds] g = .ok (ds[i], g') ∧ Bag g' := by
  obtain ⟨r, g', e, hp, r0, r1⟩ := draw_ok (P := P2) h (m := ds.length) (by omega) (by omega)
  obtain ⟨i, rfl⟩ : ∃ i : Nat, r = (i : Int) := ⟨r.toNat, by omega⟩
  have hi : i < ds.length := by omega
  refine ⟨i, hi, g', ?_, hp⟩
  have e2 : P.F j [.g 1, .int ds.length] g = .ok (.int i, g') := by rw [hj]; exact e
  have e3 : ds[i]? = some ds[i] := List.getElem?_eq_getElem hi
  have e4 : ∀ w, give w ds[i] = some ds[i] := fun w => rs_ok _ (okRets_mem hr _ (List.getElem_mem hi))
  simp only [exD, oneB]
  simp [e2, ixI_nat hi, rsL_ok ds hr, -give_eq, e4, e3]
def bagC (ns : List Int) : List Int := (ns.take 63).map fun n => if n < 0 then -n else n
def bagM (s : Int) (cs : List Int) : Int := cs.foldl (fun a c => (a * 48271 + c.fmod 2147483629 + 5).fmod 2147483647) s
theorem bag_ok {ns : List Int} (hn : ns.length ≤ 63) : ∃ g', exD P 4 bagB [.sc (ns.map D.int)] [] = .ok (.g 1, g') ∧ Bag g' := by
  have c63 : cut (ns.map D.int) none (some 63) = (ns.take 63).map D.int := by
    rw [show (some 63 : Option Int) = some ((63 : Nat) : Int) from rfl, cut_to, List.map_take]
  have len : (bagC ns).length ≤ 63 := by unfold bagC; rw [List.length_map, List.length_take]; omega
  have L1 : ∀ (s : D), coL (asg (.nm 2)) (evC P .no) (evE P (.bi .abs 0 (.cons (.v 2) .nil))) (fun _ => true) [2] [some s, none, none, none] ((ns.take 63).map D.int) ⟨[some s, none, none, none], [], []⟩ [] = .ok ((bagC ns).map D.int, ⟨[some s, none, none, none], [], []⟩) := by
    intro s
    rw [coL_map (fun d => match d with | .int n => .int (if n < 0 then -n else n) | _ => .non) ((ns.take 63).map D.int) [] (Nat.le_trans (m := 63) (by simp; omega) (by decide)) (fun x hx r acc hacc => by
        obtain ⟨n, _, rfl⟩ := List.mem_map.mp hx
        simp [coL_cons, hacc])]
    unfold bagC
    rw [List.map_map, List.map_map, List.nil_append]
    rfl
  have L2 : ∀ (s : D) (c : List D) (cs : List Int) (a : Int), forL (asg (.nm 2)) (exB P bagB_0) (postF [2] false 0) (fun _ => true) (cs.map D.int) ⟨[some s, some (.lst c), none, some (.int a)], [], []⟩ = .ok (.nx, ⟨[some s, some (.lst c), none, some (.int (bagM a cs))], [], []⟩) := by
    intro s c cs
    induction cs with
    | nil => intro a; rfl
    | cons x cs ih =>
      intro a
      have e : mulOk a 48271 = true := mulOk_r (by decide)
      have := ih ((a * 48271 + x.fmod 2147483629 + 5).fmod 2147483647)
      simp [forL_cons, bagB_0, e]
      unfold bagB_0 at this
      rw [this]
      rfl
  refine ⟨[(bagC ns).reverse.map D.int, [.g 0, .int 0, .int (bagM (17539 + (bagC ns).length) (bagC ns))]], ?_, ⟨_, _, _, rfl, by rw [List.length_reverse]; exact len⟩⟩
  have l1 := L1 (.sc (ns.map D.int))
  have n1 : ∀ w, newL 0 (List.take 63 (ns.map D.int)) w = .ok (.lst (List.take 63 (ns.map D.int)), w) := fun w => newL_0 (le_mx (by rw [List.length_take]; omega))
  have n2 : ∀ w, newL 0 ((bagC ns).map D.int) w = .ok (.lst ((bagC ns).map D.int), w) := fun w => newL_0 (le_mx (by rw [List.length_map]; omega))
  have n3 : ∀ w, newL 2 ((bagC ns).reverse.map D.int) w = .ok (.g w.g.length, { w with g := w.g ++ [(bagC ns).reverse.map D.int] }) := fun w => newL_2 (le_mx (by rw [List.length_map, List.length_reverse]; omega)) (gOk_ints _)
  simp only [List.map_take] at l1 c63
  have n4 : ∀ (w : Wd) a, newL 2 [.g 0, .int 0, .int a] w = .ok (.g w.g.length, { w with g := w.g ++ [[.g 0, .int 0, .int a]] }) := fun w a => newL_2 (le_mx (show 3 ≤ 100000 by decide)) rfl
  simp only [List.map_reverse] at n3 ⊢
  simp [exD, bagB, c63, n1, n2, n3, n4, l1, L2]
end
end Fz

/-! Q23: rows told by a function; sizes in bits. -/
namespace Fz
open PySem
/-- the row of f 0 to f (m - 1) -/
def rl (m : Nat) (f : Nat → Int) : List D := (List.range m).map fun j => D.int (f j)
section
variable {m : Nat} {f g : Nat → Int}
@[simp] theorem rl_len : (rl m f).length = m := by simp [rl]
@[simp] theorem rl_at {i : Nat} {h : i < (rl m f).length} : (rl m f)[i] = .int (f i) := by simp [rl]
theorem rl_get {i : Nat} (h : i < m) : (rl m f)[i]? = some (.int (f i)) := by
  rw [List.getElem?_eq_getElem (by rw [rl_len]; exact h)]
  simp
theorem rl_congr (h : ∀ i, i < m → f i = g i) : rl m f = rl m g := by
  unfold rl
  exact List.map_congr_left fun j hj => by rw [h j (List.mem_range.mp hj)]
theorem rl_succ : rl (m + 1) f = rl m f ++ [.int (f m)] := by
  unfold rl
  rw [List.range_succ, List.map_append]
  rfl
theorem rl_set {i : Nat} {v : Int} : (rl m f).set i (.int v) = rl m fun j => if j = i then v else f j := by
  refine List.ext_getElem? fun j => ?_
  by_cases hj : j < m
  · rw [rl_get hj, List.getElem?_set]
    by_cases e : i = j
    · subst e
      rw [if_pos rfl, if_pos (by rw [rl_len]; exact hj), if_pos rfl]
    · rw [if_neg e, rl_get hj, if_neg (fun z => e z.symm)]
  · rw [List.getElem?_eq_none (by rw [List.length_set, rl_len]; omega), List.getElem?_eq_none (by rw [rl_len]; omega)]
theorem rl_take {k : Nat} (h : k ≤ m) : (rl m f).take k = rl k f := by
  unfold rl
  rw [← List.map_take, List.take_range, Nat.min_eq_left h]
theorem rl_ok : okRets (rl m f) = true := okRets_all fun d hd => by
  obtain ⟨j, _, rfl⟩ := List.mem_map.mp hd
  rfl
@[simp] theorem rl_lend {ρ : Nat → Option D} {φ : Bool} : rsL ρ φ (rl m f) = some (rl m f) := rsL_ok _ rl_ok
theorem rl_rep {v : Int} : (List.replicate m [D.int v]).flatten = rl m fun _ => v := by
  induction m with
  | zero => rfl
  | succ m ih =>
    rw [List.replicate_succ', List.flatten_append, ih, rl_succ]
    rfl
theorem rl_pl {k n : Nat} (h : ∀ i, i < m → (f i).natAbs < 10 ^ k) : Pls k n (rl m f) := Pls_all fun d hd => by
  obtain ⟨j, hj, rfl⟩ := List.mem_map.mp hd
  exact Pl_int.mpr (h j (List.mem_range.mp hj))
theorem rl_sz {k : Nat} : szBs k (rl m f) ≤ m * (k + 3) := by
  have := szBs_le (k := k) (ds := rl m f) (c := k + 1) fun d hd => by
    obtain ⟨j, _, rfl⟩ := List.mem_map.mp hd
    exact Nat.le_refl _
  rw [rl_len] at this
  exact this
theorem rl_ints : rl m f = ((List.range m).map f).map D.int := by
  unfold rl
  rw [List.map_map]
  rfl
end
/-! ### sizes -/
def Sz (b : Nat) (v : Int) : Prop := v.natAbs < 2 ^ b
theorem Sz.mul {a b : Nat} {u v : Int} (h1 : Sz a u) (h2 : Sz b v) : Sz (a + b) (u * v) := by
  unfold Sz at *
  rw [Int.natAbs_mul, Nat.pow_add]
  rcases Nat.eq_zero_or_pos v.natAbs with e | e
  · rw [e, Nat.mul_zero]
    exact Nat.mul_pos (Nat.pow_pos (by decide)) (Nat.pow_pos (by decide))
  · exact Nat.mul_lt_mul_of_lt_of_le h1 (Nat.le_of_lt h2) (Nat.pow_pos (by decide))
theorem Sz.mono {a b : Nat} {u : Int} (h1 : Sz a u) (h : a ≤ b) : Sz b u := Nat.lt_of_lt_of_le h1 (Nat.pow_le_pow_right (by decide) h)
theorem Sz.le {b : Nat} {u v : Int} (h : Sz b v) (h0 : 0 ≤ u) (h1 : u ≤ v) : Sz b u := by
  unfold Sz at *
  omega
theorem Sz.neg {b : Nat} {u : Int} (h : Sz b u) : Sz b (-u) := by
  unfold Sz at *
  rw [Int.natAbs_neg]
  exact h
theorem Sz.add {b c : Nat} {u v : Int} (h : Sz b u) (h2 : Sz c v) : Sz (max b c + 1) (u + v) := by
  have a1 := h.mono (Nat.le_max_left b c)
  have a2 := h2.mono (Nat.le_max_right b c)
  unfold Sz at *
  rw [Nat.pow_succ]
  omega
theorem Sz.sub {b c : Nat} {u v : Int} (h : Sz b u) (h2 : Sz c v) : Sz (max b c + 1) (u - v) := h.add h2.neg
theorem Sz.one : Sz 1 1 := by unfold Sz; decide
theorem Sz.zero {b : Nat} : Sz b 0 := by unfold Sz; exact Nat.pow_pos (by decide)
theorem Sz.pow {b : Nat} {v : Int} (h : Sz b v) : ∀ n : Nat, Sz (b * n + 1) (v ^ n)
  | 0 => by rw [Int.pow_zero]; exact Sz.one.mono (by omega)
  | n + 1 => by
    rw [Int.pow_succ]
    exact ((h.pow n).mul h).mono (by rw [Nat.mul_succ]; omega)
theorem Sz.mulOk {a b : Nat} {u v : Int} (h1 : Sz a u) (h2 : Sz b v) (ha : a ≤ 400000) (hb : b ≤ 400000) : mulOk u v = true := mulOk_b h1 h2 ha hb
theorem Sz.fdiv {a : Nat} {u v : Int} (h : Sz a u) (h0 : 0 ≤ u) (hv : 0 < v) : Sz a (u.fdiv v) := by
  refine h.le (Int.fdiv_nonneg h0 (by omega)) ?_
  rw [Int.fdiv_eq_ediv_of_nonneg _ (by omega)]
  exact Int.ediv_le_self _ h0
/-! ### powers -/
theorem pw_pos' {q : Int} (hq : 1 ≤ q) (n : Nat) : 1 ≤ q ^ n := by
  induction n with
  | zero => simp
  | succ n ih =>
    rw [Int.pow_succ]
    have := Int.mul_le_mul ih hq (by decide) (by omega)
    omega
theorem pw_le' {q : Int} (hq : 1 ≤ q) {i n : Nat} (h : i ≤ n) : q ^ i ≤ q ^ n := by
  obtain ⟨d, rfl⟩ : ∃ d, n = i + d := ⟨n - i, by omega⟩
  rw [Int.pow_add]
  have h1 := pw_pos' hq i
  have h2 := pw_pos' hq d
  have := Int.mul_le_mul_of_nonneg_left h2 (show 0 ≤ q ^ i by omega)
  omega
end Fz
namespace Fz
open PySem
theorem fmod_nat (a b : Nat) : Int.fmod (a : Int) (b : Int) = ((a % b : Nat) : Int) := by
  rw [Int.fmod_eq_emod_of_nonneg _ (by omega)]
  exact (Int.natCast_emod a b).symm
theorem fdiv_nat (a b : Nat) : Int.fdiv (a : Int) (b : Int) = ((a / b : Nat) : Int) := by
  rw [Int.fdiv_eq_ediv_of_nonneg _ (by omega)]
  exact (Int.natCast_ediv a b).symm
theorem divOk_log {i j : Int} (h : 0 < j) (h2 : Sz 9000 j) : divOk i j = true := by
  unfold divOk
  have : Builtin.divisionGoesByPylong i j = false := PyProof.noPylong_of_log2 ((Nat.log2_lt (by omega)).mpr h2)
  rw [decide_eq_true (show j ≠ 0 by omega), this]
  simp
theorem divOk_q {g w : Int} (hg : Sz 4000 g) (hw : 1 ≤ w) : divOk (g * w) w = true := by
  have h0 : w ≠ 0 := by omega
  have : Builtin.divisionGoesByPylong (g * w) w = false := by
    unfold Builtin.divisionGoesByPylong
    by_cases z : g * w = 0
    · simp [z]
    · have e : (g * w).natAbs.log2 ≤ w.natAbs.log2 + 4001 := by
        have l1 : w.natAbs < 2 ^ (w.natAbs.log2 + 1) := Nat.lt_log2_self
        have l2 : (g * w).natAbs < 2 ^ (w.natAbs.log2 + 4001) := by
          rw [Int.natAbs_mul, show w.natAbs.log2 + 4001 = 4000 + (w.natAbs.log2 + 1) by omega, Nat.pow_add]
          have p : 0 < (2 : Nat) ^ 4000 := Nat.pow_pos (by decide)
          exact Nat.lt_of_le_of_lt (Nat.mul_le_mul_right _ (Nat.le_of_lt hg)) (Nat.mul_lt_mul_of_pos_left l1 p)
        have := (Nat.log2_lt (show (g * w).natAbs ≠ 0 by omega)).mpr l2
        omega
      simp [h0, z]
      intro _
      have d1 := Nat.div_add_mod ((g * w).natAbs.log2) 30
      have d2 := Nat.div_add_mod (w.natAbs.log2) 30
      omega
  unfold divOk
  rw [this, decide_eq_true h0]
  simp
end Fz

/-! Q24: how many spaces there are: products and quotients. -/
namespace Fz
open PySem
def fl (q : Int) (n : Nat) : Nat → Int
  | 0 => 1
  | k + 1 => fl q n k * (q ^ n - q ^ k)
def G (q : Int) : Nat → Nat → Int
  | _, 0 => 1
  | 0, _ + 1 => 0
  | n + 1, k + 1 => G q n k + q ^ (k + 1) * G q n (k + 1)
section
variable {q : Int}
theorem fl_front (n : Nat) : ∀ k, fl q (n + 1) (k + 1) = (q ^ (n + 1) - 1) * q ^ k * fl q n k
  | 0 => by simp [fl]
  | k + 1 => by
    have ih := fl_front n k
    rw [fl, ih, fl]
    rw [Int.pow_succ q n, Int.pow_succ q k]
    grind
theorem fl_big : ∀ {n k : Nat}, n < k → fl q n k = 0
  | n, k + 1, h => by
    by_cases e : n = k
    · subst e; simp [fl]
    · rw [fl, fl_big (show n < k by omega)]; simp
theorem fl_G : ∀ n k, fl q n k = G q n k * fl q k k
  | n, 0 => by cases n <;> simp [fl, G]
  | 0, k + 1 => by rw [fl_big (Nat.zero_lt_succ _)]; simp [G]
  | n + 1, k + 1 => by
    have h1 := fl_G n k
    have h2 := fl_G n (k + 1)
    have h3 := fl_front (q := q) k k
    have h4 := fl_front (q := q) n k
    have h5 : fl q n (k + 1) = fl q n k * (q ^ n - q ^ k) := rfl
    rw [G]
    rw [Int.pow_succ q k, Int.pow_succ q n] at *
    grind
theorem fl_more (n k : Nat) (h : k ≤ n) : ∀ m, fl q n (k + m) = fl q n k * q ^ (k * m) * fl q (n - k) m
  | 0 => by simp [fl]
  | m + 1 => by
    have ih := fl_more n k h m
    show fl q n (k + m) * (q ^ n - q ^ (k + m)) = _
    rw [ih, fl, Nat.mul_succ, Int.pow_add, Int.pow_add, show q ^ n = q ^ k * q ^ (n - k) by rw [← Int.pow_add]; congr 1; omega]
    grind
variable (hq : 2 ≤ q)
include hq
theorem pw_pos (n : Nat) : 1 ≤ q ^ n := by
  induction n with
  | zero => simp
  | succ n ih =>
    rw [Int.pow_succ]
    have := Int.mul_le_mul ih (show 1 ≤ q by omega) (by decide) (by omega)
    omega
theorem pw_lt {i n : Nat} (h : i < n) : q ^ i < q ^ n := by
  obtain ⟨d, rfl⟩ : ∃ d, n = i + (d + 1) := ⟨n - i - 1, by omega⟩
  rw [Int.pow_add]
  have h1 := pw_pos hq i
  have h2 := pw_pos hq d
  have h3 : 2 ≤ q ^ (d + 1) := by
    rw [Int.pow_succ]
    have := Int.mul_le_mul h2 hq (by decide) (by omega)
    omega
  have := Int.mul_le_mul_of_nonneg_left h3 (show 0 ≤ q ^ i by omega)
  omega
theorem fl_pos {n : Nat} : ∀ {k}, k ≤ n → 1 ≤ fl q n k
  | 0, _ => by simp [fl]
  | k + 1, h => by
    have h1 := fl_pos (n := n) (k := k) (by omega)
    have h2 := pw_lt hq (show k < n by omega)
    rw [fl]
    have := Int.mul_le_mul h1 (show 1 ≤ q ^ n - q ^ k by omega) (by decide) (by omega)
    omega
theorem G_pos : ∀ n k, 0 ≤ G q n k
  | _, 0 => by simp [G]
  | 0, _ + 1 => by simp [G]
  | n + 1, k + 1 => by
    rw [G]
    have h1 := G_pos n k
    have h2 := G_pos n (k + 1)
    have h3 := pw_pos hq (k + 1)
    have := Int.mul_nonneg (show 0 ≤ q ^ (k + 1) by omega) h2
    omega
theorem quo {n k : Nat} : (fl q n k).fdiv (fl q k k) = G q n k := by
  rw [fl_G n k]
  have := fl_pos hq (Nat.le_refl k)
  exact Int.mul_fdiv_cancel _ (by omega)
theorem sym {n k : Nat} (h : k ≤ n) : G q n (n - k) = G q n k := by
  have key : ∀ {k : Nat}, k ≤ n → fl q n n = G q n k * (fl q k k * q ^ (k * (n - k)) * fl q (n - k) (n - k)) := by
    intro k h
    have := fl_more (q := q) n k h (n - k)
    rw [show k + (n - k) = n by omega] at this
    rw [this, fl_G n k]
    grind
  have h1 := key h
  have h2 := key (k := n - k) (by omega)
  rw [show n - (n - k) = k by omega, Nat.mul_comm (n - k) k] at h2
  have p1 := fl_pos hq (Nat.le_refl k)
  have p2 := fl_pos hq (Nat.le_refl (n - k))
  have p3 := pw_pos hq (k * (n - k))
  have p4 : fl q k k * q ^ (k * (n - k)) * fl q (n - k) (n - k) ≠ 0 := by
    have := Int.mul_pos (Int.mul_pos (show 0 < fl q k k by omega) (show 0 < q ^ (k * (n - k)) by omega)) (show 0 < fl q (n - k) (n - k) by omega)
    omega
  refine Int.eq_of_mul_eq_mul_right p4 ?_
  rw [← h1, h2]
  grind
theorem G_big : ∀ {n k : Nat}, n < k → G q n k = 0
  | 0, k + 1, _ => by simp [G]
  | n + 1, k + 1, h => by rw [G, G_big (show n < k by omega), G_big (show n < k + 1 by omega)]; simp
theorem pw_le {i n : Nat} (h : i ≤ n) : q ^ i ≤ q ^ n := by
  rcases Nat.lt_or_eq_of_le h with h | rfl
  · exact Int.le_of_lt (pw_lt hq h)
  · exact Int.le_refl _
theorem G_le : ∀ {n k : Nat}, k ≤ n → G q n k ≤ 2 ^ n * q ^ (k * (n - k))
  | n, 0, _ => by
    have : (1 : Int) ≤ 2 ^ n := pw_pos (q := 2) (by decide) n
    cases n <;> simp [G] <;> omega
  | n + 1, k + 1, h => by
    have h1 := G_le (n := n) (k := k) (by omega)
    have e1 : k * (n - k) ≤ (k + 1) * (n - k) := Nat.mul_le_mul_right _ (by omega)
    have e2 := pw_le hq e1
    have p2 : (1 : Int) ≤ 2 ^ n := pw_pos (q := 2) (by decide) n
    have e3 := Int.mul_le_mul_of_nonneg_left e2 (show (0 : Int) ≤ 2 ^ n by omega)
    rw [G, show n + 1 - (k + 1) = n - k by omega, Int.pow_succ 2 n]
    by_cases hk : k < n
    · have h2 := G_le (n := n) (k := k + 1) (by omega)
      have p := pw_pos hq (k + 1)
      have h3 := Int.mul_le_mul_of_nonneg_left h2 (show 0 ≤ q ^ (k + 1) by omega)
      have e4 : q ^ (k + 1) * (2 ^ n * q ^ ((k + 1) * (n - (k + 1)))) = 2 ^ n * q ^ ((k + 1) * (n - k)) := by
        rw [show (k + 1) * (n - k) = (k + 1) + (k + 1) * (n - (k + 1)) by rw [show n - k = (n - (k + 1)) + 1 by omega, Nat.mul_succ]; omega, Int.pow_add]
        grind
      rw [e4] at h3
      generalize q ^ (k + 1) * G q n (k + 1) = z at *
      grind
    · rw [G_big hq (show n < k + 1 by omega)]
      have p3 := pw_pos hq ((k + 1) * (n - k))
      have := Int.mul_nonneg (show (0 : Int) ≤ 2 ^ n by omega) (show 0 ≤ q ^ ((k + 1) * (n - k)) by omega)
      grind
end
end Fz

/-! Q25: tuples of ints: in, sorted; what is among what. -/
namespace Fz
open PySem
theorem eqv_ints : ∀ a b : List Int, PyData.eqvAll (pds (a.map D.int)) (pds (b.map D.int)) = decide (a = b)
  | [], [] => by simp [pds, PyData.eqvAll]
  | [], _ :: _ => by simp [pds, PyData.eqvAll]
  | _ :: _, [] => by simp [pds, PyData.eqvAll]
  | x :: a, y :: b => by
    have ih := eqv_ints a b
    show (PyData.eqv (.int x) (.int y) && PyData.eqvAll (pds (a.map D.int)) (pds (b.map D.int))) = _
    rw [ih, PyData.eqv]
    by_cases h : x = y <;> simp [h]
theorem eqv_tupI (a b : List Int) : PyData.eqv (pd (tupI a)) (pd (tupI b)) = decide (a = b) := by
  show PyData.eqv (.tuple (pds (a.map D.int))) (.tuple (pds (b.map D.int))) = _
  rw [PyData.eqv, eqv_ints]
/-! ### comprehensions and loops over lists of anything -/
theorem coL_fil {α : Type} {bind : D → Wd → Option Wd} {test : Wd → R (Bool × Wd)} {elt : Wd → R (D × Wd)} {ok : Wd → Bool} {own : List Nat} {σ : List (Option D)} {m g : List (List D)} (dd ee : α → D) (pr : α → Bool) : ∀ (l : List α) (acc : List D), acc.length + l.length ≤ mxLen →
    (∀ x ∈ l, ∀ r acc, acc.length < mxLen → coL bind test elt ok own σ (dd x :: r) ⟨σ, m, g⟩ acc = coL bind test elt ok own σ r ⟨σ, m, g⟩ (if pr x then acc ++ [ee x] else acc)) →
    coL bind test elt ok own σ (l.map dd) ⟨σ, m, g⟩ acc = .ok (acc ++ (l.filter pr).map ee, ⟨σ, m, g⟩)
  | [], acc, _, _ => by simp
  | x :: l, acc, hl, hx => by
    rw [List.length_cons] at hl
    rw [List.map_cons, hx x List.mem_cons_self _ _ (by omega), coL_fil dd ee pr l _ (by
      split
      · rw [List.length_append, List.length_singleton]; omega
      · omega) (fun y hy => hx y (List.mem_cons_of_mem _ hy))]
    by_cases h : pr x = true
    · simp [h]
    · simp [h]
theorem coL_mp {α : Type} {bind : D → Wd → Option Wd} {test : Wd → R (Bool × Wd)} {elt : Wd → R (D × Wd)} {ok : Wd → Bool} {own : List Nat} {σ : List (Option D)} {m g : List (List D)} (dd ee : α → D) (l : List α) (acc : List D) (hl : acc.length + l.length ≤ mxLen)
    (hx : ∀ x ∈ l, ∀ r acc, acc.length < mxLen → coL bind test elt ok own σ (dd x :: r) ⟨σ, m, g⟩ acc = coL bind test elt ok own σ r ⟨σ, m, g⟩ (acc ++ [ee x])) :
    coL bind test elt ok own σ (l.map dd) ⟨σ, m, g⟩ acc = .ok (acc ++ l.map ee, ⟨σ, m, g⟩) := by
  have := coL_fil dd ee (fun _ => true) l acc hl (fun x h r acc ha => by rw [hx x h r acc ha]; simp)
  rw [this, List.filter_eq_self.mpr (fun _ _ => rfl)]
/-- items that draw -/
theorem coL_inv {bind : D → Wd → Option Wd} {test : Wd → R (Bool × Wd)} {elt : Wd → R (D × Wd)} {ok : Wd → Bool} {own : List Nat} {σ : List (Option D)} {m : List (List D)} (I : List D → List (List D) → Prop) :
    ∀ (xs acc : List D) (g : List (List D)), (∀ x ∈ xs, ∀ r acc g, I acc g → acc.length < mxLen → ∃ y g', I (acc ++ [y]) g' ∧ coL bind test elt ok own σ (x :: r) ⟨σ, m, g⟩ acc = coL bind test elt ok own σ r ⟨σ, m, g'⟩ (acc ++ [y])) → acc.length + xs.length ≤ mxLen → I acc g →
    ∃ ys g', ys.length = acc.length + xs.length ∧ I ys g' ∧ coL bind test elt ok own σ xs ⟨σ, m, g⟩ acc = .ok (ys, ⟨σ, m, g'⟩)
  | [], acc, g, _, _, h => ⟨acc, g, rfl, h, rfl⟩
  | x :: xs, acc, g, hx, hl, h => by
    rw [List.length_cons] at hl
    obtain ⟨y, g1, h1, e1⟩ := hx x List.mem_cons_self xs acc g h (by omega)
    obtain ⟨ys, g2, l2, h2, e2⟩ := coL_inv I xs (acc ++ [y]) g1 (fun x hx' => hx x (List.mem_cons_of_mem _ hx')) (by rw [List.length_append, List.length_singleton]; omega) h1
    exact ⟨ys, g2, by rw [l2, List.length_append, List.length_singleton, List.length_cons]; omega, h2, e1.trans e2⟩
/-- a loop that ends at the first of a kind -/
theorem forL_find {α : Type} {bind : D → Wd → Option Wd} {body : Wd → R (Fl × Wd)} {post : Wd → Option Wd} {ok : Wd → Bool} (dd vv : α → D) (pr : α → Bool) (st : Wd) (st' : α → Wd) : ∀ l : List α, (∀ x ∈ l, ∀ r, forL bind body post ok (dd x :: r) st = if pr x then .ok (.rt (vv x), st' x) else forL bind body post ok r st) →
    forL bind body post ok (l.map dd) st = match l.find? pr with
      | some x => .ok (.rt (vv x), st' x)
      | none => .ok (.nx, st)
  | [], _ => rfl
  | x :: l, h => by
    rw [List.map_cons, h x List.mem_cons_self]
    by_cases hp : pr x = true
    · rw [if_pos hp, List.find?_cons_of_pos hp]
    · rw [if_neg hp, List.find?_cons_of_neg hp]
      exact forL_find dd vv pr st st' l fun y hy => h y (List.mem_cons_of_mem _ hy)
/-- x among some, by their values -/
theorem in_tup {k n : Nat} {d : D} {ds : List D} {w : Wd} (hf : isFlat d = false) (h : Pl k n d) (h2 : Pl k n (.tup ds)) (hn : n ≤ 64) : cmF .isin d (.tup ds) w = some ((pds ds).any fun z => PyData.eqv z (pd d)) := by
  have s1 : SeqAt.shaped (pd d) = true := by
    obtain ⟨a, b, c⟩ := pd_fit d n h
    show ((pd d).canLay0 && decide _) = true
    rw [a, decide_eq_true (Nat.le_trans b hn)]; rfl
  have s2 : SeqAt.shaped (pd (.tup ds)) = true := by
    obtain ⟨a, b, c⟩ := pd_fit (.tup ds) n h2
    show ((pd (.tup ds)).canLay0 && decide _) = true
    rw [a, decide_eq_true (Nat.le_trans b hn)]; rfl
  show (if isFlat d then _ else inD d (.tup ds) w) = _
  rw [hf, if_neg Bool.false_ne_true]
  unfold inD
  rw [py_of h, py_of h2]
  show (if (SeqAt.shaped (pd d) && SeqAt.shaped (pd (.tup ds))) = true then _ else _) = _
  rw [s1, s2]
  rfl
theorem pds_any {α : Type} (dd : α → D) (q : PyData → Bool) (l : List α) : (pds (l.map dd)).any q = l.any fun x => q (pd (dd x)) := by
  induction l with
  | nil => rfl
  | cons x l ih => rw [List.map_cons, pds, List.any_cons, List.any_cons, ih]
end Fz

/-! Q28: a value's text is a text that can be told again. -/
namespace Fz
open PySem
/-- signs that there are -/
def Sg (s : Str) : Prop := ∀ c ∈ s.cps.toList, c < 0x110000
theorem Sg.ok {s : Str} (h : Sg s) : PyData.strOk s = true := by
  unfold PyData.strOk
  rw [Array.all_eq_true_iff_forall_mem]
  intro c hc
  exact decide_eq_true (h c (Array.mem_toList_iff.mpr hc))
theorem Sg.of_ok {s : Str} (h : PyData.strOk s = true) : Sg s := by
  intro c hc
  have h3 := Array.all_eq_true_iff_forall_mem.mp h c (Array.mem_toList_iff.mp hc)
  simpa using h3
theorem Sg.str (s : String) : Sg (s : Str) := by
  intro c hc
  have e := Str.ofString_eq_toList s
  rw [show ((s : Str)) = Str.ofString s from rfl, e] at hc
  obtain ⟨x, _, rfl⟩ := List.mem_map.mp (show c ∈ s.toList.map Char.toNat from hc)
  have := x.valid
  have h2 : x.toNat < 0x110000 := by
    have hv : x.val.toNat.isValidChar := x.valid
    unfold Nat.isValidChar at hv
    show x.val.toNat < 0x110000
    omega
  exact h2
theorem Sg.app {a b : Str} (h1 : Sg a) (h2 : Sg b) : Sg (a ++ b) := by
  intro c hc
  rcases PyProof.Rows.mem_cps_append.mp hc with h | h
  · exact h1 c h
  · exact h2 c h
theorem Sg.text : ∀ (ts : List Str) (k : Nat) (acc : Str), (∀ t ∈ ts, Sg t) → Sg acc → Sg (textFrom k acc ts)
  | [], _, acc, _, h => h
  | t :: ts, k, acc, h, ha => by
    show Sg (textFrom (k + 1) (acc ++ (if k > 0 then ", " else "" : String) ++ t) ts)
    exact Sg.text ts (k + 1) _ (fun u hu => h u (List.mem_cons_of_mem _ hu)) ((ha.app (Sg.str _)).app (h t List.mem_cons_self))
theorem Sg.join {ts : List Str} (h : ∀ t ∈ ts, Sg t) : Sg (Str.join ", " ts) := by
  intro c hc
  rcases (PyProof.Rows.mem_join _ c ts).mp hc with ⟨t, ht, h1⟩ | ⟨_, h1⟩
  · exact h t ht c h1
  · exact Sg.str ", " c h1
theorem Sg.list {ts : List Str} (h : ∀ t ∈ ts, Sg t) : Sg (listText ts) := (Sg.text ts 0 "[" h (Sg.str "[")).app (Sg.str "]")
theorem Sg.tuple {ts : List Str} (h : ∀ t ∈ ts, Sg t) : Sg (tupleText ts) := ((Sg.str "(").app (Sg.join h)).app (Sg.str _)
theorem digits_lt (b n : Nat) : ∀ c ∈ (Nat.toDigits b n).map Char.toNat, c < 0x110000 := by
  intro c hc
  obtain ⟨x, _, rfl⟩ := List.mem_map.mp hc
  have hv : x.val.toNat.isValidChar := x.valid
  unfold Nat.isValidChar at hv
  show x.val.toNat < 0x110000
  omega
theorem reprChar_sg {q c : Nat} (hc : c < 0x110000) : ∀ d ∈ Builtin.Str.reprChar q c, d < 0x110000 := by
  have hd := digits_lt 16 c
  have hh : ∀ w, ∀ d ∈ List.replicate w 48 ++ (Nat.toDigits 16 c).map Char.toNat, d < 0x110000 := by
    intro w d h
    rcases List.mem_append.mp h with h | h
    · have := (List.mem_replicate.mp h).2
      omega
    · exact hd d h
  unfold Builtin.Str.reprChar
  dsimp only
  intro d h
  split at h
  · simp only [List.mem_cons, List.not_mem_nil, or_false] at h; omega
  split at h
  · simp only [List.mem_cons, List.not_mem_nil, or_false] at h; omega
  split at h
  · simp only [List.mem_cons, List.not_mem_nil, or_false] at h; omega
  split at h
  · simp only [List.mem_cons, List.not_mem_nil, or_false] at h; omega
  split at h
  · simp only [List.mem_cons, List.not_mem_nil, or_false] at h; omega
  split at h
  · rcases List.mem_append.mp h with h | h
    · simp only [List.mem_cons, List.not_mem_nil, or_false] at h; omega
    · exact hh _ d h
  split at h
  · rcases List.mem_append.mp h with h | h
    · simp only [List.mem_cons, List.not_mem_nil, or_false] at h; omega
    · exact hh _ d h
  · rcases List.mem_append.mp h with h | h
    · simp only [List.mem_cons, List.not_mem_nil, or_false] at h; omega
    · exact hh _ d h
theorem fold_sg (q : Nat) : ∀ (l : List Nat) (acc : Array Nat), (∀ c ∈ l, c < 0x110000) → (∀ c ∈ acc.toList, c < 0x110000) → ∀ c ∈ (l.foldl (fun out c => out ++ (Builtin.Str.reprChar q c).toArray) acc).toList, c < 0x110000
  | [], _, _, h => h
  | x :: l, acc, hl, h => by
    refine fold_sg q l _ (fun c hc => hl c (List.mem_cons_of_mem _ hc)) fun c hc => ?_
    rw [Array.toList_append] at hc
    rcases List.mem_append.mp hc with hc | hc
    · exact h c hc
    · exact reprChar_sg (hl x List.mem_cons_self) c hc
theorem Sg.repr {s : Str} (h : Sg s) : Sg (reprText s) := by
  intro c hc
  unfold reprText at hc
  have hq : reprQuote s < 0x110000 := by unfold reprQuote; split <;> decide
  rw [Array.toList_push, ← Array.foldl_toList] at hc
  rcases List.mem_append.mp hc with hc | hc
  · refine fold_sg (reprQuote s) s.cps.toList _ h (fun c hc => ?_) c hc
    have : c = reprQuote s := by simpa using hc
    omega
  · have : c = reprQuote s := by simpa using hc
    omega
variable {k : Nat}
mutual
theorem shown_sg : ∀ (d : D) (n : Nat), Pl k n d → Sg (pd d).shown
  | .non, _, _ => Sg.str "None"
  | .bl b, _, _ => by
    cases b
    · exact Sg.str "False"
    · exact Sg.str "True"
  | .int i, _, _ => Sg.str (toString i)
  | .str s, _, h => Sg.repr (Sg.of_ok h)
  | .tup ds, n, h => Sg.tuple (showns_sg ds _ h.2)
  | .lst ds, n, h => Sg.list (showns_sg ds _ h.2)
  | .fl ds, n, h => Sg.list (showns_sg ds _ h.2)
  | .sc ds, n, h => Sg.list (showns_sg ds _ h.2)
  | .ref _, _, h => False.elim h
  | .g _, _, h => False.elim h
  | .dic _ _, _, h => False.elim h
theorem showns_sg : ∀ (ds : List D) (n : Nat), Pls k n ds → ∀ t ∈ PyData.shownAll (pds ds), Sg t
  | [], _, _, t, ht => nomatch ht
  | d :: ds, n, h, t, ht => by
    rcases List.mem_cons.mp (show t ∈ (pd d).shown :: PyData.shownAll (pds ds) from ht) with rfl | ht
    · exact shown_sg d n h.1
    · exact showns_sg ds n h.2 t ht
end
/-- the text of a value, as a value -/
theorem shown_pl {n m : Nat} {d : D} (h : Pl k n d) : Pl k m (.str (pd d).shown) := (shown_sg d n h).ok
theorem shown_sz {n : Nat} {d : D} (hk : 0 < k) (h : Pl k n d) : szB k (.str (pd d).shown) ≤ 10 * szB k d + 2 := by
  have h1 := StrLaws.reprText_len (pd d).shown (fun c hc => by
    have := shown_sg d n h c hc
    have e : (16 : Nat) ^ 8 = 4294967296 := by decide
    omega)
  have h2 := shown_le hk d n h
  show (reprText (pd d).shown).length ≤ _
  omega
/-! ### comprehensions and loops that draw -/
theorem coL_drawIf {bind : D → Wd → Option Wd} {test : Wd → R (Bool × Wd)} {elt : Wd → R (D × Wd)} {ok : Wd → Bool} {own : List Nat} {σ : List (Option D)} {m : List (List D)} (Q : D → Prop) (I : List (List D) → Prop) (hok : ∀ w, ok w = true) :
    ∀ (xs acc : List D) (g : List (List D)), I g → (∀ y ∈ acc, Q y) → acc.length + xs.length ≤ mxLen →
      (∀ x ∈ xs, ∀ g, I g → ∃ w1, bind x ⟨wipeD σ own, m, g⟩ = some w1 ∧ ((∃ σ2 g2, test w1 = .ok (false, ⟨σ2, m, g2⟩) ∧ I g2) ∨ ∃ w2 y σ3 g3, test w1 = .ok (true, w2) ∧ elt w2 = .ok (y, ⟨σ3, m, g3⟩) ∧ I g3 ∧ Q y)) →
    ∃ ys g', ys.length ≤ acc.length + xs.length ∧ (∀ y ∈ ys, Q y) ∧ I g' ∧ coL bind test elt ok own σ xs ⟨σ, m, g⟩ acc = .ok (ys, ⟨σ, m, g'⟩)
  | [], acc, g, hg, hq, _, _ => ⟨acc, g, Nat.le_refl _, hq, hg, rfl⟩
  | x :: xs, acc, g, hg, hq, hl, h => by
    rw [List.length_cons] at hl
    obtain ⟨w1, e1, c⟩ := h x List.mem_cons_self g hg
    rcases c with ⟨σ2, g2, e2, h2⟩ | ⟨w2, y, σ3, g3, e2, e3, h3, hy⟩
    · obtain ⟨ys, g', l, q, i, e⟩ := coL_drawIf Q I hok xs acc g2 h2 hq (by omega) fun x hx => h x (List.mem_cons_of_mem _ hx)
      refine ⟨ys, g', by rw [List.length_cons]; omega, q, i, ?_⟩
      rw [coL_cons, e1]
      simp only [R.of_some, R.bd_ok, e2, hok, if_true, Bool.false_eq_true, if_false]
      exact e
    · obtain ⟨ys, g', l, q, i, e⟩ := coL_drawIf Q I hok xs (acc ++ [y]) g3 h3 (fun z hz => by
        rcases List.mem_append.mp hz with hz | hz
        · exact hq z hz
        · rw [List.mem_singleton.mp hz]; exact hy) (by rw [List.length_append, List.length_singleton]; omega) fun x hx => h x (List.mem_cons_of_mem _ hx)
      refine ⟨ys, g', by rw [List.length_append, List.length_singleton] at l; rw [List.length_cons]; omega, q, i, ?_⟩
      rw [coL_cons, e1]
      simp only [R.of_some, R.bd_ok, e2, e3, hok, if_true, Bool.true_and, decide_eq_true (show acc.length < mxLen by omega)]
      exact e
theorem coL_draw {P : Pg} {e : E} {t : Nat} {ok : Wd → Bool} {own : List Nat} {σ : List (Option D)} {m : List (List D)} (Q : D → Prop) (I : List (List D) → Prop) (hok : ∀ w, ok w = true) :
    ∀ (xs acc : List D) (g : List (List D)), I g → (∀ y ∈ acc, Q y) → acc.length + xs.length ≤ mxLen →
      (∀ x ∈ xs, ∀ g, I g → ∃ y σ' g', evE P e ⟨(wipeD σ own).set t (some x), m, g⟩ = .ok (y, ⟨σ', m, g'⟩) ∧ I g' ∧ Q y) →
    ∃ ys g', ys.length = acc.length + xs.length ∧ (∀ y ∈ ys, Q y) ∧ I g' ∧ coL (asg (.nm t)) (evC P .no) (evE P e) ok own σ xs ⟨σ, m, g⟩ acc = .ok (ys, ⟨σ, m, g'⟩)
  | [], acc, g, hg, hq, _, _ => ⟨acc, g, rfl, hq, hg, rfl⟩
  | x :: xs, acc, g, hg, hq, hl, h => by
    rw [List.length_cons] at hl
    obtain ⟨y, σ3, g3, e3, h3, hy⟩ := h x List.mem_cons_self g hg
    obtain ⟨ys, g', l, q, i, e'⟩ := coL_draw (e := e) (t := t) Q I hok xs (acc ++ [y]) g3 h3 (fun z hz => by
        rcases List.mem_append.mp hz with hz | hz
        · exact hq z hz
        · rw [List.mem_singleton.mp hz]; exact hy) (by rw [List.length_append, List.length_singleton]; omega) fun x hx => h x (List.mem_cons_of_mem _ hx)
    refine ⟨ys, g', by rw [List.length_append, List.length_singleton] at l; rw [List.length_cons]; omega, q, i, ?_⟩
    have t1 : ∀ w, evC P .no w = .ok (true, w) := fun w => by simp
    rw [coL_cons]
    show (R.of (some (⟨(wipeD σ own).set t (some x), m, g⟩ : Wd))).bd _ = _
    simp only [R.of_some, R.bd_ok, t1, e3, hok, if_true, Bool.true_and, decide_eq_true (show acc.length < mxLen by omega)]
    exact e'
theorem forL_mem {bind : D → Wd → Option Wd} {body : Wd → R (Fl × Wd)} {post : Wd → Option Wd} {ok : Wd → Bool} (I : Wd → Prop) : ∀ (xs : List D) (w : Wd), (∀ x ∈ xs, ∀ w r, I w → ∃ w', I w' ∧ forL bind body post ok (x :: r) w = forL bind body post ok r w') → I w → ∃ w', I w' ∧ forL bind body post ok xs w = .ok (.nx, w')
  | [], w, _, hI => ⟨w, hI, rfl⟩
  | x :: xs, w, h, hI => by
    obtain ⟨w1, h1, e1⟩ := h x List.mem_cons_self w xs hI
    obtain ⟨w2, h2, e2⟩ := forL_mem I xs w1 (fun y hy => h y (List.mem_cons_of_mem _ hy)) h1
    exact ⟨w2, h2, e1.trans e2⟩
theorem rng_n {n : Nat} (h : n ≤ 1000000) : rngF [.int (n : Int)] = some ((List.range n).map fun t : Nat => D.int t) := by
  rw [rng_1 (n := n) (by omega) (by omega), rngL_map0]
/-- an own list beside the empty one -/
theorem ne_nil_ref {w : Wd} {j n : Nat} {ds : List D} (h : w.m[j]? = some ds) (hp : Pls k n ds) (hn : n ≤ 60) : cmF .ne (.ref j) (.lst []) w = some (!ds.isEmpty) := by
  have h0 : w.py (.ref j) = some (.list (pds ds)) := by
    show pyR w (3 + 1) true j = _
    unfold pyR
    rw [if_pos rfl, h]
    show (pyL _ _ ds).map PyData.list = _
    rw [pyL_pd ds n hp]
    rfl
  have h1 : w.py (.lst []) = some (.list []) := rfl
  show ((w.py (.ref j)).bind fun a => (w.py (.lst [])).bind fun b => if SeqAt.shaped a && SeqAt.shaped b then some (PyData.eqv a b) else none).map (fun b => !b) = _
  rw [h0, h1]
  have s1 : SeqAt.shaped (.list (pds ds)) = true := by
    obtain ⟨a, b, c⟩ := pds_fit ds n hp
    show (PyData.canLayAll0 (pds ds) && decide (PyData.depthAll (pds ds) + 1 ≤ 64)) = true
    rw [a, decide_eq_true (by omega)]; rfl
  show (if (SeqAt.shaped (.list (pds ds)) && SeqAt.shaped (.list [])) = true then some (PyData.eqv (.list (pds ds)) (.list [])) else none).map (fun b => !b) = _
  rw [s1]
  cases ds with
  | nil => simp [pd, pds, PyData.eqv, PyData.eqvAll]; rfl
  | cons X l => simp [pd, pds, PyData.eqv, PyData.eqvAll]; rfl
end Fz

/-! Q30: rows and tables as data, small values. -/
namespace Rw
open PySem Fz
@[simp] theorem nt0 {w : Wd} : newT [] w = .ok (.tup [], w) := newT_ok' (by decide)
@[simp] theorem nt1 {a : Fz.D} {w : Wd} : newT [a] w = .ok (.tup [a], w) := newT_ok' (show 1 ≤ mxLen by decide)
@[simp] theorem nt2 {a b : Fz.D} {w : Wd} : newT [a, b] w = .ok (.tup [a, b], w) := newT_ok' (show 2 ≤ mxLen by decide)
@[simp] theorem nt3 {a b c : Fz.D} {w : Wd} : newT [a, b, c] w = .ok (.tup [a, b, c], w) := newT_ok' (show 3 ≤ mxLen by decide)
@[simp] theorem nl0 {w : Wd} : newL 0 [] w = .ok (.lst [], w) := newL_0 (by decide)
@[simp] theorem nl1 {a : Fz.D} {w : Wd} : newL 0 [a] w = .ok (.lst [a], w) := newL_0 (show 1 ≤ mxLen by decide)
@[simp] theorem nl2 {a b : Fz.D} {w : Wd} : newL 0 [a, b] w = .ok (.lst [a, b], w) := newL_0 (show 2 ≤ mxLen by decide)
@[simp] theorem nl3 {a b c : Fz.D} {w : Wd} : newL 0 [a, b, c] w = .ok (.lst [a, b, c], w) := newL_0 (show 3 ≤ mxLen by decide)
theorem zip_map {α : Type} (f h : α → Fz.D) (l : List α) : zipD (l.map f) (l.map h) = l.map fun a => .tup [f a, h a] := by
  induction l with
  | nil => rfl
  | cons a l ih => simp only [List.map_cons, zipD, ih]
theorem enu_map (f : Nat → Fz.D) (n : Nat) : enuL 0 ((List.range n).map f) = (List.range n).map fun i : Nat => .tup [.int i, f i] := by
  have go : ∀ (n : Nat) (k : Nat), enuL k ((List.range n).map fun i => f (k + i)) = (List.range n).map fun i : Nat => .tup [.int ((k + i : Nat) : Int), f (k + i)] := by
    intro n
    induction n with
    | zero => intro k; rfl
    | succ n ih =>
      intro k
      rw [List.range_succ_eq_map, List.map_cons, List.map_cons, List.map_map, List.map_map, enuL]
      congr 1
      have := ih (k + 1)
      have e : ((k : Int) + 1) = ((k + 1 : Nat) : Int) := by omega
      rw [e]
      have e2 : (fun i => f (k + i)) ∘ Nat.succ = fun i => f (k + 1 + i) := by funext i; simp only [Function.comp]; congr 1; omega
      rw [e2, this]
      refine List.map_congr_left fun i _ => ?_
      simp only [Function.comp]
      have e3 : k + 1 + i = k + Nat.succ i := by omega
      rw [e3]
  have := go n 0
  simpa using this
theorem rl_map (m : Nat) (f : Nat → Int) : rl m f = (List.range m).map fun j => Fz.D.int (f j) := rfl
theorem rl_intD (m : Nat) (f : Nat → Int) : intD (rl m f) = some ((List.range m).map f) := by
  unfold rl
  induction List.range m with
  | nil => rfl
  | cons x l ih => simp only [List.map_cons, intD, ih]; rfl
theorem nlR {md m : Nat} {f : Nat → Int} {w : Wd} (hm : m ≤ 1000) : newL 0 (rl m f) w = .ok (.lst (rl m f), w) := newL_0 (by rw [rl_len]; exact Nat.le_trans hm (by decide))
theorem ntR {m : Nat} {f : Nat → Int} {w : Wd} (hm : m ≤ 1000) : newT (rl m f) w = .ok (.tup (rl m f), w) := by
  unfold newT
  rw [if_pos (by rw [rl_len]; exact Nat.le_trans hm (by decide))]
theorem forL_idx {bind : Fz.D → Wd → Option Wd} {body : Wd → R (Fl × Wd)} {post : Wd → Option Wd} {ok : Wd → Bool} (dd : Nat → Fz.D) (st : Nat → Wd) : ∀ (n k : Nat), (∀ i, k ≤ i → i < k + n → ∀ r, forL bind body post ok (dd i :: r) (st i) = forL bind body post ok r (st (i + 1))) →
    forL bind body post ok ((List.range' k n).map dd) (st k) = .ok (.nx, st (k + n))
  | 0, k, _ => rfl
  | n + 1, k, h => by
    rw [List.range'_succ, List.map_cons, h k (Nat.le_refl _) (by omega), forL_idx dd st n (k + 1) fun i h1 h2 => h i (by omega) (by omega)]
    congr 3
    omega
def rw_ (n : Nat) (f : Nat → Int) : Fz.D := .tup (rl n f)
def rows (n : Nat) (T : Nat → Nat → Int) : List Fz.D := (List.range n).map fun i => rw_ n (T i)
def tb (n : Nat) (T : Nat → Nat → Int) : Fz.D := .tup (rows n T)
theorem rows_eq (n : Nat) (T : Nat → Nat → Int) : rows n T = (List.range n).map fun i => rw_ n (T i) := rfl
@[simp] theorem rows_len {n : Nat} {T : Nat → Nat → Int} : (rows n T).length = n := by simp [rows]
theorem tb_congr {n : Nat} {T U : Nat → Nat → Int} (h : ∀ i, i < n → ∀ j, j < n → T i j = U i j) : tb n T = tb n U := by
  unfold tb rows
  congr 1
  refine List.map_congr_left fun i hi => ?_
  unfold rw_
  rw [rl_congr fun j hj => h i (List.mem_range.mp hi) j hj]
theorem rw_congr {n : Nat} {f h : Nat → Int} (e : ∀ i, i < n → f i = h i) : rw_ n f = rw_ n h := by unfold rw_; rw [rl_congr e]
theorem rw_ret (n : Nat) (f : Nat → Int) : okRet (rw_ n f) = true := rl_ok
theorem rows_ret {n : Nat} {T : Nat → Nat → Int} : okRets (rows n T) = true := okRets_all fun d hd => by
  obtain ⟨i, _, rfl⟩ := List.mem_map.mp hd
  exact rw_ret n _
@[simp] theorem rw_rs {ρ : Nat → Option Fz.D} {φ : Bool} {n : Nat} {f : Nat → Int} : rs ρ φ (rw_ n f) = some (rw_ n f) := rs_ok _ (rw_ret n f)
@[simp] theorem tb_rs {ρ : Nat → Option Fz.D} {φ : Bool} {n : Nat} {T : Nat → Nat → Int} : rs ρ φ (tb n T) = some (tb n T) := rs_ok _ rows_ret
@[simp] theorem rw_seq {n : Nat} {f : Nat → Int} {w : Wd} : w.seq (rw_ n f) = some (rl n f) := rfl
@[simp] theorem rw_isT {n : Nat} {f : Nat → Int} : isT (rw_ n f) = true := rfl
@[simp] theorem tb_isT {n : Nat} {f : Nat → Nat → Int} : isT (tb n f) = true := rfl
@[simp] theorem tb_seq {n : Nat} {T : Nat → Nat → Int} {w : Wd} : w.seq (tb n T) = some (rows n T) := rfl
@[simp] theorem rw_src {n : Nat} {f : Nat → Int} : srcOf (rw_ n f) = .non := rfl
@[simp] theorem tb_src {n : Nat} {f : Nat → Nat → Int} : srcOf (tb n f) = .non := rfl
@[simp] theorem rw_len {n md : Nat} {f : Nat → Int} {w : Wd} : biF .len md [rw_ n f] w = .ok (.int n, w) := by
  have : biF .len md [rw_ n f] w = .ok (.int (rl n f).length, w) := rfl
  rw [this, rl_len]
@[simp] theorem tb_len {n md : Nat} {f : Nat → Nat → Int} {w : Wd} : biF .len md [tb n f] w = .ok (.int n, w) := by
  have : biF .len md [tb n f] w = .ok (.int (rows n f).length, w) := rfl
  rw [this, rows_len]
theorem tb_at {n i : Nat} {T : Nat → Nat → Int} (h : i < n) : (rows n T)[i]? = some (rw_ n (T i)) := by simp [rows, h]
theorem ix_nat {n i : Nat} (h : i < n) : ixI n (i : Int) = some i := by
  unfold ixI
  rw [if_pos (Int.natCast_nonneg i), if_pos (by omega)]
  simp
theorem zeros {md n : Nat} (h1 : 1 ≤ n) (h2 : n ≤ 1000) {w : Wd} : opF .mul md (.tup [.int 0]) (.int (n : Int)) w = .ok (rw_ n fun _ => 0, w) := by
  have hd : 1 ≤ (n : Int) ∧ (n : Int) ≤ 1000 ∧ ([Fz.D.int 0] : List Fz.D).length ≤ 1000 ∧ ([Fz.D.int 0] : List Fz.D) ≠ [] := ⟨by omega, by omega, by decide, by simp⟩
  show (if decide _ = true then newT (List.replicate (n : Int).toNat [Fz.D.int 0]).flatten w else .err) = _
  rw [decide_eq_true hd, if_pos rfl, Int.toNat_natCast, rl_rep]
  exact ntR h2
theorem exD_rt {P : Pg} {n : Nat} {body : List S} {ds : List Fz.D} {g : List (List Fz.D)} {d d' : Fz.D} {w1 : Wd} (e : exB P body ⟨ds.map some ++ List.replicate (n - ds.length) none, [], g⟩ = .ok (.rt d, w1)) (hd : give w1 d = some d') : exD P n body ds g = .ok (d', w1.g) := by
  unfold exD
  rw [e]
  show (R.of (give w1 d)).bd (fun d' => R.ok (d', w1.g)) = _
  rw [hd]
  rfl
theorem nlW {n : Nat} {T : Nat → Nat → Int} {w : Wd} (hn : n ≤ 1000) : newL 0 (rows n T) w = .ok (.lst (rows n T), w) := newL_0 (by rw [rows_len]; exact Nat.le_trans hn (by decide))
theorem ntW {n : Nat} {T : Nat → Nat → Int} {w : Wd} (hn : n ≤ 1000) : newT (rows n T) w = .ok (tb n T, w) := newT_ok' (by rw [rows_len]; exact Nat.le_trans hn (by decide))
theorem ntR' {m : Nat} {f : Nat → Int} {w : Wd} (hm : m ≤ 1000) : newT (rl m f) w = .ok (rw_ m f, w) := ntR hm
theorem exB_rt {P : Pg} {s : S} {r : List S} {w w' : Wd} {d : Fz.D} (h : exS P s w = .ok (.rt d, w')) : exB P (s :: r) w = .ok (.rt d, w') := by
  rw [exB_cons, h]
  rfl
theorem Pls_mem {k n : Nat} : ∀ {ds : List Fz.D}, Pls k n ds → ∀ d ∈ ds, Pl k n d
  | [], _, d, hd => nomatch hd
  | e :: ds, h, d, hd => by
    rcases List.mem_cons.mp hd with rfl | hd
    · exact h.1
    · exact Pls_mem h.2 d hd
theorem okRets_mem : ∀ {ds : List Fz.D}, okRets ds = true → ∀ d ∈ ds, okRet d = true
  | [], _, d, hd => nomatch hd
  | e :: ds, h, d, hd => by
    obtain ⟨h1, h2⟩ := Bool.and_eq_true_iff.mp (show (okRet e && okRets ds) = true from h)
    rcases List.mem_cons.mp hd with rfl | hd
    · exact h1
    · exact okRets_mem h2 d hd
theorem ne_nilL {n : Nat} {ds : List Fz.D} (h : Pls 5 n ds) (hn : n ≤ 60) {w : Wd} : cmF .ne (.lst ds) (.lst []) w = some (!ds.isEmpty) := by
  show (eqF _ _ w).map (fun b => !b) = _
  rw [eqF_plain (k := 5) (n := n + 1) (Pl_lst.mpr h) (Pl_lst.mpr (Pls_nil.mpr trivial)) (by omega)]
  cases ds with
  | nil => simp [pd, pds, PyData.eqv, PyData.eqvAll]
  | cons X l => simp [pd, pds, PyData.eqv, PyData.eqvAll]
theorem eq_nilL {n : Nat} {ds : List Fz.D} (h : Pls 5 n ds) (hn : n ≤ 60) {w : Wd} : cmF .eq (.lst ds) (.lst []) w = some ds.isEmpty := by
  show eqF (.lst ds) (.lst []) w = some ds.isEmpty
  rw [eqF_plain (k := 5) (n := n + 1) (Pl_lst.mpr h) (Pl_lst.mpr (Pls_nil.mpr trivial)) (by omega)]
  cases ds with
  | nil => simp [pd, pds, PyData.eqv, PyData.eqvAll]
  | cons X l => simp [pd, pds, PyData.eqv, PyData.eqvAll]
theorem filt_emp {α : Type} (q : α → Bool) (l : List α) : (l.filter fun d => !q d).isEmpty = l.all q := by
  induction l with
  | nil => rfl
  | cons d l ih =>
    rw [List.filter_cons, List.all_cons]
    cases q d with
    | true => simpa using ih
    | false => rfl
theorem ntS {a : List Fz.D} {w : Wd} (h : a.length ≤ 1000) : newT a w = .ok (.tup a, w) := newT_ok' (Nat.le_trans h (by decide))
theorem nlS {a : List Fz.D} {w : Wd} (h : a.length ≤ 1000) : newL 0 a w = .ok (.lst a, w) := newL_0 (Nat.le_trans h (by decide))
theorem addL {md : Nat} {a b : List Fz.D} {w : Wd} : opF .add md (.lst a) (.lst b) w = newL md (a ++ b) w := .trans rfl rfl
theorem addLR {md k : Nat} {a b : List Fz.D} {w : Wd} (h : w.m[k]? = some b) (h2 : lsq b = some b) : opF .add md (.lst a) (.ref k) w = newL md (a ++ b) w := by
  show (if (isL (Fz.D.lst a) && isL (Fz.D.ref k)) = true then (R.of (w.seq (.lst a))).bd fun a => (R.of (w.seq (.ref k))).bd fun b => newL md (a ++ b) w else .err) = _
  simp [h, h2]
theorem eq_nilT {n : Nat} {ds : List Fz.D} (h : Pls 5 n ds) (hn : n ≤ 60) {w : Wd} : cmF .eq (.tup ds) (.tup []) w = some ds.isEmpty := by
  show eqF (.tup ds) (.tup []) w = some ds.isEmpty
  rw [eqF_plain (k := 5) (n := n + 1) (Pl_tup.mpr h) (Pl_tup.mpr (Pls_nil.mpr trivial)) (by omega)]
  cases ds with
  | nil => simp [pd, pds, PyData.eqv, PyData.eqvAll]
  | cons X l => simp [pd, pds, PyData.eqv, PyData.eqvAll]
theorem mm_app {α : Type} {P : α → Prop} {a b : List α} (h1 : ∀ e ∈ a, P e) (h2 : ∀ e ∈ b, P e) : ∀ e ∈ a ++ b, P e := fun e he => by
  rcases List.mem_append.mp he with he | he
  · exact h1 e he
  · exact h2 e he
theorem mm_cons {α : Type} {P : α → Prop} {a : α} {b : List α} (h1 : P a) (h2 : ∀ e ∈ b, P e) : ∀ e ∈ a :: b, P e := fun e he => by
  rcases List.mem_cons.mp he with rfl | he
  · exact h1
  · exact h2 e he
theorem mm_nil {α : Type} {P : α → Prop} : ∀ e ∈ ([] : List α), P e := fun e he => nomatch he
mutual
theorem Pl_mono {k : Nat} : ∀ {d : Fz.D} {n m : Nat}, Pl k n d → n ≤ m → Pl k m d
  | .non, _, _, _, _ => trivial
  | .bl _, _, _, _, _ => trivial
  | .int _, _, _, h, _ => h
  | .str _, _, _, h, _ => h
  | .tup ds, n, m, h, l => ⟨Nat.lt_of_lt_of_le h.1 l, Pls_mono h.2 (by omega)⟩
  | .lst ds, n, m, h, l => ⟨Nat.lt_of_lt_of_le h.1 l, Pls_mono h.2 (by omega)⟩
  | .fl ds, n, m, h, l => ⟨Nat.lt_of_lt_of_le h.1 l, Pls_mono h.2 (by omega)⟩
  | .sc ds, n, m, h, l => ⟨Nat.lt_of_lt_of_le h.1 l, Pls_mono h.2 (by omega)⟩
  | .ref _, _, _, h, _ => False.elim h
  | .g _, _, _, h, _ => False.elim h
  | .dic _ _, _, _, h, _ => False.elim h
theorem Pls_mono {k : Nat} : ∀ {ds : List Fz.D} {n m : Nat}, Pls k n ds → n ≤ m → Pls k m ds
  | [], _, _, _, _ => trivial
  | d :: ds, n, m, h, l => ⟨Pl_mono h.1 l, Pls_mono h.2 l⟩
end
structure It (c k : Nat) (d : Fz.D) : Prop where
  pl : Pl 5 k d
  ret : okRet d = true
  sz : szB 5 d ≤ c
theorem It.mono {c k c' k' : Nat} {d : Fz.D} (h : It c k d) (h1 : c ≤ c') (h2 : k ≤ k') : It c' k' d := ⟨Pl_mono h.pl h2, h.ret, Nat.le_trans h.sz h1⟩
theorem szBs_it {c k : Nat} {ds : List Fz.D} (h : ∀ d ∈ ds, It c k d) {L : Nat} (hl : ds.length ≤ L) : szBs 5 ds ≤ L * (c + 2) :=
  Nat.le_trans (szBs_le fun d hd => (h d hd).sz) (Nat.mul_le_mul_right _ hl)
theorem It.rets {c k : Nat} {ds : List Fz.D} (h : ∀ d ∈ ds, It c k d) : okRets ds = true := okRets_all fun d hd => (h d hd).ret
theorem It.pls {c k : Nat} {ds : List Fz.D} (h : ∀ d ∈ ds, It c k d) : Pls 5 k ds := Pls_all fun d hd => (h d hd).pl
theorem It.tup {c k L : Nat} {ds : List Fz.D} (h : ∀ d ∈ ds, It c k d) (hl : ds.length ≤ L) : It (L * (c + 2) + 3) (k + 1) (.tup ds) :=
  ⟨Pl_tup.mpr (It.pls h), It.rets h, by show szBs 5 ds + 3 ≤ _; have := szBs_it h hl; omega⟩
theorem It.lst {c k L : Nat} {ds : List Fz.D} (h : ∀ d ∈ ds, It c k d) (hl : ds.length ≤ L) : It (L * (c + 2) + 3) (k + 1) (.lst ds) :=
  ⟨Pl_lst.mpr (It.pls h), It.rets h, by show szBs 5 ds + 3 ≤ _; have := szBs_it h hl; omega⟩
theorem It.int {k : Nat} {i : Int} (h : -100000 < i ∧ i < 100000) : It 6 k (.int i) := by
  have e : (10 : Nat) ^ 5 = 100000 := by decide
  exact ⟨Pl_int.mpr (by omega), rfl, Nat.le_refl _⟩
theorem It.non {k : Nat} : It 5 k .non := ⟨trivial, rfl, by decide⟩
theorem It.bl {k : Nat} {b : Bool} : It 5 k (.bl b) := ⟨trivial, rfl, by show 5 ≤ 5; decide⟩
theorem nl4 {a b c d : Fz.D} {w : Wd} : newL 0 [a, b, c, d] w = .ok (.lst [a, b, c, d], w) := nlS (show 4 ≤ 1000 by decide)
theorem zerosG {md n : Nat} (h1 : 1 ≤ n) (h2 : n ≤ 1000) {d : Fz.D} {w : Wd} : opF .mul md (.tup [d]) (.int (n : Int)) w = .ok (.tup (List.replicate n d), w) := by
  have hd : 1 ≤ (n : Int) ∧ (n : Int) ≤ 1000 ∧ ([d] : List Fz.D).length ≤ 1000 ∧ ([d] : List Fz.D) ≠ [] := ⟨by omega, by omega, (show 1 ≤ 1000 by decide), by simp⟩
  show (if decide _ = true then newT (List.replicate (n : Int).toNat [d]).flatten w else .err) = _
  rw [decide_eq_true hd, if_pos rfl, Int.toNat_natCast, List.flatten_replicate_singleton]
  exact ntS (by rw [List.length_replicate]; exact h2)
end Rw

/-! Q26: rows modulo a prime: spans, steps (reduced rows), what is beside. -/
namespace LA
abbrev Vc := Nat → Int
/-- alike at the first n places -/
def Eq' (p : Int) (n : Nat) (u v : Vc) : Prop := ∀ j, j < n → p ∣ u j - v j
/-- numbers times rows, summed -/
def lin : List Int → List Vc → Vc
  | c :: cs, b :: bs => fun j => c * b j + lin cs bs j
  | _, _ => fun _ => 0
def Span (p : Int) (n : Nat) (B : List Vc) (v : Vc) : Prop := ∃ cs : List Int, cs.length = B.length ∧ Eq' p n v (lin cs B)
section
variable {p : Int} {n : Nat}
theorem Eq'.refl (u : Vc) : Eq' p n u u := fun j _ => by rw [Int.sub_self]; exact Int.dvd_zero p
theorem Eq'.symm {u v : Vc} (h : Eq' p n u v) : Eq' p n v u := fun j hj => by
  have := Int.dvd_neg.mpr (h j hj)
  rwa [Int.neg_sub] at this
theorem Eq'.trans {u v w : Vc} (h : Eq' p n u v) (k : Eq' p n v w) : Eq' p n u w := fun j hj => by
  have := Int.dvd_add (h j hj) (k j hj)
  rwa [show u j - v j + (v j - w j) = u j - w j by omega] at this
/-- a b modulo p -/
def M (p a b : Int) : Prop := p ∣ a - b
theorem M.refl (a : Int) : M p a a := by unfold M; rw [Int.sub_self]; exact Int.dvd_zero p
theorem M.symm {a b : Int} (h : M p a b) : M p b a := by unfold M at *; have := Int.dvd_neg.mpr h; rwa [Int.neg_sub] at this
theorem M.trans {a b c : Int} (h : M p a b) (k : M p b c) : M p a c := by unfold M at *; have := Int.dvd_add h k; rwa [show a - b + (b - c) = a - c by omega] at this
theorem M.add {a b c d : Int} (h : M p a b) (k : M p c d) : M p (a + c) (b + d) := by unfold M at *; have := Int.dvd_add h k; rwa [show a - b + (c - d) = a + c - (b + d) by omega] at this
theorem M.sub {a b c d : Int} (h : M p a b) (k : M p c d) : M p (a - c) (b - d) := by unfold M at *; have := Int.dvd_sub h k; rwa [show a - b - (c - d) = a - c - (b - d) by omega] at this
theorem M.mul {a b c d : Int} (h : M p a b) (k : M p c d) : M p (a * c) (b * d) := by
  unfold M at *
  have : a * c - b * d = (a - b) * c + b * (c - d) := by grind
  rw [this]
  exact Int.dvd_add (Int.dvd_mul_of_dvd_left h) (Int.dvd_mul_of_dvd_right k)
theorem M.neg {a b : Int} (h : M p a b) : M p (-a) (-b) := by unfold M at *; have := Int.dvd_neg.mpr h; rwa [show -(a - b) = -a - -b by omega] at this
theorem M.emod (a : Int) : M p (a % p) a := by
  unfold M
  exact ⟨-(a / p), by have := Int.emod_add_mul_ediv a p; rw [Int.mul_neg]; omega⟩
theorem M.eq {a b : Int} (h : M p a b) (ha : 0 ≤ a ∧ a < p) (hb : 0 ≤ b ∧ b < p) : a = b := by
  have h1 := Int.emod_eq_emod_iff_emod_sub_eq_zero.mpr (Int.emod_eq_zero_of_dvd h)
  rwa [Int.emod_eq_of_lt ha.1 ha.2, Int.emod_eq_of_lt hb.1 hb.2] at h1
/-! ### sums of rows -/
theorem lin_M {B : List Vc} {j : Nat} : ∀ {cs ds : List Int}, cs.length = ds.length → (∀ i, M p (cs.getD i 0) (ds.getD i 0)) → M p (lin cs B j) (lin ds B j) := by
  induction B with
  | nil =>
    intro cs ds _ _
    cases cs <;> cases ds <;> exact M.refl _
  | cons b B ih =>
    intro cs ds h k
    cases cs with
    | nil => cases ds with
      | nil => exact M.refl _
      | cons d ds => cases h
    | cons c cs => cases ds with
      | nil => cases h
      | cons d ds =>
        have k0 : M p c d := k 0
        exact M.add (M.mul k0 (M.refl _)) (ih (by simpa using h) fun i => k (i + 1))
theorem lin_add {B : List Vc} (j : Nat) : ∀ (cs ds : List Int), cs.length = B.length → ds.length = B.length → lin (List.zipWith (· + ·) cs ds) B j = lin cs B j + lin ds B j := by
  induction B with
  | nil =>
    intro cs ds h k
    rw [List.eq_nil_of_length_eq_zero h, List.eq_nil_of_length_eq_zero k]
    rfl
  | cons b B ih =>
    intro cs ds h k
    cases cs with
    | nil => cases h
    | cons c cs => cases ds with
      | nil => cases k
      | cons d ds =>
        simp only [List.zipWith_cons_cons, lin]
        rw [ih cs ds (by simpa using h) (by simpa using k)]
        grind
theorem lin_mul (t : Int) : ∀ (cs : List Int) (B : List Vc) (j : Nat), lin (cs.map (t * ·)) B j = t * lin cs B j
  | [], _, _ => by simp [lin]
  | c :: cs, [], _ => by simp [lin]
  | c :: cs, b :: B, j => by
    simp only [List.map_cons, lin]
    rw [lin_mul t cs B j]
    grind
theorem lin_zero : ∀ (k : Nat) (B : List Vc) (j : Nat), lin (List.replicate k 0) B j = 0
  | 0, B, j => by cases B <;> rfl
  | k + 1, [], j => rfl
  | k + 1, b :: B, j => by simp only [List.replicate_succ, lin, lin_zero k B j]; omega
theorem Span.of_eq {B : List Vc} {u v : Vc} (h : Span p n B u) (e : Eq' p n v u) : Span p n B v := let ⟨cs, hl, k⟩ := h; ⟨cs, hl, e.trans k⟩
theorem Span.zero {B : List Vc} : Span p n B fun _ => 0 := ⟨List.replicate B.length 0, by simp, fun j _ => by rw [lin_zero]; exact M.refl 0⟩
theorem Span.add {B : List Vc} {u v : Vc} (h : Span p n B u) (k : Span p n B v) : Span p n B fun j => u j + v j := by
  obtain ⟨cs, hl, h⟩ := h
  obtain ⟨ds, kl, k⟩ := k
  exact ⟨List.zipWith (· + ·) cs ds, by simp [hl, kl], fun j hj => by rw [lin_add j cs ds hl kl]; exact M.add (h j hj) (k j hj)⟩
theorem Span.mul {B : List Vc} {u : Vc} (t : Int) (h : Span p n B u) : Span p n B fun j => t * u j := by
  obtain ⟨cs, hl, h⟩ := h
  exact ⟨cs.map (t * ·), by simp [hl], fun j hj => by rw [lin_mul]; exact M.mul (M.refl t) (h j hj)⟩
theorem Span.mem : ∀ {B : List Vc} {b : Vc}, b ∈ B → Span p n B b
  | b :: B, x, h => by
    rcases List.mem_cons.mp h with rfl | h
    · exact ⟨1 :: List.replicate B.length 0, by simp, fun j _ => by simp only [lin, lin_zero]; rw [Int.one_mul, Int.add_zero]; exact M.refl _⟩
    · obtain ⟨cs, hl, k⟩ := Span.mem h
      exact ⟨0 :: cs, by simp [hl], fun j hj => by simp only [lin]; rw [Int.zero_mul, Int.zero_add]; exact k j hj⟩
/-- closed under sums -/
structure Sub (p : Int) (n : Nat) (S : Vc → Prop) : Prop where
  eq : ∀ {u v}, S u → Eq' p n v u → S v
  zero : S fun _ => 0
  add : ∀ {u v}, S u → S v → S fun j => u j + v j
  mul : ∀ (t : Int) {u}, S u → S fun j => t * u j
theorem span_sub (B : List Vc) : Sub p n (Span p n B) := ⟨fun h e => h.of_eq e, Span.zero, Span.add, fun t _ h => h.mul t⟩
theorem Sub.lin {S : Vc → Prop} (h : Sub p n S) : ∀ (cs : List Int) (B : List Vc), (∀ b ∈ B, S b) → S (LA.lin cs B)
  | [], B, _ => by cases B <;> exact h.zero
  | c :: cs, [], _ => h.zero
  | c :: cs, b :: B, hb => h.add (h.mul c (hb b List.mem_cons_self)) (h.lin cs B fun x hx => hb x (List.mem_cons_of_mem _ hx))
theorem Sub.span {S : Vc → Prop} (h : Sub p n S) {B : List Vc} (hb : ∀ b ∈ B, S b) {v : Vc} (hv : Span p n B v) : S v := by
  obtain ⟨cs, _, k⟩ := hv
  exact h.eq (h.lin cs B hb) k
/-! ### rows with places of their own -/
structure Piv (p : Int) (n : Nat) (B : List Vc) (π : List Nat) : Prop where
  len : π.length = B.length
  lt : ∀ h ∈ π, h < n
  del : ∀ (i k : Nat) (b : Vc) (h : Nat), B[i]? = some b → π[k]? = some h → M p (b h) (if i = k then 1 else 0)
theorem Piv.tail {b : Vc} {B : List Vc} {h : Nat} {π : List Nat} (P : Piv p n (b :: B) (h :: π)) : Piv p n B π :=
  ⟨by have := P.len; simpa using this, fun x hx => P.lt x (List.mem_cons_of_mem _ hx), fun i k c x hi hk => by
    have := P.del (i + 1) (k + 1) c x (by simpa using hi) (by simpa using hk)
    simpa using this⟩
/-- the number at a row's own place -/
theorem lin_piv : ∀ {B : List Vc} {π : List Nat} (P : Piv p n B π) {cs : List Int}, cs.length = B.length → ∀ {k : Nat} {h : Nat}, π[k]? = some h → M p (lin cs B h) (cs.getD k 0) := by
  intro B
  suffices H : ∀ (B : List Vc) (off : Nat) (cs : List Int) (k h : Nat), cs.length = B.length → (∀ (i : Nat) (b : Vc), B[i]? = some b → M p (b h) (if off + i = k then 1 else 0)) → off ≤ k → M p (lin cs B h) (cs.getD (k - off) 0) by
    intro π P cs hl k h hk
    have := H B 0 cs k h hl (fun i b hb => by have := P.del i k b h hb hk; simpa using this) (Nat.zero_le _)
    simpa using this
  intro B
  induction B with
  | nil =>
    intro off cs k h hl _ _
    have : cs = [] := List.eq_nil_of_length_eq_zero hl
    subst this
    exact M.refl _
  | cons b B ih =>
    intro off cs k h hl hd ho
    cases cs with
    | nil => cases hl
    | cons c cs =>
      have h0 := hd 0 b rfl
      by_cases e : off = k
      · subst e
        rw [if_pos (Nat.add_zero _)] at h0
        have rest : M p (lin cs B h) 0 := by
          have z : ∀ (B : List Vc) (cs : List Int), (∀ (i : Nat) (b : Vc), B[i]? = some b → M p (b h) 0) → M p (lin cs B h) 0 := by
            intro B
            induction B with
            | nil => intro cs _; cases cs <;> exact M.refl _
            | cons b B ih =>
              intro cs hb
              cases cs with
              | nil => exact M.refl _
              | cons c cs =>
                have := M.add (M.mul (M.refl c) (hb 0 b rfl)) (ih cs fun i b hi => hb (i + 1) b (by simpa using hi))
                simpa [lin] using this
          refine z B cs fun i b hi => ?_
          have := hd (i + 1) b (by simpa using hi)
          rwa [if_neg (by omega)] at this
        have := M.add (M.mul (M.refl c) h0) rest
        simpa [lin] using this
      · rw [if_neg (by omega)] at h0
        have r := ih (off + 1) cs k h (by simpa using hl) (fun i b hi => by
          have := hd (i + 1) b (by simpa using hi)
          rwa [show off + (i + 1) = off + 1 + i by omega] at this) (by omega)
        have := M.add (M.mul (M.refl c) h0) r
        rw [show k - off = k - (off + 1) + 1 by omega]
        simpa [lin] using this
/-- a row of the span by its items at the places -/
theorem coords {B : List Vc} {π : List Nat} (P : Piv p n B π) {v : Vc} (h : Span p n B v) : Eq' p n v (lin (π.map v) B) := by
  obtain ⟨cs, hl, k⟩ := h
  refine k.trans fun j hj => lin_M (by rw [hl, List.length_map, P.len]) fun i => ?_
  by_cases hi : i < π.length
  · have e : (π.map v).getD i 0 = v (π[i]) := by simp [List.getD, hi]
    rw [e]
    have a := lin_piv P hl (List.getElem?_eq_getElem hi)
    exact (M.symm a).trans (M.symm (k _ (P.lt _ (List.getElem_mem hi))))
  · have e1 : (π.map v).getD i 0 = 0 := by simp [List.getD, hi]
    have e2 : cs.getD i 0 = 0 := by
      have : cs.length ≤ i := by rw [hl, ← P.len]; omega
      simp [List.getD, List.getElem?_eq_none this]
    rw [e1, e2]
    exact M.refl 0
theorem span_iff {B : List Vc} {π : List Nat} (P : Piv p n B π) {v : Vc} : Span p n B v ↔ Eq' p n v (lin (π.map v) B) := ⟨coords P, fun h => ⟨π.map v, by rw [List.length_map, P.len], h⟩⟩
end
end LA

/-! Q27: reduced rows are one; what is beside them. -/
namespace LA
section
variable {p : Int} {n : Nat}
theorem lin_0 {j : Nat} : ∀ {cs : List Int} {B : List Vc}, (∀ (i : Nat) (c : Int) (b : Vc), cs[i]? = some c → B[i]? = some b → M p (c * b j) 0) → M p (lin cs B j) 0
  | [], B, _ => by cases B <;> exact M.refl _
  | c :: cs, [], _ => M.refl _
  | c :: cs, b :: B, h => by
    have h0 := h 0 c b rfl rfl
    have := M.add h0 (lin_0 (cs := cs) (B := B) fun i c' b' hc hb => h (i + 1) c' b' (by simpa using hc) (by simpa using hb))
    simpa [lin] using this
structure Rref (p : Int) (n : Nat) (B : List Vc) (π : List Nat) : Prop extends Piv p n B π where
  inc : π.Pairwise (· < ·)
  lead : ∀ (i : Nat) (b : Vc) (h : Nat), B[i]? = some b → π[i]? = some h → ∀ j, j < h → M p (b j) 0
/-- the first item that is not nought -/
def Hd (p : Int) (n : Nat) (v : Vc) (h : Nat) : Prop := h < n ∧ ¬ M p (v h) 0 ∧ ∀ j, j < h → M p (v j) 0
theorem Rref.head {B : List Vc} {π : List Nat} (R : Rref p n B π) {v : Vc} (hv : Span p n B v) {h : Nat} (hh : Hd p n v h) : h ∈ π := by
  apply Classical.byContradiction
  intro hn
  obtain ⟨h1, h2, h3⟩ := hh
  have c0 : M p (v h) (lin (π.map v) B h) := coords R.toPiv hv h h1
  refine h2 (c0.trans ?_)
  refine lin_0 fun i c b hc hb => ?_
  rw [List.getElem?_map] at hc
  obtain ⟨k, hk, rfl⟩ := Option.map_eq_some_iff.mp hc
  have hkm : k ∈ π := List.mem_of_getElem? hk
  rcases Nat.lt_trichotomy k h with hlt | he | hgt
  · have := M.mul (h3 k hlt) (M.refl (b h))
    simpa using this
  · rw [he] at hkm
    exact absurd hkm hn
  · have := M.mul (M.refl (v k)) (R.lead i b k hb hk h hgt)
    simpa using this
theorem one_not (hp : 1 < p) : ¬ M p 1 0 := fun z => by
  have := M.eq z (by omega) (by omega)
  omega
theorem Rref.hd (hp : 1 < p) {B : List Vc} {π : List Nat} (R : Rref p n B π) {i h : Nat} {b : Vc} (hb : B[i]? = some b) (hh : π[i]? = some h) : Hd p n b h := by
  refine ⟨R.lt h (List.mem_of_getElem? hh), fun z => ?_, R.lead i b h hb hh⟩
  have := R.del i i b h hb hh
  rw [if_pos rfl] at this
  exact one_not hp (this.symm.trans z)
theorem inc_eq : ∀ {l m : List Nat}, l.Pairwise (· < ·) → m.Pairwise (· < ·) → (∀ x, x ∈ l ↔ x ∈ m) → l = m
  | [], [], _, _, _ => rfl
  | [], y :: m, _, _, h => absurd ((h y).mpr List.mem_cons_self) (by simp)
  | x :: l, [], _, _, h => absurd ((h x).mp List.mem_cons_self) (by simp)
  | x :: l, y :: m, hl, hm, h => by
    obtain ⟨l1, l2⟩ := List.pairwise_cons.mp hl
    obtain ⟨m1, m2⟩ := List.pairwise_cons.mp hm
    have e : x = y := by
      have hx := (h x).mp List.mem_cons_self
      have hy := (h y).mpr List.mem_cons_self
      rcases List.mem_cons.mp hx with e | hx
      · exact e
      · rcases List.mem_cons.mp hy with e | hy
        · exact e.symm
        · have := m1 x hx
          have := l1 y hy
          omega
    subst e
    rw [inc_eq l2 m2 fun z => ⟨fun hz => by
      rcases List.mem_cons.mp ((h z).mp (List.mem_cons_of_mem _ hz)) with e | k
      · have := l1 z hz; omega
      · exact k, fun hz => by
      rcases List.mem_cons.mp ((h z).mpr (List.mem_cons_of_mem _ hz)) with e | k
      · have := m1 z hz; omega
      · exact k⟩]
theorem at_idx {α : Type} {l : List α} {x : α} (h : x ∈ l) : ∃ i : Nat, l[i]? = some x := by
  obtain ⟨i, hi, e⟩ := List.mem_iff_getElem.mp h
  exact ⟨i, by rw [List.getElem?_eq_getElem hi, e]⟩
theorem at_len {α β : Type} {l : List α} {m : List β} (h : l.length = m.length) {i : Nat} {x : α} (e : l[i]? = some x) : ∃ y, m[i]? = some y := by
  obtain ⟨hi, _⟩ := List.getElem?_eq_some_iff.mp e
  exact ⟨m[i]'(by omega), List.getElem?_eq_getElem _⟩
theorem Rref.sub_heads (hp : 1 < p) {B C : List Vc} {π ρ : List Nat} (R : Rref p n B π) (S : Rref p n C ρ) (h : ∀ v, Span p n B v → Span p n C v) : ∀ x ∈ π, x ∈ ρ := fun x hx => by
  obtain ⟨i, hi⟩ := at_idx hx
  obtain ⟨b, hb⟩ := at_len R.len hi
  exact S.head (h b (Span.mem (List.mem_of_getElem? hb))) (R.hd hp hb hi)
/-- the reduced rows of a span are one -/
theorem rref_one (hp : 1 < p) {B C : List Vc} {π ρ : List Nat} (R : Rref p n B π) (S : Rref p n C ρ) (h : ∀ v, Span p n B v ↔ Span p n C v) : π = ρ ∧ ∀ (i : Nat) (b c : Vc), B[i]? = some b → C[i]? = some c → Eq' p n b c := by
  have e : π = ρ := inc_eq R.inc S.inc fun x => ⟨R.sub_heads hp S (fun v => (h v).mp) x, S.sub_heads hp R (fun v => (h v).mpr) x⟩
  subst e
  refine ⟨rfl, fun i b c hb hc => ?_⟩
  have e1 := coords S.toPiv ((h b).mp (Span.mem (List.mem_of_getElem? hb)))
  have e2 := coords S.toPiv (Span.mem (List.mem_of_getElem? hc))
  refine e1.trans (Eq'.trans (fun j hj => lin_M (by simp) fun k => ?_) e2.symm)
  rw [List.getD_eq_getElem?_getD, List.getD_eq_getElem?_getD, List.getElem?_map, List.getElem?_map]
  cases hk : π[k]? with
  | none => exact M.refl _
  | some x => exact (R.del i k b x hb hk).trans (S.del i k c x hc hk).symm
/-! ### products of rows -/
def sumN : Nat → (Nat → Int) → Int
  | 0, _ => 0
  | n + 1, f => sumN n f + f n
theorem sumN_M : ∀ {n : Nat} {f g : Nat → Int}, (∀ j, j < n → M p (f j) (g j)) → M p (sumN n f) (sumN n g)
  | 0, _, _, _ => M.refl _
  | n + 1, f, g, h => M.add (sumN_M fun j hj => h j (by omega)) (h n (by omega))
theorem sumN_add : ∀ (n : Nat) (f g : Nat → Int), sumN n (fun j => f j + g j) = sumN n f + sumN n g
  | 0, _, _ => rfl
  | n + 1, f, g => by simp only [sumN, sumN_add n f g]; omega
theorem sumN_mul (t : Int) : ∀ (n : Nat) (f : Nat → Int), sumN n (fun j => t * f j) = t * sumN n f
  | 0, _ => by simp [sumN]
  | n + 1, f => by simp only [sumN, sumN_mul t n f, Int.mul_add]
theorem sumN_0 : ∀ n : Nat, sumN n (fun _ => 0) = 0
  | 0 => rfl
  | n + 1 => by simp only [sumN, sumN_0 n]; rfl
theorem sumN_one {h : Nat} (f : Nat → Int) : ∀ n : Nat, sumN n (fun j => if j = h then f j else 0) = if h < n then f h else 0
  | 0 => by simp [sumN]
  | n + 1 => by
    simp only [sumN, sumN_one f n]
    by_cases e : n = h
    · subst e; simp
    · by_cases e2 : h < n
      · rw [if_pos e2, if_neg e, if_pos (by omega)]; omega
      · rw [if_neg e2, if_neg e, if_neg (by omega)]; omega
def dt (n : Nat) (u v : Vc) : Int := sumN n fun j => u j * v j
theorem dt_comm (u v : Vc) : dt n u v = dt n v u := by
  unfold dt
  congr 1
  funext j
  exact Int.mul_comm _ _
theorem dt_M {u v u' v' : Vc} (h : Eq' p n u u') (k : Eq' p n v v') : M p (dt n u v) (dt n u' v') := sumN_M fun j hj => M.mul (h j hj) (k j hj)
theorem dt_add (u v w : Vc) : dt n u (fun j => v j + w j) = dt n u v + dt n u w := by
  unfold dt
  rw [← sumN_add]
  congr 1
  funext j
  exact Int.mul_add _ _ _
theorem dt_mul (t : Int) (u v : Vc) : dt n u (fun j => t * v j) = t * dt n u v := by
  unfold dt
  rw [← sumN_mul]
  congr 1
  funext j
  grind
theorem dt_0 (u : Vc) : dt n u (fun _ => 0) = 0 := by
  unfold dt
  rw [show (fun j => u j * 0) = fun _ => (0 : Int) from funext fun j => Int.mul_zero _]
  exact sumN_0 n
/-- at right angles to all of S -/
def Perp (p : Int) (n : Nat) (S : Vc → Prop) (v : Vc) : Prop := ∀ u, S u → M p (dt n u v) 0
theorem perp_sub (S : Vc → Prop) : Sub p n (Perp p n S) where
  eq := fun h e u hu => (dt_M (Eq'.refl u) e).trans (h u hu)
  zero := fun u _ => by rw [dt_0]; exact M.refl 0
  add := fun h k u hu => by rw [dt_add]; have := M.add (h u hu) (k u hu); simpa using this
  mul := fun t _ h u hu => by rw [dt_mul]; have := M.mul (M.refl t) (h u hu); simpa using this
theorem perp_span {B : List Vc} {v : Vc} : Perp p n (Span p n B) v ↔ ∀ b ∈ B, M p (dt n b v) 0 := by
  refine ⟨fun h b hb => h b (Span.mem hb), fun h u hu => ?_⟩
  have s := perp_sub (p := p) (n := n) (fun w => Eq' p n w v)
  have : Perp p n (fun w => Eq' p n w v) u := s.span (fun b hb w hw => by
    rw [dt_comm]
    exact (dt_M (Eq'.refl b) hw).trans (h b hb)) hu
  rw [dt_comm]
  exact this v (Eq'.refl v)
/-! ### rows beside -/
def frees (n : Nat) (π : List Nat) : List Nat := (List.range n).filter fun j => !π.contains j
theorem mem_frees {π : List Nat} {j : Nat} : j ∈ frees n π ↔ j < n ∧ j ∉ π := by
  unfold frees
  rw [List.mem_filter, List.mem_range]
  simp
/-- the items at f, put at the rows' own places -/
def pick : List Nat → List Vc → Nat → Vc
  | h :: π, b :: B, f => fun j => (if j = h then b f else 0) + pick π B f j
  | _, _, _ => fun _ => 0
def dr (B : List Vc) (π : List Nat) (f : Nat) : Vc := fun j => (if j = f then 1 else 0) - pick π B f j
theorem pick_dt : ∀ {B : List Vc} {π : List Nat} (f : Nat) (v : Vc), (∀ h ∈ π, h < n) → dt n (pick π B f) v = lin (π.map v) B f
  | B, [], f, v, _ => by cases B <;> simp only [pick, List.map_nil, lin] <;> (rw [dt_comm]; exact dt_0 v)
  | [], h :: π, f, v, _ => by simp only [pick, List.map_cons, lin]; rw [dt_comm]; exact dt_0 v
  | b :: B, h :: π, f, v, hl => by
    have ih := pick_dt (B := B) f v fun x hx => hl x (List.mem_cons_of_mem _ hx)
    simp only [pick, List.map_cons, lin]
    rw [dt_comm, dt_add, dt_comm v (pick π B f), ih]
    have e : dt n v (fun j => if j = h then b f else 0) = v h * b f := by
      unfold dt
      have : (fun j => v j * if j = h then b f else 0) = fun j => if j = h then v j * b f else 0 := by
        funext j
        split <;> simp
      rw [this, sumN_one (fun j => v j * b f), if_pos (hl h List.mem_cons_self)]
    rw [e]
theorem dr_dt {B : List Vc} {π : List Nat} {f : Nat} (hf : f < n) (v : Vc) (hl : ∀ h ∈ π, h < n) : dt n (dr B π f) v = v f - lin (π.map v) B f := by
  rw [← pick_dt f v hl]
  have e : dt n (dr B π f) v + dt n (pick π B f) v = v f := by
    rw [dt_comm, dt_comm (pick π B f), ← dt_add]
    unfold dt
    have : (fun j => v j * (dr B π f j + pick π B f j)) = fun j => if j = f then v j else 0 := by
      funext j
      unfold dr
      split <;> grind
    rw [this, sumN_one (fun j => v j), if_pos hf]
  omega
/-- what is at right angles to all that is beside lies within -/
theorem perp_dual {B : List Vc} {π : List Nat} (P : Piv p n B π) {v : Vc} : (∀ f ∈ frees n π, M p (dt n (dr B π f) v) 0) ↔ Span p n B v := by
  rw [span_iff P]
  constructor
  · intro h j hj
    by_cases hm : j ∈ π
    · obtain ⟨k, hk⟩ := at_idx hm
      have := lin_piv P (cs := π.map v) (by rw [List.length_map, P.len]) hk
      have e : (π.map v).getD k 0 = v j := by rw [List.getD_eq_getElem?_getD, List.getElem?_map, hk]; rfl
      rw [e] at this
      exact this.symm
    · have := h j (mem_frees.mpr ⟨hj, hm⟩)
      rw [dr_dt hj v P.lt] at this
      unfold M at this
      rwa [Int.sub_zero] at this
  · intro h f hf
    obtain ⟨h1, _⟩ := mem_frees.mp hf
    rw [dr_dt h1 v P.lt]
    have := h f h1
    unfold M
    rwa [Int.sub_zero]
theorem pick_free {f' : Nat} : ∀ {B : List Vc} {π : List Nat} {f : Nat}, f' ∉ π → pick π B f f' = 0
  | B, [], f, _ => by cases B <;> rfl
  | [], h :: π, f, _ => rfl
  | b :: B, h :: π, f, hn => by
    simp only [pick]
    rw [if_neg (fun z => hn (by rw [z]; exact List.mem_cons_self)), pick_free fun z => hn (List.mem_cons_of_mem _ z)]
    rfl
theorem dual_piv {B : List Vc} {π : List Nat} (P : Piv p n B π) : Piv p n ((frees n π).map (dr B π)) (frees n π) := by
  refine ⟨by simp, fun h hh => (mem_frees.mp hh).1, fun i k b h hb hh => ?_⟩
  rw [List.getElem?_map] at hb
  obtain ⟨f, hf, rfl⟩ := Option.map_eq_some_iff.mp hb
  obtain ⟨h1, h2⟩ := mem_frees.mp (List.mem_of_getElem? hh)
  unfold dr
  rw [pick_free h2, Int.sub_zero]
  have nd : (frees n π).Nodup := List.nodup_range.filter _
  by_cases e : i = k
  · subst e
    have : f = h := Option.some.inj (hf.symm.trans hh)
    rw [if_pos rfl, if_pos this.symm]
    exact M.refl _
  · have : h ≠ f := fun z => by
      subst z
      obtain ⟨a1, a2⟩ := List.getElem?_eq_some_iff.mp hf
      obtain ⟨b1, b2⟩ := List.getElem?_eq_some_iff.mp hh
      exact e ((List.getElem_inj nd).mp (a2.trans b2.symm))
    rw [if_neg e, if_neg this]
    exact M.refl _
/-- what is at right angles to the rows is what the rows beside make -/
theorem dual_span {B : List Vc} {π : List Nat} (P : Piv p n B π) {v : Vc} : Span p n ((frees n π).map (dr B π)) v ↔ Perp p n (Span p n B) v := by
  have Q := dual_piv P
  constructor
  · intro h
    refine (perp_sub _).span (fun b hb => ?_) h
    obtain ⟨f, hf, rfl⟩ := List.mem_map.mp hb
    intro u hu
    rw [dt_comm]
    exact (perp_dual P).mpr hu f hf
  · intro h
    -- the rest is nought
    obtain ⟨u, hu⟩ : ∃ u : Vc, u = fun j => v j + (-1) * lin ((frees n π).map v) ((frees n π).map (dr B π)) j := ⟨_, rfl⟩
    have lsp : Span p n ((frees n π).map (dr B π)) (lin ((frees n π).map v) ((frees n π).map (dr B π))) := ⟨_, by simp, Eq'.refl _⟩
    have lp : Perp p n (Span p n B) (lin ((frees n π).map v) ((frees n π).map (dr B π))) := (perp_sub _).span (fun b hb => by
      obtain ⟨f, hf, rfl⟩ := List.mem_map.mp hb
      intro w hw
      rw [dt_comm]
      exact (perp_dual P).mpr hw f hf) lsp
    have up : Perp p n (Span p n B) u := by
      rw [hu]
      exact (perp_sub _).add h ((perp_sub _).mul (-1) lp)
    have uf : ∀ f ∈ frees n π, M p (u f) 0 := fun f hf => by
      obtain ⟨k, hk⟩ := at_idx hf
      have := lin_piv Q (cs := (frees n π).map v) (by simp) hk
      have e : ((frees n π).map v).getD k 0 = v f := by rw [List.getD_eq_getElem?_getD, List.getElem?_map, hk]; rfl
      rw [e] at this
      rw [hu]
      unfold M at this ⊢
      have := Int.dvd_neg.mpr this
      rwa [show -(lin ((frees n π).map v) ((frees n π).map (dr B π)) f - v f) = v f + (-1) * lin ((frees n π).map v) ((frees n π).map (dr B π)) f - 0 by omega] at this
    have u0 : Eq' p n u fun _ => 0 := fun j hj => by
      by_cases hm : j ∈ π
      · obtain ⟨i, hi⟩ := at_idx hm
        obtain ⟨b, hb⟩ := at_len P.len hi
        have d0 := up b (Span.mem (List.mem_of_getElem? hb))
        have e : M p (dt n b u) (sumN n fun k => if k = j then u k else 0) := sumN_M fun k hk => by
          by_cases e : k = j
          · subst e
            rw [if_pos rfl]
            have := P.del i i b k hb hi
            rw [if_pos rfl] at this
            have := M.mul this (M.refl (u k))
            rwa [Int.one_mul] at this
          · rw [if_neg e]
            by_cases hk2 : k ∈ π
            · obtain ⟨i', hi'⟩ := at_idx hk2
              have := P.del i i' b k hb hi'
              rw [if_neg (fun z => by subst z; exact e (Option.some.inj (hi'.symm.trans hi)))] at this
              have := M.mul this (M.refl (u k))
              rwa [Int.zero_mul] at this
            · have := M.mul (M.refl (b k)) (uf k (mem_frees.mpr ⟨hk, hk2⟩))
              rwa [Int.mul_zero] at this
        rw [sumN_one (fun k => u k), if_pos hj] at e
        exact e.symm.trans d0
      · exact uf j (mem_frees.mpr ⟨hj, hm⟩)
    refine lsp.of_eq fun j hj => ?_
    have := u0 j hj
    rw [hu] at this
    rwa [show v j + (-1) * lin ((frees n π).map v) ((frees n π).map (dr B π)) j - 0 = v j - lin ((frees n π).map v) ((frees n π).map (dr B π)) j by omega] at this
/-- twice beside leads back -/
theorem perp_perp {B : List Vc} {π : List Nat} (P : Piv p n B π) {v : Vc} : Perp p n (Perp p n (Span p n B)) v ↔ Span p n B v := by
  rw [← perp_dual P]
  constructor
  · intro h f hf
    exact h _ ((dual_span P).mp (Span.mem (List.mem_map.mpr ⟨f, hf, rfl⟩)))
  · intro h u hu
    have := (dual_span P).mpr hu
    exact perp_span.mpr (fun b hb => by
      obtain ⟨f, hf, rfl⟩ := List.mem_map.mp hb
      exact h f hf) u this
end
end LA

/-! Q29: how many rows. -/
namespace LA
section
variable {p : Int} {n : Nat}
/-! ### counting -/
theorem nodup_len {α : Type} [DecidableEq α] : ∀ {l m : List α}, l.Nodup → (∀ x ∈ l, x ∈ m) → l.length ≤ m.length
  | [], _, _, _ => Nat.zero_le _
  | x :: l, m, h, hs => by
    obtain ⟨h1, h2⟩ := List.nodup_cons.mp h
    have hx : x ∈ m := hs x List.mem_cons_self
    have := nodup_len (l := l) (m := m.erase x) h2 fun y hy => (List.mem_erase_of_ne (by rintro rfl; exact h1 hy)).mpr (hs y (List.mem_cons_of_mem _ hy))
    have e := List.length_erase_of_mem hx
    have : 0 < m.length := List.length_pos_of_mem hx
    rw [List.length_cons]
    omega
def allL (P : Nat) : Nat → List (List Int)
  | 0 => [[]]
  | k + 1 => (List.range P).flatMap fun x : Nat => (allL P k).map fun l => (x : Int) :: l
theorem allL_len (P : Nat) : ∀ k, (allL P k).length = P ^ k
  | 0 => rfl
  | k + 1 => by
    unfold allL
    have : ∀ l : List Nat, (l.flatMap fun x : Nat => (allL P k).map fun l => (x : Int) :: l).length = l.length * P ^ k := by
      intro l
      induction l with
      | nil => simp
      | cons x l ih =>
        rw [List.flatMap_cons, List.length_append, ih, List.length_map, allL_len P k, List.length_cons, Nat.add_mul, Nat.one_mul, Nat.add_comm]
    rw [this, List.length_range, Nat.pow_succ, Nat.mul_comm]
theorem mem_allL {P : Nat} : ∀ {k : Nat} {l : List Int}, l ∈ allL P k ↔ l.length = k ∧ ∀ x ∈ l, 0 ≤ x ∧ x < P
  | 0, l => by
    unfold allL
    rw [List.mem_singleton]
    constructor
    · rintro rfl
      exact ⟨rfl, fun x h => nomatch h⟩
    · rintro ⟨h, _⟩
      exact List.length_eq_zero_iff.mp h
  | k + 1, l => by
    unfold allL
    rw [List.mem_flatMap]
    constructor
    · rintro ⟨x, hx, h⟩
      obtain ⟨m, hm, rfl⟩ := List.mem_map.mp h
      obtain ⟨h1, h2⟩ := mem_allL.mp hm
      have hx := List.mem_range.mp hx
      refine ⟨by rw [List.length_cons, h1], fun y hy => ?_⟩
      rcases List.mem_cons.mp hy with e | hy
      · rw [e]; omega
      · exact h2 y hy
    · rintro ⟨h1, h2⟩
      cases l with
      | nil => cases h1
      | cons x m =>
        have hx := h2 x List.mem_cons_self
        refine ⟨x.toNat, List.mem_range.mpr (by omega), List.mem_map.mpr ⟨m, mem_allL.mpr ⟨by simpa using h1, fun y hy => h2 y (List.mem_cons_of_mem _ hy)⟩, ?_⟩⟩
        rw [Int.toNat_of_nonneg hx.1]
theorem nodup_flat {α β : Type} (f : α → List β) : ∀ {l : List α}, l.Nodup → (∀ x ∈ l, (f x).Nodup) → (∀ x ∈ l, ∀ y ∈ l, x ≠ y → ∀ z, z ∈ f x → z ∈ f y → False) → (l.flatMap f).Nodup
  | [], _, _, _ => List.nodup_nil
  | x :: l, h, h1, h2 => by
    obtain ⟨a, b⟩ := List.nodup_cons.mp h
    rw [List.flatMap_cons, List.nodup_append]
    refine ⟨h1 x List.mem_cons_self, nodup_flat f b (fun y hy => h1 y (List.mem_cons_of_mem _ hy)) (fun y hy z hz => h2 y (List.mem_cons_of_mem _ hy) z (List.mem_cons_of_mem _ hz)), fun z hz w hw e => ?_⟩
    subst e
    obtain ⟨y, hy, hzy⟩ := List.mem_flatMap.mp hw
    exact h2 x List.mem_cons_self y (List.mem_cons_of_mem _ hy) (by rintro rfl; exact a hy) z hz hzy
theorem nodup_map {α β : Type} {f : α → β} : ∀ {l : List α}, l.Nodup → (∀ x ∈ l, ∀ y ∈ l, f x = f y → x = y) → (l.map f).Nodup
  | [], _, _ => List.nodup_nil
  | x :: l, h, hi => by
    obtain ⟨a, b⟩ := List.nodup_cons.mp h
    rw [List.map_cons, List.nodup_cons]
    refine ⟨fun hm => ?_, nodup_map b fun y hy z hz => hi y (List.mem_cons_of_mem _ hy) z (List.mem_cons_of_mem _ hz)⟩
    obtain ⟨y, hy, e⟩ := List.mem_map.mp hm
    have := hi x List.mem_cons_self y (List.mem_cons_of_mem _ hy) e.symm
    subst this
    exact a hy
theorem allL_nodup (P : Nat) : ∀ k, (allL P k).Nodup
  | 0 => by unfold allL; simp
  | k + 1 => by
    unfold allL
    refine nodup_flat _ List.nodup_range (fun x _ => nodup_map (allL_nodup P k) fun l _ m _ e => (List.cons.inj e).2) fun x _ y _ hn z hz hw => ?_
    obtain ⟨l, _, rfl⟩ := List.mem_map.mp hz
    obtain ⟨m, _, e⟩ := List.mem_map.mp hw
    have := (List.cons.inj e).1
    exact hn (by omega)
/-! ### rows none of which the others make -/
def Ind (p : Int) (n : Nat) (C : List Vc) : Prop := ∀ cs : List Int, cs.length = C.length → Eq' p n (lin cs C) (fun _ => 0) → ∀ i, M p (cs.getD i 0) 0
theorem getD_zip (cs ds : List Int) (h : cs.length = ds.length) (i : Nat) : (List.zipWith (· + ·) cs ds).getD i 0 = cs.getD i 0 + ds.getD i 0 := by
  by_cases hi : i < cs.length
  · have hd : i < ds.length := by omega
    have h3 : (List.zipWith (· + ·) cs ds)[i]? = some (cs[i] + ds[i]) := by
      rw [List.getElem?_eq_getElem (by rw [List.length_zipWith]; omega), List.getElem_zipWith]
    simp only [List.getD, h3, List.getElem?_eq_getElem hi, List.getElem?_eq_getElem hd, Option.getD_some]
  · have hd : ¬ i < ds.length := by omega
    have h1 : cs[i]? = none := List.getElem?_eq_none (by omega)
    have h2 : ds[i]? = none := List.getElem?_eq_none (by omega)
    have h3 : (List.zipWith (· + ·) cs ds)[i]? = none := List.getElem?_eq_none (by rw [List.length_zipWith]; omega)
    simp [List.getD, h1, h2, h3]
theorem getD_map (t : Int) (cs : List Int) (i : Nat) : (cs.map (t * ·)).getD i 0 = t * cs.getD i 0 := by
  by_cases hi : i < cs.length
  · simp [List.getD, hi]
  · have h1 : cs[i]? = none := List.getElem?_eq_none (by omega)
    simp [List.getD, h1]
theorem ind_inj {C : List Vc} (hC : Ind p n C) {cs ds : List Int} (h1 : cs.length = C.length) (h2 : ds.length = C.length) (e : Eq' p n (lin cs C) (lin ds C)) (i : Nat) : M p (cs.getD i 0) (ds.getD i 0) := by
  have hl : cs.length = (ds.map ((-1) * ·)).length := by rw [List.length_map]; omega
  have := hC (List.zipWith (· + ·) cs (ds.map ((-1) * ·))) (by rw [List.length_zipWith, ← hl, Nat.min_self, h1]) (fun j hj => by
    show M p _ _
    rw [lin_add j _ _ h1 (by rw [List.length_map, h2]), lin_mul]
    have := e j hj
    unfold M
    rwa [show lin cs C j + -1 * lin ds C j - 0 = lin cs C j - lin ds C j by omega]) i
  rw [getD_zip _ _ hl, getD_map] at this
  unfold M at *
  rwa [show cs.getD i 0 + -1 * ds.getD i 0 - 0 = cs.getD i 0 - ds.getD i 0 by omega] at this
theorem ind_le (hp : 1 < p) {C D : List Vc} (hC : Ind p n C) (h : ∀ c ∈ C, Span p n D c) : C.length ≤ D.length := by
  have hP : (p.toNat : Int) = p := Int.toNat_of_nonneg (by omega)
  have ex : ∀ cs : List Int, ∃ ds : List Int, ds ∈ allL p.toNat D.length ∧ Eq' p n (lin cs C) (lin ds D) := by
    intro cs
    obtain ⟨ds, hl, e⟩ := (span_sub (p := p) (n := n) D).lin cs C h
    refine ⟨ds.map (· % p), mem_allL.mpr ⟨by rw [List.length_map, hl], fun x hx => ?_⟩, e.trans fun j hj => ?_⟩
    · obtain ⟨d, _, rfl⟩ := List.mem_map.mp hx
      rw [hP]
      exact ⟨Int.emod_nonneg _ (by omega), Int.emod_lt_of_pos _ (by omega)⟩
    · refine lin_M (by rw [List.length_map]) fun i => ?_
      by_cases hi : i < ds.length
      · have : (ds.map (· % p)).getD i 0 = ds.getD i 0 % p := by simp [List.getD, hi]
        rw [this]
        exact (M.emod _).symm
      · have h1 : ds[i]? = none := List.getElem?_eq_none (by omega)
        simp [List.getD, h1]
        exact M.refl _
  have hinj : ((allL p.toNat C.length).map fun cs => (ex cs).choose).Nodup := by
    refine nodup_map (allL_nodup _ _) fun cs hc ds hd e => ?_
    obtain ⟨c1, c2⟩ := mem_allL.mp hc
    obtain ⟨d1, d2⟩ := mem_allL.mp hd
    have e1 := (ex cs).choose_spec.2
    have e2 := (ex ds).choose_spec.2
    have e : (ex cs).choose = (ex ds).choose := e
    rw [e] at e1
    have key := ind_inj hC c1 d1 (e1.trans e2.symm)
    refine List.ext_getElem (by omega) fun i hi hj => ?_
    have k := key i
    have a1 : cs.getD i 0 = cs[i] := by simp [List.getD, hi]
    have a2 : ds.getD i 0 = ds[i] := by simp [List.getD, hj]
    rw [a1, a2] at k
    have b1 := c2 cs[i] (List.getElem_mem hi)
    have b2 := d2 ds[i] (List.getElem_mem hj)
    rw [hP] at b1 b2
    exact M.eq k b1 b2
  have := nodup_len hinj (m := allL p.toNat D.length) fun x hx => by
    obtain ⟨cs, _, rfl⟩ := List.mem_map.mp hx
    exact (ex cs).choose_spec.1
  rw [List.length_map, allL_len, allL_len] at this
  exact (Nat.pow_le_pow_iff_right (by omega)).mp this
theorem Piv.ind {B : List Vc} {π : List Nat} (P : Piv p n B π) : Ind p n B := fun cs hl e i => by
  by_cases hi : i < π.length
  · have a := lin_piv P hl (List.getElem?_eq_getElem hi)
    exact (M.symm a).trans (e _ (P.lt _ (List.getElem_mem hi)))
  · have h1 : cs[i]? = none := List.getElem?_eq_none (by rw [hl, ← P.len]; omega)
    have : cs.getD i 0 = 0 := by simp [List.getD, h1]
    rw [this]
    exact M.refl 0
/-- rows that make the same are as many -/
theorem piv_len (hp : 1 < p) {B C : List Vc} {π ρ : List Nat} (P : Piv p n B π) (Q : Piv p n C ρ) (h : ∀ v, Span p n B v ↔ Span p n C v) : B.length = C.length :=
  Nat.le_antisymm (ind_le hp P.ind fun b hb => (h b).mp (Span.mem hb)) (ind_le hp Q.ind fun c hc => (h c).mpr (Span.mem hc))
/-! ### the first item -/
theorem hd_ex {v : Vc} (h : ¬ Eq' p n v fun _ => 0) : ∃ k, Hd p n v k := by
  have : ∀ m, m ≤ n → (∀ j, j < m → M p (v j) 0) ∨ ∃ k, Hd p n v k := by
    intro m
    induction m with
    | zero => exact fun _ => .inl fun j hj => absurd hj (Nat.not_lt_zero j)
    | succ m ih =>
      intro hm
      rcases ih (by omega) with h0 | h0
      · by_cases hz : M p (v m) 0
        · exact .inl fun j hj => by
            by_cases hjm : j = m
            · rw [hjm]; exact hz
            · exact h0 j (by omega)
        · exact .inr ⟨m, by omega, hz, h0⟩
      · exact .inr h0
  rcases this n (Nat.le_refl n) with h0 | h0
  · exact absurd h0 h
  · exact h0
/-! ### some of the rows -/
theorem Piv.cons {b : Vc} {B : List Vc} {h : Nat} {π : List Nat} (P : Piv p n B π) (hn : h < n) (h1 : M p (b h) 1) (h2 : ∀ k ∈ π, M p (b k) 0) (h3 : ∀ c ∈ B, M p (c h) 0) : Piv p n (b :: B) (h :: π) := by
  refine ⟨by rw [List.length_cons, List.length_cons, P.len], fun x hx => ?_, fun i k c x hi hk => ?_⟩
  · rcases List.mem_cons.mp hx with rfl | hx
    · exact hn
    · exact P.lt x hx
  · cases i with
    | zero =>
      obtain rfl : b = c := by simpa using hi
      cases k with
      | zero =>
        obtain rfl : h = x := by simpa using hk
        exact h1
      | succ k =>
        rw [if_neg (by omega)]
        exact h2 x (List.mem_of_getElem? (by simpa using hk))
    | succ i =>
      have hi : B[i]? = some c := by simpa using hi
      cases k with
      | zero =>
        obtain rfl : h = x := by simpa using hk
        rw [if_neg (by omega)]
        exact h3 c (List.mem_of_getElem? hi)
      | succ k =>
        have := P.del i k c x hi (by simpa using hk)
        by_cases e : i = k
        · rw [if_pos (by omega)]; rwa [if_pos e] at this
        · rw [if_neg (by omega)]; rwa [if_neg e] at this
theorem Piv.parts {b : Vc} {B : List Vc} {h : Nat} {π : List Nat} (P : Piv p n (b :: B) (h :: π)) : h < n ∧ M p (b h) 1 ∧ (∀ k ∈ π, M p (b k) 0) ∧ ∀ c ∈ B, M p (c h) 0 := by
  refine ⟨P.lt h List.mem_cons_self, P.del 0 0 b h rfl rfl, fun k hk => ?_, fun c hc => ?_⟩
  · obtain ⟨i, hi⟩ := at_idx hk
    exact P.del 0 (i + 1) b k rfl (by simpa using hi)
  · obtain ⟨i, hi⟩ := at_idx hc
    exact P.del (i + 1) 0 c h (by simpa using hi) rfl
def selB (q : Nat → Bool) : List Vc → List Nat → List Vc
  | b :: B, h :: π => if q h then b :: selB q B π else selB q B π
  | _, _ => []
theorem sel_mem {q : Nat → Bool} : ∀ {B : List Vc} {π : List Nat} {c : Vc}, c ∈ selB q B π → c ∈ B
  | [], _, c, h => by cases h
  | b :: B, [], c, h => by cases h
  | b :: B, k :: π, c, h => by
    unfold selB at h
    split at h
    · rcases List.mem_cons.mp h with rfl | h
      · exact List.mem_cons_self
      · exact List.mem_cons_of_mem _ (sel_mem h)
    · exact List.mem_cons_of_mem _ (sel_mem h)
theorem sel_piv {q : Nat → Bool} : ∀ {B : List Vc} {π : List Nat}, Piv p n B π → Piv p n (selB q B π) (π.filter q)
  | [], [], P => P
  | [], _ :: _, P => absurd P.len (by simp)
  | _ :: _, [], P => absurd P.len (by simp)
  | b :: B, h :: π, P => by
    obtain ⟨h0, h1, h2, h3⟩ := P.parts
    have ih := sel_piv (q := q) P.tail
    unfold selB
    rw [List.filter_cons]
    split
    · exact ih.cons h0 h1 (fun k hk => h2 k (List.mem_filter.mp hk).1) fun c hc => h3 c (sel_mem hc)
    · exact ih
theorem sel_lin {q : Nat → Bool} {v : Vc} {j : Nat} : ∀ {B : List Vc} {π : List Nat}, B.length = π.length → (∀ h ∈ π, q h = false → M p (v h) 0) → M p (lin (π.map v) B j) (lin ((π.filter q).map v) (selB q B π) j)
  | [], [], _, _ => M.refl _
  | [], _ :: _, e, _ => by simp at e
  | _ :: _, [], e, _ => by simp at e
  | b :: B, h :: π, e, hz => by
    have ih := sel_lin (q := q) (v := v) (j := j) (B := B) (π := π) (by simpa using e) fun k hk => hz k (List.mem_cons_of_mem _ hk)
    unfold selB
    rw [List.filter_cons]
    cases hq : q h with
    | true =>
      simp only [if_true, List.map_cons, lin]
      exact M.add (M.refl _) ih
    | false =>
      simp only [Bool.false_eq_true, if_false, List.map_cons, lin]
      have := M.add (M.mul (hz h List.mem_cons_self hq) (M.refl (b j))) ih
      simpa using this
/-- what some of the rows make has nought at the other places -/
theorem sel_zero {q : Nat → Bool} {B : List Vc} {π : List Nat} (P : Piv p n B π) (nd : π.Nodup) {v : Vc} (hv : Span p n (selB q B π) v) {h : Nat} (hh : h ∈ π) (hq : q h = false) : M p (v h) 0 := by
  have hb : ∀ {B : List Vc} {π : List Nat}, Piv p n B π → π.Nodup → h ∈ π → ∀ c ∈ selB q B π, M p (c h) 0 := by
    intro B
    induction B with
    | nil => intro π _ _ _ c hc; cases hc
    | cons b B ih =>
      intro π P nd hm c hc
      cases π with
      | nil => cases hm
      | cons k π =>
        obtain ⟨h0, h1, h2, h3⟩ := P.parts
        obtain ⟨n1, n2⟩ := List.nodup_cons.mp nd
        unfold selB at hc
        rcases List.mem_cons.mp hm with rfl | hm
        · rw [hq] at hc
          exact h3 c (sel_mem (by simpa using hc))
        · split at hc
          · rcases List.mem_cons.mp hc with rfl | hc
            · exact h2 h hm
            · exact ih P.tail n2 hm c hc
          · exact ih P.tail n2 hm c hc
  have hlt := P.lt h hh
  have S : Sub p n fun u => M p (u h) 0 := ⟨fun {u v} hu e => M.trans (e h hlt) hu, M.refl 0, fun {u v} hu hv => by
    have := M.add hu hv
    simpa using this, fun t {u} hu => by
    have := M.mul (M.refl t) hu
    simpa using this⟩
  exact S.span (hb P nd hh) hv
/-! ### joined and met -/
theorem lin_app {j : Nat} : ∀ {cs : List Int} {B : List Vc} (ds : List Int) (C : List Vc), cs.length = B.length → lin (cs ++ ds) (B ++ C) j = lin cs B j + lin ds C j
  | [], [], ds, C, _ => by simp [lin]
  | [], _ :: _, _, _, e => by simp at e
  | _ :: _, [], _, _, e => by simp at e
  | c :: cs, b :: B, ds, C, e => by
    simp only [List.cons_append, lin]
    rw [lin_app (cs := cs) (B := B) ds C (by simpa using e)]
    omega
theorem span_app {B C : List Vc} {v : Vc} : Span p n (B ++ C) v ↔ ∃ u w, Span p n B u ∧ Span p n C w ∧ Eq' p n v fun j => u j + w j := by
  constructor
  · rintro ⟨cs, hl, e⟩
    rw [List.length_append] at hl
    have h1 : (cs.take B.length).length = B.length := by rw [List.length_take]; omega
    refine ⟨lin (cs.take B.length) B, lin (cs.drop B.length) C, ⟨_, h1, Eq'.refl _⟩, ⟨_, by rw [List.length_drop]; omega, Eq'.refl _⟩, fun j hj => ?_⟩
    have := e j hj
    rw [← List.take_append_drop B.length cs, lin_app _ _ h1] at this
    exact this
  · rintro ⟨u, w, ⟨cs, hl, e⟩, ⟨ds, hm, k⟩, h⟩
    refine ⟨cs ++ ds, by rw [List.length_append, List.length_append, hl, hm], fun j hj => ?_⟩
    show M p _ _
    rw [lin_app _ _ hl]
    exact M.trans (h j hj) (M.add (e j hj) (k j hj))
theorem filt_split {α : Type} (q : α → Bool) : ∀ l : List α, (l.filter q).length + (l.filter fun x => !q x).length = l.length
  | [] => rfl
  | x :: l => by
    have := filt_split q l
    rw [List.filter_cons, List.filter_cons]
    cases q x <;> simp <;> omega
theorem nodup_inc {l : List Nat} (h : l.Pairwise (· < ·)) : l.Nodup := h.imp fun h => Nat.ne_of_lt h
theorem Rref.nd {B : List Vc} {π : List Nat} (R : Rref p n B π) : π.Nodup := nodup_inc R.inc
theorem dim_sum (hp : 1 < p) {B C E J : List Vc} {π ρ ε σ : List Nat} (R : Rref p n B π) (S : Rref p n C ρ) (T : Rref p n E ε) (hE : ∀ v, Span p n E v ↔ Span p n B v ∧ Span p n C v) (Q : Rref p n J σ) (hJ : ∀ v, Span p n J v ↔ Span p n (B ++ C) v) :
    J.length + E.length = B.length + C.length := by
  have sub : ∀ x ∈ ε, x ∈ π := T.sub_heads hp R fun v hv => ((hE v).mp hv).1
  let q : Nat → Bool := fun h => !ε.contains h
  have P' := sel_piv (q := q) R.toPiv
  have le : ε.length + (π.filter q).length = π.length := by
    have h1 := filt_split (fun h => ε.contains h) π
    have h2 : π.filter (fun h => ε.contains h) = ε := inc_eq (R.inc.filter _) T.inc fun x => by
      rw [List.mem_filter, List.contains_iff_mem]
      exact ⟨fun h => h.2, fun h => ⟨sub x h, h⟩⟩
    rw [h2] at h1
    exact h1
  -- none makes another one
  have ind : Ind p n (selB q B π ++ C) := by
    intro cs hl e i
    rw [List.length_append] at hl
    have hl1 : (cs.take (selB q B π).length).length = (selB q B π).length := by rw [List.length_take]; omega
    have hl2 : (cs.drop (selB q B π).length).length = C.length := by rw [List.length_drop]; omega
    have e' : ∀ j, j < n → M p (lin (cs.take (selB q B π).length) (selB q B π) j + lin (cs.drop (selB q B π).length) C j) 0 := fun j hj => by
      have := e j hj
      rw [← List.take_append_drop (selB q B π).length cs, lin_app _ _ hl1] at this
      exact this
    have v1 : Span p n (selB q B π) (lin (cs.take (selB q B π).length) (selB q B π)) := ⟨_, hl1, Eq'.refl _⟩
    have v2 : Span p n B (lin (cs.take (selB q B π).length) (selB q B π)) := (span_sub B).span (fun b hb => Span.mem (sel_mem hb)) v1
    have v3 : Span p n C (lin (cs.take (selB q B π).length) (selB q B π)) := by
      have w : Span p n C (lin (cs.drop (selB q B π).length) C) := ⟨_, hl2, Eq'.refl _⟩
      refine (w.mul (-1)).of_eq fun j hj => ?_
      have := e' j hj
      unfold M at this
      rwa [show lin (cs.take (selB q B π).length) (selB q B π) j - -1 * lin (cs.drop (selB q B π).length) C j = lin (cs.take (selB q B π).length) (selB q B π) j + lin (cs.drop (selB q B π).length) C j - 0 by omega]
    have z : Eq' p n (lin (cs.take (selB q B π).length) (selB q B π)) fun _ => 0 := by
      apply Classical.byContradiction
      intro hz
      obtain ⟨h, hh⟩ := hd_ex hz
      have he := T.head ((hE _).mpr ⟨v2, v3⟩) hh
      exact hh.2.1 (sel_zero R.toPiv R.nd v1 (sub h he) (by show (!ε.contains h) = false; rw [List.contains_iff_mem.mpr he]; rfl))
    have k1 := P'.ind _ hl1 z
    have k2 := S.toPiv.ind _ hl2 fun j hj => by
      have a := e' j hj
      have b := z j hj
      have := M.sub a b
      show M p _ _
      have e3 : lin (cs.take (selB q B π).length) (selB q B π) j + lin (cs.drop (selB q B π).length) C j - lin (cs.take (selB q B π).length) (selB q B π) j = lin (cs.drop (selB q B π).length) C j := by omega
      rw [e3] at this
      simpa using this
    by_cases hi : i < (selB q B π).length
    · have := k1 i
      have e4 : (cs.take (selB q B π).length).getD i 0 = cs.getD i 0 := by simp [List.getD, List.getElem?_take, hi]
      rwa [e4] at this
    · have := k2 (i - (selB q B π).length)
      have e4 : (cs.drop (selB q B π).length).getD (i - (selB q B π).length) 0 = cs.getD i 0 := by
        simp only [List.getD, List.getElem?_drop]
        rw [show (selB q B π).length + (i - (selB q B π).length) = i by omega]
      rwa [e4] at this
  -- they make all
  have all : ∀ v, Span p n (B ++ C) v → Span p n (selB q B π ++ C) v := by
    intro v hv
    refine (span_sub _).span (fun b hb => ?_) hv
    rcases List.mem_append.mp hb with hb | hb
    · -- a row of the first
      have hbs : Span p n B b := Span.mem hb
      let t := lin (ε.map b) E
      have ht : Span p n E t := ⟨_, by rw [List.length_map, T.len], Eq'.refl _⟩
      obtain ⟨t1, t2⟩ := (hE t).mp ht
      have hu : Span p n B fun j => b j + -1 * t j := hbs.add (t1.mul (-1))
      have hz : ∀ h ∈ π, q h = false → M p ((fun j => b j + -1 * t j) h) 0 := by
        intro h hh hq
        have he : h ∈ ε := by
          have : (!ε.contains h) = false := hq
          apply List.contains_iff_mem.mp
          cases hc : ε.contains h with
          | true => rfl
          | false => rw [hc] at this; cases this
        obtain ⟨k, hk⟩ := at_idx he
        have a := lin_piv T.toPiv (cs := ε.map b) (by rw [List.length_map, T.len]) hk
        have e5 : (ε.map b).getD k 0 = b h := by simp [List.getD, List.getElem?_map, hk]
        rw [e5] at a
        have := M.add (M.refl (p := p) (b h)) (M.mul (M.refl (-1)) a)
        have e6 : b h + -1 * b h = 0 := by omega
        rwa [e6] at this
      have hu2 : Span p n (selB q B π) fun j => b j + -1 * t j := ⟨(π.filter q).map fun j => b j + -1 * t j, by rw [List.length_map, P'.len], fun j hj => M.trans (coords R.toPiv hu j hj) (sel_lin R.len.symm hz)⟩
      refine span_app.mpr ⟨_, t, hu2, t2, fun j _ => ?_⟩
      have e7 : b j + -1 * t j + t j = b j := by omega
      show M p (b j) (b j + -1 * t j + t j)
      rw [e7]
      exact M.refl _
    · exact Span.mem (List.mem_append_right _ hb)
  have l1 : J.length = (selB q B π ++ C).length := Nat.le_antisymm
    (ind_le hp Q.toPiv.ind fun b hb => all b ((hJ b).mp (Span.mem hb)))
    (ind_le hp ind fun b hb => (hJ b).mpr (by
      rcases List.mem_append.mp hb with hb | hb
      · exact Span.mem (List.mem_append_left _ (sel_mem hb))
      · exact Span.mem (List.mem_append_right _ hb)))
  rw [List.length_append] at l1
  have h1 := P'.len
  have h2 := R.len
  have h3 := T.len
  omega
theorem frees_len {B : List Vc} {π : List Nat} (R : Rref p n B π) : (frees n π).length + B.length = n := by
  have h1 := filt_split (fun j => !π.contains j) (List.range n)
  have h2 : (List.range n).filter (fun j => !!π.contains j) = π := inc_eq (List.pairwise_lt_range.filter _) R.inc fun x => by
    rw [List.mem_filter, Bool.not_not, List.contains_iff_mem, List.mem_range]
    exact ⟨fun h => h.2, fun h => ⟨R.lt x h, h⟩⟩
  rw [h2, List.length_range] at h1
  have := R.len
  unfold frees
  omega
theorem rref_le {B : List Vc} {π : List Nat} (R : Rref p n B π) : B.length ≤ n := by have := frees_len R; omega
/-- one within the other -/
theorem sub_len (hp : 1 < p) {B C : List Vc} {π ρ : List Nat} (R : Rref p n B π) (S : Rref p n C ρ) (h : ∀ v, Span p n B v → Span p n C v) (hl : B.length = C.length) : ∀ v, Span p n C v → Span p n B v := by
  have sub := R.sub_heads hp S h
  have e : π = ρ := by
    refine inc_eq R.inc S.inc fun x => ⟨sub x, fun hx => ?_⟩
    apply Classical.byContradiction
    intro hn
    have := nodup_len (l := x :: π) (m := ρ) (List.nodup_cons.mpr ⟨hn, R.nd⟩) fun y hy => by
      rcases List.mem_cons.mp hy with rfl | hy
      · exact hx
      · exact sub y hy
    rw [List.length_cons, R.len, S.len] at this
    omega
  subst e
  intro v hv
  refine (span_sub B).span (fun c hc => ?_) hv
  obtain ⟨i, hi⟩ := at_idx hc
  obtain ⟨x, hx⟩ := at_len S.len.symm hi
  obtain ⟨b, hb⟩ := at_len R.len hx
  have hbC := h b (Span.mem (List.mem_of_getElem? hb))
  refine Span.of_eq (Span.mem (List.mem_of_getElem? hb)) ?_
  have e1 := coords S.toPiv hbC
  have e2 := coords S.toPiv (Span.mem hc)
  refine e2.trans (Eq'.trans (fun j hj => lin_M (by simp) fun k => ?_) e1.symm)
  rw [List.getD_eq_getElem?_getD, List.getD_eq_getElem?_getD, List.getElem?_map, List.getElem?_map]
  cases hk : π[k]? with
  | none => exact M.refl _
  | some y => exact (S.del i k c y hi hk).trans (R.del i k b y hb hk).symm
end
end LA

/-! Q31: rows cleared by a row. -/
namespace LA
/-- all items numbers of the field -/
def Red (p : Int) (n : Nat) (v : Vc) : Prop := ∀ j, j < n → 0 ≤ v j ∧ v j < p
/-- cleared at h by t -/
def clr (p : Int) (h : Nat) (t o : Vc) : Vc := fun j => (o j - o h * t j) % p
/-- times c -/
def scl (p c : Int) (o : Vc) : Vc := fun j => (c * o j) % p
section
variable {p : Int} {n : Nat}
theorem clr_M {h : Nat} {t o : Vc} (j : Nat) : M p (clr p h t o j) (o j - o h * t j) := M.emod _
theorem scl_M {c : Int} {o : Vc} (j : Nat) : M p (scl p c o j) (c * o j) := M.emod _
theorem clr_red (hp : 0 < p) {h : Nat} {t o : Vc} : Red p n (clr p h t o) := fun j _ => ⟨Int.emod_nonneg _ (by omega), Int.emod_lt_of_pos _ hp⟩
theorem scl_red (hp : 0 < p) {c : Int} {o : Vc} : Red p n (scl p c o) := fun j _ => ⟨Int.emod_nonneg _ (by omega), Int.emod_lt_of_pos _ hp⟩
theorem Red.zero {v : Vc} (r : Red p n v) {j : Nat} (hj : j < n) (h : M p (v j) 0) (hp : 0 < p) : v j = 0 := M.eq h (r j hj) (by omega)
theorem clr_same {h : Nat} {t o : Vc} (r : Red p n o) (hz : o h = 0) : ∀ j, j < n → clr p h t o j = o j := fun j hj => by
  unfold clr
  rw [hz, Int.zero_mul, Int.sub_zero]
  exact Int.emod_eq_of_lt (r j hj).1 (r j hj).2
theorem Sub.clr {S : Vc → Prop} (h : Sub p n S) {k : Nat} {t o : Vc} (ht : S t) (ho : S o) : S (clr p k t o) := by
  refine h.eq (h.add ho (h.mul (-(o k)) ht)) fun j _ => ?_
  have := clr_M (p := p) (h := k) (t := t) (o := o) j
  rwa [show o j - o k * t j = o j + -(o k) * t j by rw [Int.neg_mul]; omega] at this
theorem Sub.unclr {S : Vc → Prop} (h : Sub p n S) {k : Nat} {t o : Vc} (ht : S t) (ho : S (LA.clr p k t o)) : S o := by
  refine h.eq (h.add ho (h.mul (o k) ht)) fun j _ => ?_
  have := M.add (clr_M (p := p) (h := k) (t := t) (o := o) j) (M.refl (o k * t j))
  rw [show o j - o k * t j + o k * t j = o j by omega] at this
  exact this.symm
theorem Sub.scl {S : Vc → Prop} (h : Sub p n S) {c : Int} {o : Vc} (ho : S o) : S (scl p c o) := h.eq (h.mul c ho) fun j _ => scl_M j
theorem Sub.unscl {S : Vc → Prop} (h : Sub p n S) {c d : Int} (hc : M p (d * c) 1) {o : Vc} (ho : S (LA.scl p c o)) : S o := by
  refine h.eq (h.mul d ho) fun j _ => ?_
  have h1 := M.mul (M.refl d) (scl_M (p := p) (c := c) (o := o) j)
  have h2 := M.mul hc (M.refl (o j))
  rw [← Int.mul_assoc] at h1
  rw [Int.one_mul] at h2
  exact (h1.trans h2).symm
/-! ### places and rows -/
structure Gd (p : Int) (n : Nat) (L : List (Nat × Vc)) : Prop where
  lt : ∀ q ∈ L, q.1 < n
  one : ∀ q ∈ L, M p (q.2 q.1) 1
  lead : ∀ q ∈ L, ∀ j, j < q.1 → M p (q.2 j) 0
  off : ∀ q ∈ L, ∀ r ∈ L, q.1 ≠ r.1 → M p (q.2 r.1) 0
  nd : (L.map Prod.fst).Nodup
theorem Gd.nil : Gd p n [] := ⟨(fun _ h => nomatch h), (fun _ h => nomatch h), (fun _ h => nomatch h), (fun _ h => nomatch h), List.nodup_nil⟩
theorem Gd.perm {L L' : List (Nat × Vc)} (h : L.Perm L') (G : Gd p n L) : Gd p n L' :=
  ⟨fun q hq => G.lt q (h.mem_iff.mpr hq), fun q hq => G.one q (h.mem_iff.mpr hq), fun q hq => G.lead q (h.mem_iff.mpr hq), fun q hq r hr => G.off q (h.mem_iff.mpr hq) r (h.mem_iff.mpr hr), (h.map Prod.fst).nodup_iff.mp G.nd⟩
theorem Gd.rref {L : List (Nat × Vc)} (G : Gd p n L) (hs : (L.map Prod.fst).Pairwise (· < ·)) : Rref p n (L.map Prod.snd) (L.map Prod.fst) := by
  refine { len := by simp, lt := fun h hh => ?_, del := fun i k b h hb hh => ?_, inc := hs, lead := fun i b h hb hh => ?_ }
  · obtain ⟨q, hq, rfl⟩ := List.mem_map.mp hh
    exact G.lt q hq
  · rw [List.getElem?_map] at hb hh
    obtain ⟨q, hq, rfl⟩ := Option.map_eq_some_iff.mp hb
    obtain ⟨r, hr, rfl⟩ := Option.map_eq_some_iff.mp hh
    by_cases e : i = k
    · subst e
      obtain rfl : q = r := Option.some.inj (hq.symm.trans hr)
      rw [if_pos rfl]
      exact G.one q (List.mem_of_getElem? hq)
    · rw [if_neg e]
      refine G.off q (List.mem_of_getElem? hq) r (List.mem_of_getElem? hr) fun e2 => e ?_
      obtain ⟨hi, e3⟩ := List.getElem?_eq_some_iff.mp hq
      obtain ⟨hk, e4⟩ := List.getElem?_eq_some_iff.mp hr
      exact (List.getElem_inj (i := i) (j := k) (h₀ := by rw [List.length_map]; exact hi) (h₁ := by rw [List.length_map]; exact hk) G.nd).mp (by rw [List.getElem_map, List.getElem_map, e3, e4]; exact e2)
  · rw [List.getElem?_map] at hb hh
    obtain ⟨q, hq, rfl⟩ := Option.map_eq_some_iff.mp hb
    obtain ⟨r, hr, rfl⟩ := Option.map_eq_some_iff.mp hh
    obtain rfl : q = r := Option.some.inj (hq.symm.trans hr)
    exact G.lead q (List.mem_of_getElem? hq)
theorem zip_fst {α β : Type} : ∀ {l : List α} {m : List β}, l.length = m.length → (l.zip m).map Prod.fst = l ∧ (l.zip m).map Prod.snd = m
  | [], [], _ => ⟨rfl, rfl⟩
  | [], _ :: _, h => nomatch h
  | _ :: _, [], h => nomatch h
  | x :: l, y :: m, h => by
    obtain ⟨h1, h2⟩ := zip_fst (l := l) (m := m) (by simpa using h)
    exact ⟨by simp only [List.zip_cons_cons, List.map_cons, h1], by simp only [List.zip_cons_cons, List.map_cons, h2]⟩
theorem Rref.gd {B : List Vc} {π : List Nat} (R : Rref p n B π) : Gd p n (π.zip B) := by
  have at_ : ∀ q ∈ π.zip B, ∃ i : Nat, π[i]? = some q.1 ∧ B[i]? = some q.2 := fun q hq => by
    obtain ⟨i, hi⟩ := at_idx hq
    rw [List.getElem?_zip_eq_some] at hi
    exact ⟨i, hi⟩
  refine ⟨fun q hq => ?_, fun q hq => ?_, fun q hq => ?_, fun q hq r hr hn => ?_, ?_⟩
  · obtain ⟨i, h1, h2⟩ := at_ q hq
    exact R.lt _ (List.mem_of_getElem? h1)
  · obtain ⟨i, h1, h2⟩ := at_ q hq
    have := R.del i i _ _ h2 h1
    rwa [if_pos rfl] at this
  · obtain ⟨i, h1, h2⟩ := at_ q hq
    exact R.lead i _ _ h2 h1
  · obtain ⟨i, h1, h2⟩ := at_ q hq
    obtain ⟨k, h3, h4⟩ := at_ r hr
    have := R.del i k _ _ h2 h3
    rwa [if_neg (by rintro rfl; exact hn (Option.some.inj (h1.symm.trans h3)))] at this
  · rw [(zip_fst R.len).1]
    exact R.nd
/-- a further row -/
theorem Gd.add (hp : 1 < p) {L : List (Nat × Vc)} (G : Gd p n L) {h : Nat} {t : Vc} (hn : h < n) (h1 : M p (t h) 1) (h2 : ∀ j, j < h → M p (t j) 0) (h3 : ∀ q ∈ L, M p (t q.1) 0) : Gd p n ((h, t) :: L.map fun q => (q.1, clr p h t q.2)) := by
  have ne : ∀ q ∈ L, q.1 ≠ h := fun q hq e => by
    have := h3 q hq
    rw [e] at this
    exact one_not hp (h1.symm.trans this)
  have c0 : ∀ q ∈ L, ∀ j, M p (t j) 0 → M p (q.2 j) 0 → M p (clr p h t q.2 j) 0 := fun q _ j a b => by
    have := M.sub b (M.mul (M.refl (q.2 h)) a)
    rw [Int.mul_zero, Int.sub_zero] at this
    exact (clr_M j).trans this
  refine ⟨fun q hq => ?_, fun q hq => ?_, fun q hq j hj => ?_, fun q hq r hr hne => ?_, ?_⟩
  · rcases List.mem_cons.mp hq with rfl | hq
    · exact hn
    · obtain ⟨q0, h0, rfl⟩ := List.mem_map.mp hq
      exact G.lt q0 h0
  · rcases List.mem_cons.mp hq with rfl | hq
    · exact h1
    · obtain ⟨q0, h0, rfl⟩ := List.mem_map.mp hq
      have := M.sub (G.one q0 h0) (M.mul (M.refl (q0.2 h)) (h3 q0 h0))
      rw [Int.mul_zero, Int.sub_zero] at this
      exact (clr_M _).trans this
  · rcases List.mem_cons.mp hq with rfl | hq
    · exact h2 j hj
    · obtain ⟨q0, h0, rfl⟩ := List.mem_map.mp hq
      have hj : j < q0.1 := hj
      rcases Nat.lt_trichotomy h q0.1 with hl | he | hg
      · have a := G.lead q0 h0 h hl
        have := M.sub (G.lead q0 h0 j hj) (M.mul a (M.refl (t j)))
        rw [Int.zero_mul, Int.sub_zero] at this
        exact (clr_M j).trans this
      · exact absurd he.symm (ne q0 h0)
      · exact c0 q0 h0 j (h2 j (by omega)) (G.lead q0 h0 j hj)
  · rcases List.mem_cons.mp hq with rfl | hq
    · rcases List.mem_cons.mp hr with rfl | hr
      · exact absurd rfl hne
      · obtain ⟨r0, k0, rfl⟩ := List.mem_map.mp hr
        exact h3 r0 k0
    · obtain ⟨q0, h0, rfl⟩ := List.mem_map.mp hq
      rcases List.mem_cons.mp hr with rfl | hr
      · have := M.sub (M.refl (p := p) (q0.2 h)) (M.mul (M.refl (q0.2 h)) h1)
        rw [Int.mul_one, Int.sub_self] at this
        exact (clr_M h).trans this
      · obtain ⟨r0, k0, rfl⟩ := List.mem_map.mp hr
        exact c0 q0 h0 r0.1 (h3 r0 k0) (G.off q0 h0 r0 k0 hne)
  · rw [List.map_cons, List.map_map]
    refine List.nodup_cons.mpr ⟨fun hm => ?_, G.nd⟩
    obtain ⟨q, hq, e⟩ := List.mem_map.mp hm
    exact ne q hq e
theorem add_span {L : List (Nat × Vc)} {h : Nat} {t : Vc} (x : Vc) : Span p n (((h, t) :: L.map fun q => (q.1, clr p h t q.2)).map Prod.snd) x ↔ Span p n (t :: L.map Prod.snd) x := by
  constructor
  · refine fun hx => (span_sub _).span (fun b hb => ?_) hx
    obtain ⟨q, hq, rfl⟩ := List.mem_map.mp hb
    rcases List.mem_cons.mp hq with rfl | hq
    · exact Span.mem List.mem_cons_self
    · obtain ⟨q0, h0, rfl⟩ := List.mem_map.mp hq
      exact (span_sub _).clr (Span.mem List.mem_cons_self) (Span.mem (List.mem_cons_of_mem _ (List.mem_map.mpr ⟨q0, h0, rfl⟩)))
  · refine fun hx => (span_sub _).span (fun b hb => ?_) hx
    have ht : Span p n (((h, t) :: L.map fun q => (q.1, clr p h t q.2)).map Prod.snd) t := Span.mem (List.mem_map.mpr ⟨(h, t), List.mem_cons_self, rfl⟩)
    rcases List.mem_cons.mp hb with rfl | hb
    · exact ht
    · obtain ⟨q0, h0, rfl⟩ := List.mem_map.mp hb
      exact (span_sub _).unclr ht (Span.mem (List.mem_map.mpr ⟨(q0.1, clr p h t q0.2), List.mem_cons_of_mem _ (List.mem_map.mpr ⟨q0, h0, rfl⟩), rfl⟩))
/-! ### a row reduced -/
def redF (p : Int) : List (Nat × Vc) → Vc → Vc
  | [], v => v
  | q :: L, v => redF p L (clr p q.1 q.2 v)
theorem redF_red (hp : 0 < p) : ∀ {L : List (Nat × Vc)} {v : Vc}, Red p n v → Red p n (redF p L v)
  | [], _, h => h
  | q :: L, v, _ => redF_red hp (L := L) (clr_red hp)
theorem redF_sub {S : Vc → Prop} (h : Sub p n S) : ∀ {L : List (Nat × Vc)} {v : Vc}, (∀ q ∈ L, S q.2) → (S (redF p L v) ↔ S v)
  | [], _, _ => Iff.rfl
  | q :: L, v, hL => (redF_sub h (L := L) fun r hr => hL r (List.mem_cons_of_mem _ hr)).trans ⟨fun k => h.unclr (hL q List.mem_cons_self) k, fun k => h.clr (hL q List.mem_cons_self) k⟩
theorem redF_keep {k : Nat} : ∀ {L : List (Nat × Vc)} {v : Vc}, (∀ q ∈ L, M p (q.2 k) 0) → M p (v k) 0 → M p (redF p L v k) 0
  | [], _, _, h => h
  | q :: L, v, hL, h => redF_keep (L := L) (fun r hr => hL r (List.mem_cons_of_mem _ hr)) (by
    have := M.sub h (M.mul (M.refl (v q.1)) (hL q List.mem_cons_self))
    rw [Int.mul_zero, Int.sub_zero] at this
    exact (clr_M k).trans this)
theorem redF_zero : ∀ {L : List (Nat × Vc)} {v : Vc}, (∀ q ∈ L, M p (q.2 q.1) 1) → (∀ q ∈ L, ∀ r ∈ L, q.1 ≠ r.1 → M p (q.2 r.1) 0) → (L.map Prod.fst).Nodup → ∀ q ∈ L, M p (redF p L v q.1) 0
  | [], _, _, _, _, q, hq => nomatch hq
  | r :: L, v, h1, h2, hn, q, hq => by
    obtain ⟨n1, n2⟩ := List.nodup_cons.mp hn
    rcases List.mem_cons.mp hq with rfl | hq
    · refine redF_keep (L := L) (fun s hs => h2 s (List.mem_cons_of_mem _ hs) q List.mem_cons_self fun e => n1 (List.mem_map.mpr ⟨s, hs, e⟩)) ?_
      have := M.sub (M.refl (p := p) (v q.1)) (M.mul (M.refl (v q.1)) (h1 q List.mem_cons_self))
      rw [Int.mul_one, Int.sub_self] at this
      exact (clr_M q.1).trans this
    · exact redF_zero (fun s hs => h1 s (List.mem_cons_of_mem _ hs)) (fun s hs u hu => h2 s (List.mem_cons_of_mem _ hs) u (List.mem_cons_of_mem _ hu)) n2 q hq
/-- within the span: nothing is left -/
theorem redF_in {B : List Vc} {π : List Nat} (R : Rref p n B π) {v : Vc} : Eq' p n (redF p (π.zip B) v) (fun _ => 0) ↔ Span p n B v := by
  have G := R.gd
  have e : ∀ q ∈ π.zip B, Span p n B q.2 := fun q hq => Span.mem (by
    have : q.2 ∈ (π.zip B).map Prod.snd := List.mem_map.mpr ⟨q, hq, rfl⟩
    rw [(zip_fst R.len).2] at this
    exact this)
  have s := redF_sub (span_sub (p := p) (n := n) B) (L := π.zip B) (v := v) e
  constructor
  · intro h
    exact s.mp (Span.zero.of_eq h)
  · intro h
    have h2 := s.mpr h
    refine (coords R.toPiv h2).trans fun j hj => ?_
    refine lin_0 fun i c b hc hb => ?_
    rw [List.getElem?_map] at hc
    obtain ⟨k, hk, rfl⟩ := Option.map_eq_some_iff.mp hc
    have : k ∈ (π.zip B).map Prod.fst := by rw [(zip_fst R.len).1]; exact List.mem_of_getElem? hk
    obtain ⟨q, hq, rfl⟩ := List.mem_map.mp this
    have := M.mul (redF_zero G.one G.off G.nd q hq (v := v)) (M.refl (b j))
    rwa [Int.zero_mul] at this
end
end LA

/-! Q32: rows led on: as many as are not led to nought. -/
namespace LA
section
variable {p : Int} {n : Nat}
/-- what leads sums to sums -/
structure Lin (p : Int) (n : Nat) (φ : Vc → Vc) : Prop where
  eq : ∀ {u v}, Eq' p n u v → Eq' p n (φ u) (φ v)
  add : ∀ u v, Eq' p n (φ fun j => u j + v j) fun j => φ u j + φ v j
  mul : ∀ (t : Int) u, Eq' p n (φ fun j => t * u j) fun j => t * φ u j
variable {φ : Vc → Vc}
theorem Lin.zero (L : Lin p n φ) : Eq' p n (φ fun _ => 0) fun _ => 0 := by
  have := L.mul 0 (fun _ => 0)
  refine (L.eq fun j _ => ?_).trans (this.trans fun j _ => ?_)
  · show M p 0 (0 * 0)
    rw [Int.zero_mul]; exact M.refl 0
  · show M p (0 * _) 0
    rw [Int.zero_mul]; exact M.refl 0
theorem Lin.lin (L : Lin p n φ) : ∀ (cs : List Int) (B : List Vc), Eq' p n (φ (LA.lin cs B)) (LA.lin cs (B.map φ))
  | [], B => by cases B <;> exact L.zero
  | c :: cs, [] => L.zero
  | c :: cs, b :: B => by
    refine (L.add (fun j => c * b j) (LA.lin cs B)).trans fun j hj => ?_
    exact M.add (L.mul c b j hj) (L.lin cs B j hj)
theorem Lin.span (L : Lin p n φ) {B : List Vc} {v : Vc} (h : Span p n B v) : Span p n (B.map φ) (φ v) := by
  obtain ⟨cs, hl, e⟩ := h
  exact ⟨cs, by rw [List.length_map, hl], (L.eq e).trans (L.lin cs B)⟩
theorem Lin.image (L : Lin p n φ) {B : List Vc} {w : Vc} : Span p n (B.map φ) w ↔ ∃ v, Span p n B v ∧ Eq' p n w (φ v) := by
  constructor
  · rintro ⟨cs, hl, e⟩
    exact ⟨LA.lin cs B, ⟨cs, by rw [hl, List.length_map], Eq'.refl _⟩, e.trans (L.lin cs B).symm⟩
  · rintro ⟨v, hv, e⟩
    exact (L.span hv).of_eq e
theorem rank (hp : 1 < p) (L : Lin p n φ) {B E I : List Vc} {π ε σ : List Nat} (R : Rref p n B π) (T : Rref p n E ε) (hE : ∀ v, Span p n E v ↔ Span p n B v ∧ Eq' p n (φ v) fun _ => 0) (Q : Rref p n I σ) (hI : ∀ v, Span p n I v ↔ Span p n (B.map φ) v) :
    I.length + E.length = B.length := by
  have sub : ∀ x ∈ ε, x ∈ π := T.sub_heads hp R fun v hv => ((hE v).mp hv).1
  let q : Nat → Bool := fun h => !ε.contains h
  have P' := sel_piv (q := q) R.toPiv
  have le : ε.length + (π.filter q).length = π.length := by
    have h1 := filt_split (fun h => ε.contains h) π
    have h2 : π.filter (fun h => ε.contains h) = ε := inc_eq (R.inc.filter _) T.inc fun x => by
      rw [List.mem_filter, List.contains_iff_mem]
      exact ⟨fun h => h.2, fun h => ⟨sub x h, h⟩⟩
    rw [h2] at h1
    exact h1
  have ind : Ind p n ((selB q B π).map φ) := by
    intro cs hl e i
    rw [List.length_map] at hl
    have v1 : Span p n (selB q B π) (LA.lin cs (selB q B π)) := ⟨_, hl, Eq'.refl _⟩
    have v2 : Span p n B (LA.lin cs (selB q B π)) := (span_sub B).span (fun b hb => Span.mem (sel_mem hb)) v1
    have v3 : Eq' p n (φ (LA.lin cs (selB q B π))) fun _ => 0 := (L.lin cs _).trans fun j hj => e j hj
    have z : Eq' p n (LA.lin cs (selB q B π)) fun _ => 0 := by
      apply Classical.byContradiction
      intro hz
      obtain ⟨h, hh⟩ := hd_ex hz
      have he := T.head ((hE _).mpr ⟨v2, v3⟩) hh
      exact hh.2.1 (sel_zero R.toPiv R.nd v1 (sub h he) (by show (!ε.contains h) = false; rw [List.contains_iff_mem.mpr he]; rfl))
    exact P'.ind _ hl z i
  have all : ∀ b ∈ B, Span p n ((selB q B π).map φ) (φ b) := by
    intro b hb
    have hbs : Span p n B b := Span.mem hb
    let t := LA.lin (ε.map b) E
    have ht : Span p n E t := ⟨_, by rw [List.length_map, T.len], Eq'.refl _⟩
    obtain ⟨t1, t2⟩ := (hE t).mp ht
    have hu : Span p n B fun j => b j + -1 * t j := hbs.add (t1.mul (-1))
    have hz : ∀ h ∈ π, q h = false → M p ((fun j => b j + -1 * t j) h) 0 := by
      intro h hh hq
      have he : h ∈ ε := by
        have : (!ε.contains h) = false := hq
        apply List.contains_iff_mem.mp
        cases hc : ε.contains h with
        | true => rfl
        | false => rw [hc] at this; cases this
      obtain ⟨k, hk⟩ := at_idx he
      have a := lin_piv T.toPiv (cs := ε.map b) (by rw [List.length_map, T.len]) hk
      have e5 : (ε.map b).getD k 0 = b h := by simp [List.getD, List.getElem?_map, hk]
      rw [e5] at a
      have := M.add (M.refl (p := p) (b h)) (M.mul (M.refl (-1)) a)
      have e6 : b h + -1 * b h = 0 := by omega
      rwa [e6] at this
    have hu2 : Span p n (selB q B π) fun j => b j + -1 * t j := ⟨(π.filter q).map fun j => b j + -1 * t j, by rw [List.length_map, P'.len], fun j hj => M.trans (coords R.toPiv hu j hj) (sel_lin R.len.symm hz)⟩
    refine (L.span hu2).of_eq ?_
    have a1 := (L.add b fun j => -1 * t j)
    refine Eq'.trans (fun j hj => ?_) a1.symm
    have a2 := M.add (M.refl (p := p) (φ b j)) (M.trans (L.mul (-1) t j hj) (M.mul (M.refl (-1)) (t2 j hj)))
    rw [Int.mul_zero, Int.add_zero] at a2
    exact M.symm a2
  have l1 : I.length = ((selB q B π).map φ).length := Nat.le_antisymm
    (ind_le hp Q.toPiv.ind fun b hb => (span_sub _).span (fun c hc => by
      obtain ⟨d, hd, rfl⟩ := List.mem_map.mp hc
      exact all d hd) ((hI b).mp (Span.mem hb)))
    (ind_le hp ind fun c hc => (hI c).mpr (by
      obtain ⟨d, hd, rfl⟩ := List.mem_map.mp hc
      exact Span.mem (List.mem_map.mpr ⟨d, sel_mem hd, rfl⟩)))
  rw [List.length_map] at l1
  have h1 := P'.len
  have h2 := R.len
  have h3 := T.len
  omega
end
end LA

/-! the program of k10 in own syntax (printed by wip/gen.py) -/
namespace K10
open PySem Fz
def topS (i : Nat) : Stmt := PySem.Challenge.pw_formspaces_k10_whole_main_far_rows.main.body.getD i (.Pass ⟨0, 0, 0, 0⟩)
/-- 0 row_times: 0=p 1=number 2=row 3=item -/
def e0_0 : E := (.op .mod 0 (.op .mul 0 (.v 1) (.v 3)) (.v 0))
def b0 : List S := [
  .ret (.bi .tuple 0 (.cons (.co 0 (.nm 3) (.seq (.v 2)) .no e0_0 [3]) .nil))]
/-- 1 row_with: 0=p 1=row 2=number 3=other_row 4=one 5=other -/
def e1_0 : E := (.op .mod 0 (.op .add 0 (.v 4) (.op .mul 0 (.v 2) (.v 5))) (.v 0))
def b1 : List S := [
  .ret (.bi .tuple 0 (.cons (.co 0 (.tu [.nm 4, .nm 5]) (.zip (.v 1) (.v 3)) .no e1_0 [4, 5]) .nil))]
/-- 2 turned_back: 0=p 1=number 2=found 3=often 4=base -/
def b2_0 : List S := [
  .ite (.cm .eq (.op .mod 0 (.v 3) (.k (.int 2))) (.k (.int 1))) [
    .set (.nm 2) (.op .mod 0 (.op .mul 0 (.v 2) (.v 4)) (.v 0))] [],
  .set (.tu [.nm 4, .nm 3]) (.tup (.cons (.op .mod 0 (.op .mul 0 (.v 4) (.v 4)) (.v 0)) (.cons (.op .fdiv 0 (.v 3) (.k (.int 2))) .nil)))]
def b2 : List S := [
  .set (.tu [.nm 2, .nm 3, .nm 4]) (.tup (.cons (.k (.int 1)) (.cons (.op .sub 0 (.v 0) (.k (.int 2))) (.cons (.op .mod 0 (.v 1) (.v 0)) .nil)))),
  .whl (.cm .gt (.v 3) (.k (.int 0))) b2_0 [] false,
  .ret (.op .mod 0 (.v 2) (.v 0))]
/-- 3 head_of: 0=row 1=some 2=place 3=item -/
def e3_0 : E := (.v 2)
def c3_0 : Oe := (.so (.cm .ne (.v 3) (.k (.int 0))))
def b3 : List S := [
  .set (.nm 1) (.co 0 (.tu [.nm 2, .nm 3]) (.enu (.v 0)) c3_0 e3_0 [2, 3]),
  .ret (.ite (.cm .ne (.v 1) (.lst 0 .nil)) (.ix (.v 1) (.k (.int 0))) (.k .non))]
/-- 4 point_of: 0=p 1=row 2=head -/
def b4 : List S := [
  .set (.nm 2) (.call 3 none (.cons (.v 1) .nil) .nil),
  .ite (.cm .is (.v 2) (.k .non)) [
    .dead] [],
  .ret (.call 0 none (.cons (.v 0) (.cons (.call 2 none (.cons (.v 0) (.cons (.ix (.v 1) (.v 2)) .nil)) .nil) (.cons (.v 1) .nil))) .nil)]
/-- 5 reduced: 0=p 1=steps 2=row 3=own 4=number -/
def b5_0 : List S := [
  .set (.nm 4) (.ix (.v 2) (.call 3 none (.cons (.v 3) .nil) .nil)),
  .ite (.cm .ne (.v 4) (.k (.int 0))) [
    .set (.nm 2) (.call 1 none (.cons (.v 0) (.cons (.v 2) (.cons (.neg (.v 4)) (.cons (.v 3) .nil)))) .nil)] []]
def b5 : List S := [
  .for (.nm 3) (.seq (.v 1)) b5_0 [3, 4] false,
  .ret (.v 2)]
/-- 6 stepped_with: 0=p 1=steps 2=row 3=rest 4=point 5=head 6=found 7=own 8=place -/
def e6_0 : E := (.call 1 none (.cons (.v 0) (.cons (.v 7) (.cons (.neg (.ix (.v 7) (.v 5))) (.cons (.v 4) .nil)))) .nil)
def e6_1 : E := (.tup (.cons (.call 3 none (.cons (.v 7) .nil) .nil) (.cons (.v 7) .nil)))
def e6_2 : E := (.v 7)
def b6 : List S := [
  .set (.nm 3) (.call 5 none (.cons (.v 0) (.cons (.v 1) (.cons (.v 2) .nil))) .nil),
  .ite (.cm .is (.call 3 none (.cons (.v 3) .nil) .nil) (.k .non)) [
    .ret (.v 1)] [],
  .set (.nm 4) (.call 4 none (.cons (.v 0) (.cons (.v 3) .nil)) .nil),
  .set (.nm 5) (.call 3 none (.cons (.v 4) .nil) .nil),
  .set (.nm 6) (.op .add 0 (.co 0 (.nm 7) (.seq (.v 1)) .no e6_0 [7]) (.lst 0 (.cons (.v 4) .nil))),
  .ret (.co 0 (.tu [.nm 8, .nm 7]) (.seq (.bi .sorted 0 (.cons (.co 0 (.nm 7) (.seq (.v 6)) .no e6_1 [7]) .nil))) .no e6_2 [8, 7])]
/-- 7 space_of: 0=p 1=n 2=rows 3=found 4=row -/
def b7_0 : List S := [
  .set (.nm 3) (.call 6 none (.cons (.v 0) (.cons (.v 3) (.cons (.v 4) .nil))) .nil)]
def b7 : List S := [
  .set (.nm 3) (.lst 0 .nil),
  .for (.nm 4) (.seq (.v 2)) b7_0 [4] false,
  .ret (.bi .tuple 0 (.cons (.v 3) .nil))]
/-- 8 heads_of: 0=space 1=row -/
def e8_0 : E := (.call 3 none (.cons (.v 1) .nil) .nil)
def b8 : List S := [
  .ret (.bi .tuple 0 (.cons (.co 0 (.nm 1) (.seq (.v 0)) .no e8_0 [1]) .nil))]
/-- 9 unit_row: 0=n 1=place 2=spot -/
def e9_0 : E := (.bi .int 0 (.cons (.cm .eq (.v 2) (.v 1)) .nil))
def b9 : List S := [
  .ret (.bi .tuple 0 (.cons (.co 0 (.nm 2) (.rng (.cons (.v 0) .nil)) .no e9_0 [2]) .nil))]
/-- 10 dot_space: 0=p 1=n 2=space 3=heads 4=found 5=free 6=row 7=head 8=own -/
def b10_0 : List S := [
  .put (.v 6) (.v 7) (.op .mod 0 (.neg (.ix (.v 8) (.v 5))) (.v 0))]
def b10_1 : List S := [
  .ite (.cm .notin (.v 5) (.v 3)) [
    .set (.nm 6) (.bi .list 1 (.cons (.call 9 none (.cons (.v 1) (.cons (.v 5) .nil)) .nil) .nil)),
    .for (.tu [.nm 7, .nm 8]) (.zip (.v 3) (.v 2)) b10_0 [7, 8] false,
    .ex (.me .append (.v 4) (.cons (.bi .tuple 0 (.cons (.v 6) .nil)) .nil))] []]
def b10 : List S := [
  .set (.tu [.nm 3, .nm 4]) (.tup (.cons (.call 8 none (.cons (.v 2) .nil) .nil) (.cons (.lst 1 .nil) .nil))),
  .for (.nm 5) (.rng (.cons (.v 1) .nil)) b10_1 [5, 6, 7, 8] true,
  .ret (.call 7 none (.cons (.v 0) (.cons (.v 1) (.cons (.bi .tuple 0 (.cons (.v 4) .nil)) .nil))) .nil)]
/-- 11 unit_square: 0=n 1=place -/
def e11_0 : E := (.call 9 none (.cons (.v 0) (.cons (.v 1) .nil)) .nil)
def b11 : List S := [
  .ret (.bi .tuple 0 (.cons (.co 0 (.nm 1) (.rng (.cons (.v 0) .nil)) .no e11_0 [1]) .nil))]
/-- 12 row_led: 0=p 1=row 2=square 3=found 4=item 5=own -/
def b12_0 : List S := [
  .ite (.cm .ne (.v 4) (.k (.int 0))) [
    .set (.nm 3) (.call 1 none (.cons (.v 0) (.cons (.v 3) (.cons (.v 4) (.cons (.v 5) .nil)))) .nil)] []]
def b12 : List S := [
  .set (.nm 3) (.op .mul 0 (.tup (.cons (.k (.int 0)) .nil)) (.bi .len 0 (.cons (.ix (.v 2) (.k (.int 0))) .nil))),
  .for (.tu [.nm 4, .nm 5]) (.zip (.v 1) (.v 2)) b12_0 [4, 5] false,
  .ret (.v 3)]
/-- 13 pairing_at: 0=p 1=pairing 2=x 3=y 4=one 5=other -/
def e13_0 : E := (.op .mul 0 (.v 4) (.v 5))
def b13 : List S := [
  .ret (.op .mod 0 (.bi .sum 0 (.cons (.co 0 (.tu [.nm 4, .nm 5]) (.zip (.call 12 none (.cons (.v 0) (.cons (.v 2) (.cons (.v 1) .nil))) .nil) (.v 3)) .no e13_0 [4, 5]) .nil)) (.v 0))]
/-- 14 moved_pairing: 0=p 1=pairing 2=square 3=y 4=x -/
def e14_0 : E := (.call 13 none (.cons (.v 0) (.cons (.v 1) (.cons (.v 4) (.cons (.v 3) .nil)))) .nil)
def e14_1 : E := (.bi .tuple 0 (.cons (.co 0 (.nm 3) (.seq (.v 2)) .no e14_0 [3]) .nil))
def b14 : List S := [
  .ret (.bi .tuple 0 (.cons (.co 0 (.nm 4) (.seq (.v 2)) .no e14_1 [4]) .nil))]
/-- 15 far_rows: 0=p 1=pairing 2=space 3=n 4=row -/
def e15_0 : E := (.call 12 none (.cons (.v 0) (.cons (.v 4) (.cons (.v 1) .nil))) .nil)
def b15 : List S := [
  .set (.nm 3) (.bi .len 0 (.cons (.v 1) .nil)),
  .ret (.call 10 none (.cons (.v 0) (.cons (.v 3) (.cons (.call 7 none (.cons (.v 0) (.cons (.v 3) (.cons (.bi .tuple 0 (.cons (.co 0 (.nm 4) (.seq (.v 2)) .no e15_0 [4]) .nil)) .nil))) .nil) .nil))) .nil)]
/-- 16 bare_rows: 0=p 1=pairing -/
def b16 : List S := [
  .ret (.call 15 none (.cons (.v 0) (.cons (.v 1) (.cons (.call 11 none (.cons (.bi .len 0 (.cons (.v 1) .nil)) .nil) .nil) .nil))) .nil)]
/-- 17 _law_pot: 0=script 1=cells 2=mixed 3=cell -/
def e17_0 : E := (.op .add 0 (.op .mul 0 (.k (.int 2)) (.bi .abs 0 (.cons (.v 3) .nil))) (.bi .int 0 (.cons (.cm .lt (.v 3) (.k (.int 0))) .nil)))
def b17_0 : List S := [
  .set (.nm 2) (.op .mod 0 (.op .add 0 (.op .add 0 (.op .mul 0 (.v 2) (.k (.int 69069))) (.v 3)) (.k (.int 11))) (.k (.int 4294967291)))]
def e17_1 : E := (.v 3)
def c17_1 : Oe := (.so (.cm .gt (.v 3) (.op .pow 0 (.k (.int 10)) (.k (.int 12)))))
def b17 : List S := [
  .set (.tu [.nm 1, .nm 2]) (.tup (.cons (.co 0 (.nm 3) (.seq (.sl 0 (.v 0) .no (.so (.k (.int 63))))) .no e17_0 [3]) (.cons (.op .add 0 (.k (.int 17539)) (.op .mul 0 (.k (.int 73)) (.bi .len 0 (.cons (.v 0) .nil)))) .nil))),
  .for (.nm 3) (.seq (.v 1)) b17_0 [3] false,
  .ret (.lst 2 (.cons (.co 2 (.nm 3) (.seq (.v 1)) c17_1 e17_1 [3]) (.cons (.v 2) (.cons (.k (.int 0)) .nil))))]
/-- 18 _law_of: 0=pot 1=many 2=cell 3=number -/
def b18 : List S := [
  .ite (.cm .lt (.v 1) (.k (.int 2))) [
    .ret (.k (.int 0))] [],
  .ite (.cm .ne (.ix (.v 0) (.k (.int 0))) (.lst 0 .nil)) [
    .set (.nm 2) (.me .pop (.ix (.v 0) (.k (.int 0))) .nil),
    .ite (.cm .ge (.v 2) (.v 1)) [
      .ex (.me .append (.ix (.v 0) (.k (.int 0))) (.cons (.op .fdiv 0 (.v 2) (.v 1)) .nil))] [],
    .ret (.op .mod 0 (.v 2) (.v 1))] [],
  .put (.v 0) (.k (.int 2)) (.op .add 1 (.ix (.v 0) (.k (.int 2))) (.k (.int 1))),
  .set (.nm 3) (.op .mod 0 (.op .add 0 (.ix (.v 0) (.k (.int 1))) (.op .mul 0 (.ix (.v 0) (.k (.int 2))) (.k (.int 2654435761)))) (.k (.int 4294967279))),
  .set (.nm 3) (.op .mod 0 (.op .add 0 (.op .add 0 (.op .mul 0 (.v 3) (.v 3)) (.op .mul 0 (.ix (.v 0) (.k (.int 2))) (.k (.int 40503)))) (.k (.int 5))) (.k (.int 4294967231))),
  .set (.nm 3) (.op .mod 0 (.op .add 0 (.op .mul 0 (.v 3) (.v 3)) (.ix (.v 0) (.k (.int 1)))) (.k (.int 4294967291))),
  .ret (.op .mod 0 (.op .fdiv 0 (.v 3) (.k (.int 256))) (.v 1))]
/-- 19 _law_one: 0=pot 1=items -/
def b19 : List S := [
  .ret (.ix (.v 1) (.call 18 none (.cons (.v 0) (.cons (.bi .len 0 (.cons (.v 1) .nil)) .nil)) .nil))]
/-- 20 _law_order: 0=pot 1=row 2=left 3=found -/
def b20_0 : List S := [
  .ex (.me .append (.v 3) (.cons (.me .pop (.v 2) (.cons (.call 18 none (.cons (.v 0) (.cons (.bi .len 0 (.cons (.v 2) .nil)) .nil)) .nil) .nil)) .nil))]
def b20 : List S := [
  .set (.tu [.nm 2, .nm 3]) (.tup (.cons (.bi .list 1 (.cons (.v 1) .nil)) (.cons (.lst 1 .nil) .nil))),
  .whl (.cm .ne (.v 2) (.lst 0 .nil)) b20_0 [] false,
  .ret (.v 3)]
/-- 21 _law_flat: 0=rows 1=found 2=row -/
def b21_0 : List S := [
  .ex (.me .extend (.v 1) (.cons (.v 2) .nil))]
def b21 : List S := [
  .set (.nm 1) (.lst 1 .nil),
  .for (.nm 2) (.seq (.v 0)) b21_0 [2] false,
  .ret (.v 1)]
/-- 22 _law_power: 0=x 1=k 2=q 3=found -/
def b22_0 : List S := [
  .set (.nm 3) (.ite (.cm .eq (.op .mod 0 (.bi .int 0 (.cons (.v 1) .nil)) (.k (.int 2))) (.k (.int 1))) (.op .mod 0 (.bi .int 0 (.cons (.op .mul 0 (.v 3) (.v 0)) .nil)) (.v 2)) (.v 3)),
  .set (.tu [.nm 0, .nm 1]) (.tup (.cons (.op .mod 0 (.bi .int 0 (.cons (.op .mul 0 (.v 0) (.v 0)) .nil)) (.v 2)) (.cons (.op .fdiv 0 (.bi .int 0 (.cons (.v 1) .nil)) (.k (.int 2))) .nil)))]
def b22 : List S := [
  .set (.tu [.nm 3, .nm 0]) (.tup (.cons (.k (.int 1)) (.cons (.op .mod 0 (.bi .int 0 (.cons (.v 0) .nil)) (.v 2)) .nil))),
  .whl (.cm .gt (.v 1) (.k (.int 0))) b22_0 [] false,
  .ret (.v 3)]
/-- 23 _law_less: 0=p 1=row 2=head 3=times 4=x 5=y -/
def e23_0 : E := (.op .mod 0 (.bi .int 0 (.cons (.op .sub 0 (.v 4) (.op .mul 0 (.v 3) (.v 5))) .nil)) (.v 0))
def b23 : List S := [
  .ret (.co 0 (.tu [.nm 4, .nm 5]) (.zip (.v 1) (.v 2)) .no e23_0 [4, 5])]
/-- 24 _law_reduced: 0=p 1=rows 2=left 3=found 4=n 5=row 6=c 7=some 8=k 9=head 10=less 11=x -/
def e24_0 : E := (.bi .list 0 (.cons (.v 5) .nil))
def e24_1 : E := (.v 8)
def c24_1 : Oe := (.so (.cm .ne (.ix (.v 5) (.v 6)) (.k (.int 0))))
def e24_2 : E := (.op .mod 0 (.bi .int 0 (.cons (.op .mul 0 (.v 11) (.v 10)) .nil)) (.v 0))
def e24_3 : E := (.ite (.cm .ne (.ix (.v 5) (.v 6)) (.k (.int 0))) (.call 23 none (.cons (.v 0) (.cons (.v 5) (.cons (.v 9) (.cons (.ix (.v 5) (.v 6)) .nil)))) .nil) (.v 5))
def e24_4 : E := (.ite (.cm .ne (.ix (.v 5) (.v 6)) (.k (.int 0))) (.call 23 none (.cons (.v 0) (.cons (.v 5) (.cons (.v 9) (.cons (.ix (.v 5) (.v 6)) .nil)))) .nil) (.v 5))
def b24_0 : List S := [
  .set (.nm 7) (.co 0 (.tu [.nm 8, .nm 5]) (.enu (.v 2)) c24_1 e24_1 [8, 5]),
  .ite (.cm .ne (.v 7) (.lst 0 .nil)) [
    .set (.nm 9) (.me .pop (.v 2) (.cons (.ix (.v 7) (.k (.int 0))) .nil)),
    .set (.nm 10) (.call 22 none (.cons (.ix (.v 9) (.v 6)) (.cons (.op .sub 0 (.v 0) (.k (.int 2))) (.cons (.v 0) .nil))) .nil),
    .set (.nm 9) (.co 0 (.nm 11) (.seq (.v 9)) .no e24_2 [11]),
    .set (.nm 2) (.co 1 (.nm 5) (.seq (.v 2)) .no e24_3 [5]),
    .set (.nm 3) (.op .add 0 (.co 0 (.nm 5) (.seq (.v 3)) .no e24_4 [5]) (.lst 0 (.cons (.v 9) .nil)))] []]
def b24 : List S := [
  .set (.tu [.nm 2, .nm 3, .nm 4]) (.tup (.cons (.co 1 (.nm 5) (.seq (.v 1)) .no e24_0 [5]) (.cons (.lst 0 .nil) (.cons (.ite (.cm .gt (.bi .len 0 (.cons (.v 1) .nil)) (.k (.int 0))) (.bi .len 0 (.cons (.ix (.v 1) (.k (.int 0))) .nil)) (.k (.int 0))) .nil)))),
  .for (.nm 6) (.rng (.cons (.v 4) .nil)) b24_0 [6, 7, 9, 10] false,
  .ret (.v 3)]
/-- 25 _law_cells: 0=a 1=b 2=j 3=i -/
def e25_0 : E := (.tup (.cons (.v 3) (.cons (.v 2) .nil)))
def e25_1 : E := (.co 0 (.nm 2) (.rng (.cons (.v 1) .nil)) .no e25_0 [2])
def b25 : List S := [
  .ret (.call 21 none (.cons (.co 0 (.nm 3) (.rng (.cons (.v 0) .nil)) .no e25_1 [3]) .nil) .nil)]
/-- 26 _law_space: 0=p 1=rows 2=row -/
def e26_0 : E := (.bi .tuple 0 (.cons (.v 2) .nil))
def b26 : List S := [
  .ret (.bi .tuple 0 (.cons (.co 0 (.nm 2) (.seq (.call 24 none (.cons (.v 0) (.cons (.v 1) .nil)) .nil)) .no e26_0 [2]) .nil))]
/-- 27 _law_head: 0=row 1=i 2=x -/
def e27_0 : E := (.v 1)
def c27_0 : Oe := (.so (.cm .ne (.v 2) (.k (.int 0))))
def b27 : List S := [
  .ret (.ix (.co 0 (.tu [.nm 1, .nm 2]) (.enu (.v 0)) c27_0 e27_0 [1, 2]) (.k (.int 0)))]
/-- 28 _law_dots: 0=p 1=rows 2=n 3=steps 4=heads 5=found 6=row 7=free 8=k 9=own 10=head -/
def e28_0 : E := (.call 27 none (.cons (.v 6) .nil) .nil)
def b28_0 : List S := [
  .put (.v 9) (.v 10) (.op .mod 0 (.bi .int 0 (.cons (.neg (.ix (.v 6) (.v 7))) .nil)) (.v 0))]
def b28_1 : List S := [
  .set (.nm 9) (.op .mul 1 (.lst 0 (.cons (.k (.int 0)) .nil)) (.v 2)),
  .put (.v 9) (.v 7) (.k (.int 1)),
  .for (.tu [.nm 6, .nm 10]) (.zip (.v 3) (.v 4)) b28_0 [6, 10] false,
  .ex (.me .append (.v 5) (.cons (.v 9) .nil))]
def e28_1 : E := (.v 8)
def c28_1 : Oe := (.so (.cm .notin (.v 8) (.v 4)))
def b28 : List S := [
  .set (.nm 3) (.ite (.cm .gt (.bi .len 0 (.cons (.v 1) .nil)) (.k (.int 0))) (.call 24 none (.cons (.v 0) (.cons (.v 1) .nil)) .nil) (.lst 0 .nil)),
  .set (.tu [.nm 4, .nm 5]) (.tup (.cons (.co 0 (.nm 6) (.seq (.v 3)) .no e28_0 [6]) (.cons (.lst 1 .nil) .nil))),
  .for (.nm 7) (.seq (.co 0 (.nm 8) (.rng (.cons (.v 2) .nil)) c28_1 e28_1 [8])) b28_1 [6, 7, 9, 10] true,
  .ret (.call 26 none (.cons (.v 0) (.cons (.v 5) .nil)) .nil)]
/-- 29 _law_row: 0=pot 1=p 2=n 3=i -/
def e29_0 : E := (.ite (.cm .gt (.call 18 none (.cons (.v 0) (.cons (.k (.int 3)) .nil)) .nil) (.k (.int 0))) (.call 18 none (.cons (.v 0) (.cons (.v 1) .nil)) .nil) (.k (.int 0)))
def b29 : List S := [
  .ret (.bi .tuple 0 (.cons (.co 0 (.nm 3) (.rng (.cons (.v 2) .nil)) .no e29_0 [3]) .nil))]
/-- 30 _law_some_space: 0=pot 1=p 2=n 3=again -/
def e30_0 : E := (.call 29 none (.cons (.v 0) (.cons (.v 1) (.cons (.v 2) .nil))) .nil)
def b30 : List S := [
  .ret (.call 26 none (.cons (.v 1) (.cons (.co 0 (.nm 3) (.rng (.cons (.call 18 none (.cons (.v 0) (.cons (.op .add 0 (.v 2) (.k (.int 1))) .nil)) .nil) .nil)) .no e30_0 [3]) .nil)) .nil)]
/-- 31 _law_led: 0=p 1=row 2=square 3=x 4=own 5=j -/
def e31_0 : E := (.op .mul 0 (.v 3) (.ix (.v 4) (.v 5)))
def e31_1 : E := (.op .mod 0 (.bi .int 0 (.cons (.bi .sum 0 (.cons (.co 0 (.tu [.nm 3, .nm 4]) (.zip (.v 1) (.v 2)) .no e31_0 [3, 4]) .nil)) .nil)) (.v 0))
def b31 : List S := [
  .ret (.bi .tuple 0 (.cons (.co 0 (.nm 5) (.rng (.cons (.bi .len 0 (.cons (.ix (.v 2) (.k (.int 0))) .nil)) .nil)) .no e31_1 [5]) .nil))]
/-- 32 _law_square: 0=pot 1=p 2=n 3=rows 4=j 5=i 6=turn 7=times 8=x 9=y 10=row -/
def e32_0 : E := (.op .mul 0 (.bi .int 0 (.cons (.cm .eq (.v 5) (.v 4)) .nil)) (.op .add 0 (.k (.int 1)) (.call 18 none (.cons (.v 0) (.cons (.op .sub 0 (.v 1) (.k (.int 1))) .nil)) .nil)))
def e32_1 : E := (.co 0 (.nm 4) (.rng (.cons (.v 2) .nil)) .no e32_0 [4])
def e32_2 : E := (.op .mod 0 (.bi .int 0 (.cons (.op .add 0 (.v 8) (.op .mul 0 (.v 7) (.v 9))) .nil)) (.v 1))
def b32_0 : List S := [
  .set (.tu [.nm 5, .nm 4, .nm 7]) (.tup (.cons (.call 18 none (.cons (.v 0) (.cons (.v 2) .nil)) .nil) (.cons (.call 18 none (.cons (.v 0) (.cons (.v 2) .nil)) .nil) (.cons (.call 18 none (.cons (.v 0) (.cons (.v 1) .nil)) .nil) .nil)))),
  .ite (.cm .ne (.v 5) (.v 4)) [
    .put (.v 3) (.v 5) (.co 0 (.tu [.nm 8, .nm 9]) (.zip (.ix (.v 3) (.v 5)) (.ix (.v 3) (.v 4))) .no e32_2 [8, 9])] []]
def e32_3 : E := (.bi .tuple 0 (.cons (.v 10) .nil))
def b32 : List S := [
  .set (.nm 3) (.co 1 (.nm 5) (.rng (.cons (.v 2) .nil)) .no e32_1 [5]),
  .for (.nm 6) (.rng (.cons (.call 18 none (.cons (.v 0) (.cons (.op .add 0 (.op .mul 0 (.k (.int 2)) (.v 2)) (.k (.int 1))) .nil)) .nil) .nil)) b32_0 [4, 5, 6, 7] false,
  .ret (.bi .tuple 0 (.cons (.co 0 (.nm 10) (.seq (.call 20 none (.cons (.v 0) (.cons (.v 3) .nil)) .nil)) .no e32_3 [10]) .nil))]
/-- 33 _law_at: 0=p 1=table 2=x 3=y 4=a 5=b 6=i 7=row -/
def e33_0 : E := (.op .mul 0 (.v 4) (.v 5))
def e33_1 : E := (.op .mul 0 (.ix (.v 2) (.v 6)) (.bi .sum 0 (.cons (.co 0 (.tu [.nm 4, .nm 5]) (.zip (.v 7) (.v 3)) .no e33_0 [4, 5]) .nil)))
def c33_1 : Oe := (.so (.cm .ne (.ix (.v 2) (.v 6)) (.k (.int 0))))
def b33 : List S := [
  .ret (.op .mod 0 (.bi .int 0 (.cons (.bi .sum 0 (.cons (.co 0 (.tu [.nm 6, .nm 7]) (.enu (.v 1)) c33_1 e33_1 [6, 7]) .nil)) .nil)) (.v 0))]
/-- 34 _law_far: 0=p 1=table 2=space 3=n 4=x -/
def e34_0 : E := (.call 31 none (.cons (.v 0) (.cons (.v 4) (.cons (.v 1) .nil))) .nil)
def b34 : List S := [
  .ret (.call 28 none (.cons (.v 0) (.cons (.co 0 (.nm 4) (.seq (.v 2)) .no e34_0 [4]) (.cons (.v 3) .nil))) .nil)]
/-- 35 _law_unit: 0=n 1=j 2=i -/
def e35_0 : E := (.bi .int 0 (.cons (.cm .eq (.v 2) (.v 1)) .nil))
def e35_1 : E := (.bi .tuple 0 (.cons (.co 0 (.nm 1) (.rng (.cons (.v 0) .nil)) .no e35_0 [1]) .nil))
def b35 : List S := [
  .ret (.bi .tuple 0 (.cons (.co 0 (.nm 2) (.rng (.cons (.v 0) .nil)) .no e35_1 [2]) .nil))]
/-- 36 _law_moved: 0=p 1=table 2=square 3=y 4=x -/
def e36_0 : E := (.call 33 none (.cons (.v 0) (.cons (.v 1) (.cons (.v 4) (.cons (.v 3) .nil)))) .nil)
def e36_1 : E := (.bi .tuple 0 (.cons (.co 0 (.nm 3) (.seq (.v 2)) .no e36_0 [3]) .nil))
def b36 : List S := [
  .ret (.bi .tuple 0 (.cons (.co 0 (.nm 4) (.seq (.v 2)) .no e36_1 [4]) .nil))]
/-- 37 _law_pairing: 0=pot 1=p 2=n 3=way 4=items 5=i 6=j 7=own 8=table -/
def b37_0 : List S := [
  .ite (.or (.cm .lt (.v 5) (.v 6)) (.an (.cm .eq (.v 5) (.v 6)) (.cm .gt (.v 3) (.k (.int 0))))) [
    .set (.nm 7) (.ite (.cm .eq (.call 18 none (.cons (.v 0) (.cons (.k (.int 2)) .nil)) .nil) (.k (.int 0))) (.call 18 none (.cons (.v 0) (.cons (.v 1) .nil)) .nil) (.k (.int 0))),
    .dput (.v 4) (.cons (.v 6) (.cons (.v 5) .nil)) (.ite (.cm .eq (.v 3) (.k (.int 0))) (.op .mod 0 (.bi .int 0 (.cons (.neg (.v 7)) .nil)) (.v 1)) (.v 7)),
    .dput (.v 4) (.cons (.v 5) (.cons (.v 6) .nil)) (.v 7)] []]
def e37_0 : E := (.dget (.v 4) (.cons (.v 5) (.cons (.v 6) .nil)) (.int 0))
def e37_1 : E := (.bi .tuple 0 (.cons (.co 0 (.nm 6) (.rng (.cons (.v 2) .nil)) .no e37_0 [6]) .nil))
def b37 : List S := [
  .set (.tu [.nm 3, .nm 4]) (.tup (.cons (.call 18 none (.cons (.v 0) (.cons (.k (.int 3)) .nil)) .nil) (.cons (.dnew true) .nil))),
  .for (.tu [.nm 5, .nm 6]) (.seq (.call 25 none (.cons (.v 2) (.cons (.v 2) .nil)) .nil)) b37_0 [5, 6, 7] false,
  .set (.nm 8) (.bi .tuple 0 (.cons (.co 0 (.nm 5) (.rng (.cons (.v 2) .nil)) .no e37_1 [5]) .nil)),
  .ret (.ite (.cm .eq (.call 18 none (.cons (.v 0) (.cons (.k (.int 2)) .nil)) .nil) (.k (.int 0))) (.call 36 none (.cons (.v 1) (.cons (.v 8) (.cons (.call 32 none (.cons (.v 0) (.cons (.v 1) (.cons (.v 2) .nil))) .nil) .nil))) .nil) (.v 8))]
/-- 38 law: 0=script 1=pot 2=turn 3=p 4=n 5=pairing 6=one 7=other 8=kept 9=far 10=bare 11=both 12=joined 13=lesser 14=second 15=dots 16=square 17=moved 18=led 19=row 20=goal -/
def e38_0 : E := (.call 31 none (.cons (.v 3) (.cons (.v 19) (.cons (.v 16) .nil))) .nil)
def e38_1 : E := (.call 31 none (.cons (.v 3) (.cons (.v 19) (.cons (.v 16) .nil))) .nil)
def b38_0 : List S := [
  .set (.tu [.nm 3, .nm 4]) (.tup (.cons (.call 19 none (.cons (.v 1) (.cons (.lst 0 (.cons (.k (.int 2)) (.cons (.k (.int 3)) (.cons (.k (.int 5)) (.cons (.k (.int 7)) .nil))))) .nil)) .nil) (.cons (.op .add 0 (.k (.int 1)) (.call 18 none (.cons (.v 1) (.cons (.k (.int 6)) .nil)) .nil)) .nil))),
  .set (.tu [.nm 5, .nm 6, .nm 7]) (.tup (.cons (.call 37 none (.cons (.v 1) (.cons (.v 3) (.cons (.v 4) .nil))) .nil) (.cons (.call 30 none (.cons (.v 1) (.cons (.v 3) (.cons (.v 4) .nil))) .nil) (.cons (.call 30 none (.cons (.v 1) (.cons (.v 3) (.cons (.v 4) .nil))) .nil) .nil)))),
  .set (.tu [.nm 8, .nm 9]) (.tup (.cons (.bi .repr 0 (.cons (.lst 0 (.cons (.v 5) (.cons (.v 6) (.cons (.v 7) .nil)))) .nil)) (.cons (.call 34 none (.cons (.v 3) (.cons (.v 5) (.cons (.v 6) (.cons (.v 4) .nil)))) .nil) .nil))),
  .set (.nm 10) (.call 34 none (.cons (.v 3) (.cons (.v 5) (.cons (.call 35 none (.cons (.v 4) .nil) .nil) (.cons (.v 4) .nil)))) .nil),
  .ite (.cm .ne (.bi .repr 0 (.cons (.lst 0 (.cons (.call 15 none (.cons (.v 3) (.cons (.v 5) (.cons (.v 6) .nil))) .nil) (.cons (.call 15 (some [2, 1, 0]) .nil (.cons (.v 6) (.cons (.v 5) (.cons (.v 3) .nil)))) .nil))) .nil)) (.bi .repr 0 (.cons (.lst 0 (.cons (.v 9) (.cons (.v 9) .nil))) .nil))) [
    .ret (.k (.bl false))] [],
  .ite (.cm .ne (.bi .repr 0 (.cons (.lst 0 (.cons (.call 16 none (.cons (.v 3) (.cons (.v 5) .nil)) .nil) (.cons (.call 16 (some [1, 0]) .nil (.cons (.v 5) (.cons (.v 3) .nil))) .nil))) .nil)) (.bi .repr 0 (.cons (.lst 0 (.cons (.v 10) (.cons (.v 10) .nil))) .nil))) [
    .ret (.k (.bl false))] [],
  .set (.nm 11) (.call 26 none (.cons (.v 3) (.cons (.op .add 0 (.bi .list 0 (.cons (.v 6) .nil)) (.bi .list 0 (.cons (.v 10) .nil))) .nil)) .nil),
  .ite (.or (.cm .ne (.bi .len 0 (.cons (.v 9) .nil)) (.op .sub 0 (.op .add 0 (.op .add 0 (.op .sub 0 (.v 4) (.bi .len 0 (.cons (.v 6) .nil))) (.bi .len 0 (.cons (.v 6) .nil))) (.bi .len 0 (.cons (.v 10) .nil))) (.bi .len 0 (.cons (.v 11) .nil)))) (.cm .ne (.call 15 none (.cons (.v 3) (.cons (.v 5) (.cons (.v 9) .nil))) .nil) (.v 11))) [
    .ret (.k (.bl false))] [],
  .set (.nm 12) (.call 26 none (.cons (.v 3) (.cons (.op .add 0 (.bi .list 0 (.cons (.v 6) .nil)) (.bi .list 0 (.cons (.v 7) .nil))) .nil)) .nil),
  .set (.tu [.nm 13, .nm 14]) (.tup (.cons (.call 15 none (.cons (.v 3) (.cons (.v 5) (.cons (.v 12) .nil))) .nil) (.cons (.call 15 none (.cons (.v 3) (.cons (.v 5) (.cons (.v 7) .nil))) .nil) .nil))),
  .ite (.cm .ne (.bi .len 0 (.cons (.call 26 none (.cons (.v 3) (.cons (.op .add 0 (.bi .list 0 (.cons (.v 13) .nil)) (.bi .list 0 (.cons (.v 9) .nil))) .nil)) .nil) .nil)) (.bi .len 0 (.cons (.v 9) .nil))) [
    .ret (.k (.bl false))] [],
  .set (.nm 15) (.op .add 0 (.bi .list 0 (.cons (.call 28 none (.cons (.v 3) (.cons (.v 9) (.cons (.v 4) .nil))) .nil) .nil)) (.bi .list 0 (.cons (.call 28 none (.cons (.v 3) (.cons (.v 14) (.cons (.v 4) .nil))) .nil) .nil))),
  .ite (.cm .ne (.v 13) (.call 28 none (.cons (.v 3) (.cons (.v 15) (.cons (.v 4) .nil))) .nil)) [
    .ret (.k (.bl false))] [],
  .set (.nm 16) (.call 32 none (.cons (.v 1) (.cons (.v 3) (.cons (.v 4) .nil))) .nil),
  .set (.nm 17) (.call 14 none (.cons (.v 3) (.cons (.v 5) (.cons (.v 16) .nil))) .nil),
  .set (.nm 18) (.call 26 none (.cons (.v 3) (.cons (.co 0 (.nm 19) (.seq (.v 6)) .no e38_0 [19]) .nil)) .nil),
  .set (.nm 20) (.call 15 none (.cons (.v 3) (.cons (.v 17) (.cons (.v 6) .nil))) .nil),
  .ite (.cm .ne (.call 26 none (.cons (.v 3) (.cons (.co 0 (.nm 19) (.seq (.v 20)) .no e38_1 [19]) .nil)) .nil) (.call 15 none (.cons (.v 3) (.cons (.v 5) (.cons (.v 18) .nil))) .nil)) [
    .ret (.k (.bl false))] [],
  .ite (.cm .ne (.bi .repr 0 (.cons (.lst 0 (.cons (.v 5) (.cons (.v 6) (.cons (.v 7) .nil)))) .nil)) (.v 8)) [
    .ret (.k (.bl false))] []]
def b38 : List S := [
  .set (.nm 1) (.call 17 none (.cons (.v 0) .nil) .nil),
  .for (.nm 2) (.rng (.cons (.k (.int 4)) .nil)) b38_0 [2, 3, 4, 5, 6, 7, 8, 9, 10, 11, 12, 13, 14, 15, 16, 17, 18, 20] false,
  .ret (.k (.bl true))]
def d0 : DefC := ⟨"row_times", ["p", "number", "row"], ["p", "number", "row", "item"], b0⟩
def d1 : DefC := ⟨"row_with", ["p", "row", "number", "other_row"], ["p", "row", "number", "other_row", "one", "other"], b1⟩
def d2 : DefC := ⟨"turned_back", ["p", "number"], ["p", "number", "found", "often", "base"], b2⟩
def d3 : DefC := ⟨"head_of", ["row"], ["row", "some", "place", "item"], b3⟩
def d4 : DefC := ⟨"point_of", ["p", "row"], ["p", "row", "head"], b4⟩
def d5 : DefC := ⟨"reduced", ["p", "steps", "row"], ["p", "steps", "row", "own", "number"], b5⟩
def d6 : DefC := ⟨"stepped_with", ["p", "steps", "row"], ["p", "steps", "row", "rest", "point", "head", "found", "own", "place"], b6⟩
def d7 : DefC := ⟨"space_of", ["p", "n", "rows"], ["p", "n", "rows", "found", "row"], b7⟩
def d8 : DefC := ⟨"heads_of", ["space"], ["space", "row"], b8⟩
def d9 : DefC := ⟨"unit_row", ["n", "place"], ["n", "place", "spot"], b9⟩
def d10 : DefC := ⟨"dot_space", ["p", "n", "space"], ["p", "n", "space", "heads", "found", "free", "row", "head", "own"], b10⟩
def d11 : DefC := ⟨"unit_square", ["n"], ["n", "place"], b11⟩
def d12 : DefC := ⟨"row_led", ["p", "row", "square"], ["p", "row", "square", "found", "item", "own"], b12⟩
def d13 : DefC := ⟨"pairing_at", ["p", "pairing", "x", "y"], ["p", "pairing", "x", "y", "one", "other"], b13⟩
def d14 : DefC := ⟨"moved_pairing", ["p", "pairing", "square"], ["p", "pairing", "square", "y", "x"], b14⟩
def d15 : DefC := ⟨"far_rows", ["p", "pairing", "space"], ["p", "pairing", "space", "n", "row"], b15⟩
def d16 : DefC := ⟨"bare_rows", ["p", "pairing"], ["p", "pairing"], b16⟩
def d17 : DefC := ⟨"_law_pot", ["script"], ["script", "cells", "mixed", "cell"], b17⟩
def d18 : DefC := ⟨"_law_of", ["pot", "many"], ["pot", "many", "cell", "number"], b18⟩
def d19 : DefC := ⟨"_law_one", ["pot", "items"], ["pot", "items"], b19⟩
def d20 : DefC := ⟨"_law_order", ["pot", "row"], ["pot", "row", "left", "found"], b20⟩
def d21 : DefC := ⟨"_law_flat", ["rows"], ["rows", "found", "row"], b21⟩
def d22 : DefC := ⟨"_law_power", ["x", "k", "q"], ["x", "k", "q", "found"], b22⟩
def d23 : DefC := ⟨"_law_less", ["p", "row", "head", "times"], ["p", "row", "head", "times", "x", "y"], b23⟩
def d24 : DefC := ⟨"_law_reduced", ["p", "rows"], ["p", "rows", "left", "found", "n", "row", "c", "some", "k", "head", "less", "x"], b24⟩
def d25 : DefC := ⟨"_law_cells", ["a", "b"], ["a", "b", "j", "i"], b25⟩
def d26 : DefC := ⟨"_law_space", ["p", "rows"], ["p", "rows", "row"], b26⟩
def d27 : DefC := ⟨"_law_head", ["row"], ["row", "i", "x"], b27⟩
def d28 : DefC := ⟨"_law_dots", ["p", "rows", "n"], ["p", "rows", "n", "steps", "heads", "found", "row", "free", "k", "own", "head"], b28⟩
def d29 : DefC := ⟨"_law_row", ["pot", "p", "n"], ["pot", "p", "n", "i"], b29⟩
def d30 : DefC := ⟨"_law_some_space", ["pot", "p", "n"], ["pot", "p", "n", "again"], b30⟩
def d31 : DefC := ⟨"_law_led", ["p", "row", "square"], ["p", "row", "square", "x", "own", "j"], b31⟩
def d32 : DefC := ⟨"_law_square", ["pot", "p", "n"], ["pot", "p", "n", "rows", "j", "i", "turn", "times", "x", "y", "row"], b32⟩
def d33 : DefC := ⟨"_law_at", ["p", "table", "x", "y"], ["p", "table", "x", "y", "a", "b", "i", "row"], b33⟩
def d34 : DefC := ⟨"_law_far", ["p", "table", "space", "n"], ["p", "table", "space", "n", "x"], b34⟩
def d35 : DefC := ⟨"_law_unit", ["n"], ["n", "j", "i"], b35⟩
def d36 : DefC := ⟨"_law_moved", ["p", "table", "square"], ["p", "table", "square", "y", "x"], b36⟩
def d37 : DefC := ⟨"_law_pairing", ["pot", "p", "n"], ["pot", "p", "n", "way", "items", "i", "j", "own", "table"], b37⟩
def d38 : DefC := ⟨"law", ["script"], ["script", "pot", "turn", "p", "n", "pairing", "one", "other", "kept", "far", "bare", "both", "joined", "lesser", "second", "dots", "square", "moved", "led", "row", "goal"], b38⟩
def ds_0 : List DefC := [d0, d1, d2, d3, d4, d5, d6, d7, d8, d9, d10, d11, d12, d13, d14, d15, d16, d17, d18, d19]
def ds_1 : List DefC := [d20, d21, d22, d23, d24, d25, d26, d27, d28, d29, d30, d31, d32, d33, d34, d35, d36, d37, d38]
def ds : List DefC := ds_0 ++ ds_1
def sts_0 : List Stmt := [topS 4, topS 5, topS 6, topS 7, topS 8, topS 10, topS 11, topS 12, topS 13, topS 15, topS 16, topS 18, topS 19, topS 21, topS 22, topS 23, topS 24, topS 26, topS 27, topS 28]
def sts_1 : List Stmt := [topS 29, topS 30, topS 31, topS 32, topS 33, topS 34, topS 35, topS 36, topS 37, topS 38, topS 39, topS 40, topS 41, topS 42, topS 43, topS 44, topS 45, topS 46, topS 47]
def sts : List Stmt := sts_0 ++ sts_1
def fre : List Str := ["abs", "enumerate", "int", "len", "list", "range", "repr", "sorted", "sum", "tuple", "zip"]
def cns : List (Str × Int) := []
def bnd_0 : List (Nat × Nat × List Str × Option (List Nat)) := [(0, 3, [], none), (1, 4, [], none), (10, 3, [], none), (11, 1, [], none), (12, 3, [], none), (13, 4, [], none), (14, 3, [], none), (15, 0, ["space", "pairing", "p"], some [2, 1, 0]), (15, 3, [], none), (16, 0, ["pairing", "p"], some [1, 0]), (16, 2, [], none), (17, 1, [], none), (18, 2, [], none), (19, 2, [], none), (2, 2, [], none), (20, 2, [], none), (21, 1, [], none), (22, 3, [], none), (23, 4, [], none), (24, 2, [], none)]
def bnd_1 : List (Nat × Nat × List Str × Option (List Nat)) := [(25, 2, [], none), (26, 2, [], none), (27, 1, [], none), (28, 3, [], none), (29, 3, [], none), (3, 1, [], none), (30, 3, [], none), (31, 3, [], none), (32, 3, [], none), (33, 4, [], none), (34, 4, [], none), (35, 1, [], none), (36, 3, [], none), (37, 3, [], none), (4, 2, [], none), (5, 3, [], none), (6, 3, [], none), (7, 3, [], none), (8, 1, [], none), (9, 2, [], none)]
def bnd : List (Nat × Nat × List Str × Option (List Nat)) := bnd_0 ++ bnd_1
abbrev C : List D := cOf cns
/-- what the defs are worth -/
abbrev F (n j : Nat) := Fn C ds n j
theorem F0 {n : Nat} (h : 0 < n) : F n 0 = exD ⟨F 0, C⟩ 4 b0 := (Fn_lt h).trans (Fn_at (d := d0) rfl)
theorem F1 {n : Nat} (h : 1 < n) : F n 1 = exD ⟨F 1, C⟩ 6 b1 := (Fn_lt h).trans (Fn_at (d := d1) rfl)
theorem F2 {n : Nat} (h : 2 < n) : F n 2 = exD ⟨F 2, C⟩ 5 b2 := (Fn_lt h).trans (Fn_at (d := d2) rfl)
theorem F3 {n : Nat} (h : 3 < n) : F n 3 = exD ⟨F 3, C⟩ 4 b3 := (Fn_lt h).trans (Fn_at (d := d3) rfl)
theorem F4 {n : Nat} (h : 4 < n) : F n 4 = exD ⟨F 4, C⟩ 3 b4 := (Fn_lt h).trans (Fn_at (d := d4) rfl)
theorem F5 {n : Nat} (h : 5 < n) : F n 5 = exD ⟨F 5, C⟩ 5 b5 := (Fn_lt h).trans (Fn_at (d := d5) rfl)
theorem F6 {n : Nat} (h : 6 < n) : F n 6 = exD ⟨F 6, C⟩ 9 b6 := (Fn_lt h).trans (Fn_at (d := d6) rfl)
theorem F7 {n : Nat} (h : 7 < n) : F n 7 = exD ⟨F 7, C⟩ 5 b7 := (Fn_lt h).trans (Fn_at (d := d7) rfl)
theorem F8 {n : Nat} (h : 8 < n) : F n 8 = exD ⟨F 8, C⟩ 2 b8 := (Fn_lt h).trans (Fn_at (d := d8) rfl)
theorem F9 {n : Nat} (h : 9 < n) : F n 9 = exD ⟨F 9, C⟩ 3 b9 := (Fn_lt h).trans (Fn_at (d := d9) rfl)
theorem F10 {n : Nat} (h : 10 < n) : F n 10 = exD ⟨F 10, C⟩ 9 b10 := (Fn_lt h).trans (Fn_at (d := d10) rfl)
theorem F11 {n : Nat} (h : 11 < n) : F n 11 = exD ⟨F 11, C⟩ 2 b11 := (Fn_lt h).trans (Fn_at (d := d11) rfl)
theorem F12 {n : Nat} (h : 12 < n) : F n 12 = exD ⟨F 12, C⟩ 6 b12 := (Fn_lt h).trans (Fn_at (d := d12) rfl)
theorem F13 {n : Nat} (h : 13 < n) : F n 13 = exD ⟨F 13, C⟩ 6 b13 := (Fn_lt h).trans (Fn_at (d := d13) rfl)
theorem F14 {n : Nat} (h : 14 < n) : F n 14 = exD ⟨F 14, C⟩ 5 b14 := (Fn_lt h).trans (Fn_at (d := d14) rfl)
theorem F15 {n : Nat} (h : 15 < n) : F n 15 = exD ⟨F 15, C⟩ 5 b15 := (Fn_lt h).trans (Fn_at (d := d15) rfl)
theorem F16 {n : Nat} (h : 16 < n) : F n 16 = exD ⟨F 16, C⟩ 2 b16 := (Fn_lt h).trans (Fn_at (d := d16) rfl)
theorem F17 {n : Nat} (h : 17 < n) : F n 17 = exD ⟨F 17, C⟩ 4 b17 := (Fn_lt h).trans (Fn_at (d := d17) rfl)
theorem F18 {n : Nat} (h : 18 < n) : F n 18 = exD ⟨F 18, C⟩ 4 b18 := (Fn_lt h).trans (Fn_at (d := d18) rfl)
theorem F19 {n : Nat} (h : 19 < n) : F n 19 = exD ⟨F 19, C⟩ 2 b19 := (Fn_lt h).trans (Fn_at (d := d19) rfl)
theorem F20 {n : Nat} (h : 20 < n) : F n 20 = exD ⟨F 20, C⟩ 4 b20 := (Fn_lt h).trans (Fn_at (d := d20) rfl)
theorem F21 {n : Nat} (h : 21 < n) : F n 21 = exD ⟨F 21, C⟩ 3 b21 := (Fn_lt h).trans (Fn_at (d := d21) rfl)
theorem F22 {n : Nat} (h : 22 < n) : F n 22 = exD ⟨F 22, C⟩ 4 b22 := (Fn_lt h).trans (Fn_at (d := d22) rfl)
theorem F23 {n : Nat} (h : 23 < n) : F n 23 = exD ⟨F 23, C⟩ 6 b23 := (Fn_lt h).trans (Fn_at (d := d23) rfl)
theorem F24 {n : Nat} (h : 24 < n) : F n 24 = exD ⟨F 24, C⟩ 12 b24 := (Fn_lt h).trans (Fn_at (d := d24) rfl)
theorem F25 {n : Nat} (h : 25 < n) : F n 25 = exD ⟨F 25, C⟩ 4 b25 := (Fn_lt h).trans (Fn_at (d := d25) rfl)
theorem F26 {n : Nat} (h : 26 < n) : F n 26 = exD ⟨F 26, C⟩ 3 b26 := (Fn_lt h).trans (Fn_at (d := d26) rfl)
theorem F27 {n : Nat} (h : 27 < n) : F n 27 = exD ⟨F 27, C⟩ 3 b27 := (Fn_lt h).trans (Fn_at (d := d27) rfl)
theorem F28 {n : Nat} (h : 28 < n) : F n 28 = exD ⟨F 28, C⟩ 11 b28 := (Fn_lt h).trans (Fn_at (d := d28) rfl)
theorem F29 {n : Nat} (h : 29 < n) : F n 29 = exD ⟨F 29, C⟩ 4 b29 := (Fn_lt h).trans (Fn_at (d := d29) rfl)
theorem F30 {n : Nat} (h : 30 < n) : F n 30 = exD ⟨F 30, C⟩ 4 b30 := (Fn_lt h).trans (Fn_at (d := d30) rfl)
theorem F31 {n : Nat} (h : 31 < n) : F n 31 = exD ⟨F 31, C⟩ 6 b31 := (Fn_lt h).trans (Fn_at (d := d31) rfl)
theorem F32 {n : Nat} (h : 32 < n) : F n 32 = exD ⟨F 32, C⟩ 11 b32 := (Fn_lt h).trans (Fn_at (d := d32) rfl)
theorem F33 {n : Nat} (h : 33 < n) : F n 33 = exD ⟨F 33, C⟩ 8 b33 := (Fn_lt h).trans (Fn_at (d := d33) rfl)
theorem F34 {n : Nat} (h : 34 < n) : F n 34 = exD ⟨F 34, C⟩ 5 b34 := (Fn_lt h).trans (Fn_at (d := d34) rfl)
theorem F35 {n : Nat} (h : 35 < n) : F n 35 = exD ⟨F 35, C⟩ 3 b35 := (Fn_lt h).trans (Fn_at (d := d35) rfl)
theorem F36 {n : Nat} (h : 36 < n) : F n 36 = exD ⟨F 36, C⟩ 5 b36 := (Fn_lt h).trans (Fn_at (d := d36) rfl)
theorem F37 {n : Nat} (h : 37 < n) : F n 37 = exD ⟨F 37, C⟩ 9 b37 := (Fn_lt h).trans (Fn_at (d := d37) rfl)
theorem F38 {n : Nat} (h : 38 < n) : F n 38 = exD ⟨F 38, C⟩ 21 b38 := (Fn_lt h).trans (Fn_at (d := d38) rfl)
end K10

namespace K10
open PySem Fz Rw
open LA (Vc Red clr scl redF Gd)
def spc (n : Nat) (fs : List Vc) : Fz.D := .tup (fs.map (rw_ n))
def lsp (n : Nat) (fs : List Vc) : Fz.D := .lst (fs.map (rw_ n))
theorem map_ret {n : Nat} {fs : List Vc} : okRets (fs.map (rw_ n)) = true := okRets_all fun d hd => by
  obtain ⟨f, _, rfl⟩ := List.mem_map.mp hd
  exact rw_ret n f
@[simp] theorem spc_rs {ρ : Nat → Option Fz.D} {φ : Bool} {n : Nat} {fs : List Vc} : rs ρ φ (spc n fs) = some (spc n fs) := rs_ok _ map_ret
@[simp] theorem lsp_rs {ρ : Nat → Option Fz.D} {φ : Bool} {n : Nat} {fs : List Vc} : rs ρ φ (lsp n fs) = some (lsp n fs) := rs_ok _ map_ret
@[simp] theorem spc_seq {n : Nat} {fs : List Vc} {w : Wd} : w.seq (spc n fs) = some (fs.map (rw_ n)) := rfl
@[simp] theorem lsp_seq {n : Nat} {fs : List Vc} {w : Wd} : w.seq (lsp n fs) = some (fs.map (rw_ n)) := rfl
@[simp] theorem spc_isT {n : Nat} {fs : List Vc} : isT (spc n fs) = true := rfl
@[simp] theorem lsp_isT {n : Nat} {fs : List Vc} : isT (lsp n fs) = false := rfl
@[simp] theorem spc_src {n : Nat} {fs : List Vc} : srcOf (spc n fs) = .non := rfl
@[simp] theorem lsp_src {n : Nat} {fs : List Vc} : srcOf (lsp n fs) = .non := rfl
@[simp] theorem spc_len {n md : Nat} {fs : List Vc} {w : Wd} : biF .len md [spc n fs] w = .ok (.int fs.length, w) := by
  have : biF .len md [spc n fs] w = .ok (.int (fs.map (rw_ n)).length, w) := rfl
  rw [this, List.length_map]
@[simp] theorem lsp_len {n md : Nat} {fs : List Vc} {w : Wd} : biF .len md [lsp n fs] w = .ok (.int fs.length, w) := by
  have : biF .len md [lsp n fs] w = .ok (.int (fs.map (rw_ n)).length, w) := rfl
  rw [this, List.length_map]
theorem ntP {n : Nat} {fs : List Vc} (h : fs.length ≤ 1000) {w : Wd} : newT (fs.map (rw_ n)) w = .ok (spc n fs, w) := ntS (by rw [List.length_map]; exact h)
theorem nlP {n : Nat} {fs : List Vc} (h : fs.length ≤ 1000) {w : Wd} : newL 0 (fs.map (rw_ n)) w = .ok (lsp n fs, w) := nlS (by rw [List.length_map]; exact h)
/-- row_with -/
theorem rw_ok {m : Nat} (h : 1 < m) {p : Int} (hp : 0 < p) {n : Nat} (hn : n ≤ 1000) {t : Int} (ht : -(2 ^ 64) < t ∧ t < 2 ^ 64) (x y : Vc) (g : List (List Fz.D)) :
    F m 1 [.int p, rw_ n x, .int t, rw_ n y] g = .ok (rw_ n fun j => (x j + t * y j) % p, g) := by
  rw [F1 h]
  have hp0 : ¬ p = 0 := by omega
  have c : ∀ σ, σ = [some (.int p), some (rw_ n x), some (.int t), some (rw_ n y), none, none] → coL (asg (.tu [.nm 4, .nm 5])) (evC ⟨F 1, C⟩ .no) (evE ⟨F 1, C⟩ e1_0) (fun w => true) [4, 5] σ ((List.range n).map fun j => Fz.D.tup [.int (x j), .int (y j)]) ⟨σ, [], g⟩ [] = .ok (rl n fun j => (x j + t * y j) % p, ⟨σ, [], g⟩) := by
    intro σ hσ
    have := coL_mp (bind := asg (.tu [.nm 4, .nm 5])) (test := evC ⟨F 1, C⟩ .no) (elt := evE ⟨F 1, C⟩ e1_0) (ok := fun w => true) (own := [4, 5]) (σ := σ) (m := []) (g := g) (fun j => Fz.D.tup [.int (x j), .int (y j)]) (fun j => Fz.D.int ((x j + t * y j) % p)) (List.range n) [] (by simp; exact Nat.le_trans hn (by decide)) (fun j hj r acc ha => by
      subst hσ
      rw [coL_cons]
      simp [e1_0, mulOk_l ht, hp0, Int.fmod_eq_emod_of_nonneg _ (Int.le_of_lt hp), ha])
    rw [this]
    rfl
  have c := c _ rfl
  have zz : zipD (rl n x) (rl n y) = (List.range n).map fun j => Fz.D.tup [.int (x j), .int (y j)] := by rw [rl_map, rl_map, zip_map]
  simp [exD, b1, zz]
  rw [c]
  simp [nlR (md := 0) hn, ntR' hn]
/-- row_times -/
theorem times_ok {m : Nat} (h : 0 < m) {p : Int} (hp : 0 < p) {n : Nat} (hn : n ≤ 1000) {t : Int} (ht : -(2 ^ 64) < t ∧ t < 2 ^ 64) (x : Vc) (g : List (List Fz.D)) :
    F m 0 [.int p, .int t, rw_ n x] g = .ok (rw_ n (scl p t x), g) := by
  rw [F0 h]
  have hp0 : ¬ p = 0 := by omega
  have c : ∀ σ, σ = [some (.int p), some (.int t), some (rw_ n x), none] → coL (asg (.nm 3)) (evC ⟨F 0, C⟩ .no) (evE ⟨F 0, C⟩ e0_0) (fun w => true) [3] σ (rl n x) ⟨σ, [], g⟩ [] = .ok (rl n (scl p t x), ⟨σ, [], g⟩) := by
    intro σ hσ
    have := coL_mp (bind := asg (.nm 3)) (test := evC ⟨F 0, C⟩ .no) (elt := evE ⟨F 0, C⟩ e0_0) (ok := fun w => true) (own := [3]) (σ := σ) (m := []) (g := g) (fun j => Fz.D.int (x j)) (fun j => Fz.D.int (scl p t x j)) (List.range n) [] (by simp; exact Nat.le_trans hn (by decide)) (fun j hj r acc ha => by
      subst hσ
      rw [coL_cons]
      simp [e0_0, scl, mulOk_l ht, hp0, Int.fmod_eq_emod_of_nonneg _ (Int.le_of_lt hp), ha])
    rw [rl_map, this]
    rfl
  have c := c _ rfl
  simp [exD, b0]
  rw [c]
  simp [nlR (md := 0) hn, ntR' hn]
/-! ### what undoes a number -/
theorem tb_2_1 (g : List (List Fz.D)) : exD ⟨F 2, C⟩ 5 b2 [.int 2, .int 1] g = .ok (.int 1, g) := by kernel_rfl
theorem tb_3_1 (g : List (List Fz.D)) : exD ⟨F 2, C⟩ 5 b2 [.int 3, .int 1] g = .ok (.int 1, g) := by kernel_rfl
theorem tb_3_2 (g : List (List Fz.D)) : exD ⟨F 2, C⟩ 5 b2 [.int 3, .int 2] g = .ok (.int 2, g) := by kernel_rfl
theorem tb_5_1 (g : List (List Fz.D)) : exD ⟨F 2, C⟩ 5 b2 [.int 5, .int 1] g = .ok (.int 1, g) := by kernel_rfl
theorem tb_5_2 (g : List (List Fz.D)) : exD ⟨F 2, C⟩ 5 b2 [.int 5, .int 2] g = .ok (.int 3, g) := by kernel_rfl
theorem tb_5_3 (g : List (List Fz.D)) : exD ⟨F 2, C⟩ 5 b2 [.int 5, .int 3] g = .ok (.int 2, g) := by kernel_rfl
theorem tb_5_4 (g : List (List Fz.D)) : exD ⟨F 2, C⟩ 5 b2 [.int 5, .int 4] g = .ok (.int 4, g) := by kernel_rfl
theorem tb_7_1 (g : List (List Fz.D)) : exD ⟨F 2, C⟩ 5 b2 [.int 7, .int 1] g = .ok (.int 1, g) := by kernel_rfl
theorem tb_7_2 (g : List (List Fz.D)) : exD ⟨F 2, C⟩ 5 b2 [.int 7, .int 2] g = .ok (.int 4, g) := by kernel_rfl
theorem tb_7_3 (g : List (List Fz.D)) : exD ⟨F 2, C⟩ 5 b2 [.int 7, .int 3] g = .ok (.int 5, g) := by kernel_rfl
theorem tb_7_4 (g : List (List Fz.D)) : exD ⟨F 2, C⟩ 5 b2 [.int 7, .int 4] g = .ok (.int 2, g) := by kernel_rfl
theorem tb_7_5 (g : List (List Fz.D)) : exD ⟨F 2, C⟩ 5 b2 [.int 7, .int 5] g = .ok (.int 3, g) := by kernel_rfl
theorem tb_7_6 (g : List (List Fz.D)) : exD ⟨F 2, C⟩ 5 b2 [.int 7, .int 6] g = .ok (.int 6, g) := by kernel_rfl
theorem lp_2_1 (g : List (List Fz.D)) : exD ⟨F 22, C⟩ 4 b22 [.int 1, .int 0, .int 2] g = .ok (.int 1, g) := by kernel_rfl
theorem lp_3_1 (g : List (List Fz.D)) : exD ⟨F 22, C⟩ 4 b22 [.int 1, .int 1, .int 3] g = .ok (.int 1, g) := by kernel_rfl
theorem lp_3_2 (g : List (List Fz.D)) : exD ⟨F 22, C⟩ 4 b22 [.int 2, .int 1, .int 3] g = .ok (.int 2, g) := by kernel_rfl
theorem lp_5_1 (g : List (List Fz.D)) : exD ⟨F 22, C⟩ 4 b22 [.int 1, .int 3, .int 5] g = .ok (.int 1, g) := by kernel_rfl
theorem lp_5_2 (g : List (List Fz.D)) : exD ⟨F 22, C⟩ 4 b22 [.int 2, .int 3, .int 5] g = .ok (.int 3, g) := by kernel_rfl
theorem lp_5_3 (g : List (List Fz.D)) : exD ⟨F 22, C⟩ 4 b22 [.int 3, .int 3, .int 5] g = .ok (.int 2, g) := by kernel_rfl
theorem lp_5_4 (g : List (List Fz.D)) : exD ⟨F 22, C⟩ 4 b22 [.int 4, .int 3, .int 5] g = .ok (.int 4, g) := by kernel_rfl
theorem lp_7_1 (g : List (List Fz.D)) : exD ⟨F 22, C⟩ 4 b22 [.int 1, .int 5, .int 7] g = .ok (.int 1, g) := by kernel_rfl
theorem lp_7_2 (g : List (List Fz.D)) : exD ⟨F 22, C⟩ 4 b22 [.int 2, .int 5, .int 7] g = .ok (.int 4, g) := by kernel_rfl
theorem lp_7_3 (g : List (List Fz.D)) : exD ⟨F 22, C⟩ 4 b22 [.int 3, .int 5, .int 7] g = .ok (.int 5, g) := by kernel_rfl
theorem lp_7_4 (g : List (List Fz.D)) : exD ⟨F 22, C⟩ 4 b22 [.int 4, .int 5, .int 7] g = .ok (.int 2, g) := by kernel_rfl
theorem lp_7_5 (g : List (List Fz.D)) : exD ⟨F 22, C⟩ 4 b22 [.int 5, .int 5, .int 7] g = .ok (.int 3, g) := by kernel_rfl
theorem lp_7_6 (g : List (List Fz.D)) : exD ⟨F 22, C⟩ 4 b22 [.int 6, .int 5, .int 7] g = .ok (.int 6, g) := by kernel_rfl
def Pp (p : Int) : Prop := p = 2 ∨ p = 3 ∨ p = 5 ∨ p = 7
theorem Pp.lo {p : Int} (h : Pp p) : 2 ≤ p := by unfold Pp at h; omega
theorem Pp.hi {p : Int} (h : Pp p) : p ≤ 10 := by unfold Pp at h; omega
theorem back_ok {m m2 : Nat} (h : 2 < m) (h2 : 22 < m2) {p : Int} (hp : Pp p) {x : Int} (h0 : 1 ≤ x) (h1 : x < p) : ∃ c : Int, (0 ≤ c ∧ c < p) ∧ (c * x) % p = 1 ∧ ∀ g, F m 2 [.int p, .int x] g = .ok (.int c, g) ∧ F m2 22 [.int x, .int (p - 2), .int p] g = .ok (.int c, g) := by
  rcases hp with rfl | rfl | rfl | rfl
  · rcases (by omega : x = 1) with rfl
    · exact ⟨1, by decide, by decide, fun g => ⟨by rw [F2 h]; exact tb_2_1 g, by rw [F22 h2]; exact lp_2_1 g⟩⟩
  · rcases (by omega : x = 1 ∨ x = 2) with rfl | rfl
    · exact ⟨1, by decide, by decide, fun g => ⟨by rw [F2 h]; exact tb_3_1 g, by rw [F22 h2]; exact lp_3_1 g⟩⟩
    · exact ⟨2, by decide, by decide, fun g => ⟨by rw [F2 h]; exact tb_3_2 g, by rw [F22 h2]; exact lp_3_2 g⟩⟩
  · rcases (by omega : x = 1 ∨ x = 2 ∨ x = 3 ∨ x = 4) with rfl | rfl | rfl | rfl
    · exact ⟨1, by decide, by decide, fun g => ⟨by rw [F2 h]; exact tb_5_1 g, by rw [F22 h2]; exact lp_5_1 g⟩⟩
    · exact ⟨3, by decide, by decide, fun g => ⟨by rw [F2 h]; exact tb_5_2 g, by rw [F22 h2]; exact lp_5_2 g⟩⟩
    · exact ⟨2, by decide, by decide, fun g => ⟨by rw [F2 h]; exact tb_5_3 g, by rw [F22 h2]; exact lp_5_3 g⟩⟩
    · exact ⟨4, by decide, by decide, fun g => ⟨by rw [F2 h]; exact tb_5_4 g, by rw [F22 h2]; exact lp_5_4 g⟩⟩
  · rcases (by omega : x = 1 ∨ x = 2 ∨ x = 3 ∨ x = 4 ∨ x = 5 ∨ x = 6) with rfl | rfl | rfl | rfl | rfl | rfl
    · exact ⟨1, by decide, by decide, fun g => ⟨by rw [F2 h]; exact tb_7_1 g, by rw [F22 h2]; exact lp_7_1 g⟩⟩
    · exact ⟨4, by decide, by decide, fun g => ⟨by rw [F2 h]; exact tb_7_2 g, by rw [F22 h2]; exact lp_7_2 g⟩⟩
    · exact ⟨5, by decide, by decide, fun g => ⟨by rw [F2 h]; exact tb_7_3 g, by rw [F22 h2]; exact lp_7_3 g⟩⟩
    · exact ⟨2, by decide, by decide, fun g => ⟨by rw [F2 h]; exact tb_7_4 g, by rw [F22 h2]; exact lp_7_4 g⟩⟩
    · exact ⟨3, by decide, by decide, fun g => ⟨by rw [F2 h]; exact tb_7_5 g, by rw [F22 h2]; exact lp_7_5 g⟩⟩
    · exact ⟨6, by decide, by decide, fun g => ⟨by rw [F2 h]; exact tb_7_6 g, by rw [F22 h2]; exact lp_7_6 g⟩⟩
end K10

namespace K10
open PySem Fz Rw
open LA (Vc Red clr scl redF Gd)
/-- where a row begins -/
def hdN (n : Nat) (f : Vc) : Option Nat := (List.range n).find? fun i => f i != 0
def hdD : Option Nat → Fz.D
  | some h => .int h
  | none => .non
theorem hdN_some {n : Nat} {f : Vc} {h : Nat} : hdN n f = some h ↔ h < n ∧ f h ≠ 0 ∧ ∀ j, j < h → f j = 0 := by
  unfold hdN
  rw [List.find?_range_eq_some]
  constructor
  · rintro ⟨h1, h2, h3⟩
    refine ⟨List.mem_range.mp h2, by simpa using h1, fun j hj => ?_⟩
    have := h3 j hj
    simpa using this
  · rintro ⟨h1, h2, h3⟩
    exact ⟨by simpa using h2, List.mem_range.mpr h1, fun j hj => by simpa using h3 j hj⟩
theorem hdN_none {n : Nat} {f : Vc} : hdN n f = none ↔ ∀ j, j < n → f j = 0 := by
  unfold hdN
  rw [List.find?_eq_none]
  constructor
  · intro h j hj
    have := h j (List.mem_range.mpr hj)
    simpa using this
  · intro h j hj
    have := h j (List.mem_range.mp hj)
    simpa using this
theorem head_ok {m : Nat} (h : 3 < m) {n : Nat} (hn : n ≤ 100) (f : Vc) (g : List (List Fz.D)) : F m 3 [rw_ n f] g = .ok (hdD (hdN n f), g) := by
  rw [F3 h]
  have c : ∀ σ, σ = [some (rw_ n f), none, none, none] → coL (asg (.tu [.nm 2, .nm 3])) (evC ⟨F 3, C⟩ c3_0) (evE ⟨F 3, C⟩ e3_0) (fun _ => true) [2, 3] σ ((List.range n).map fun i : Nat => Fz.D.tup [.int i, .int (f i)]) ⟨σ, [], g⟩ [] = .ok (((List.range n).filter fun i => f i != 0).map fun i : Nat => .int i, ⟨σ, [], g⟩) := by
    intro σ hσ
    have := coL_fil (bind := asg (.tu [.nm 2, .nm 3])) (test := evC ⟨F 3, C⟩ c3_0) (elt := evE ⟨F 3, C⟩ e3_0) (ok := fun _ => true) (own := [2, 3]) (σ := σ) (m := []) (g := g) (fun i : Nat => Fz.D.tup [.int i, .int (f i)]) (fun i : Nat => Fz.D.int i) (fun i => f i != 0) (List.range n) [] (by simp; exact Nat.le_trans hn (by decide)) (fun i hi r acc ha => by
      subst hσ
      rw [coL_cons]
      by_cases z : f i = 0
      · simp [c3_0, z]
      · simp [c3_0, e3_0, z, ha])
    rw [this]
    rfl
  have c := c _ rfl
  have ee : enuL 0 (rl n f) = (List.range n).map fun i : Nat => Fz.D.tup [.int i, .int (f i)] := enu_map _ n
  have ll : (((List.range n).filter fun i => f i != 0).map fun i : Nat => Fz.D.int i).length ≤ 100 := by
    rw [List.length_map]
    exact Nat.le_trans (List.length_filter_le _ _) (by rw [List.length_range]; exact hn)
  have pl : Pls 5 1 (((List.range n).filter fun i => f i != 0).map fun i : Nat => Fz.D.int i) := Pls_all fun d hd => by
    obtain ⟨i, hi, rfl⟩ := List.mem_map.mp hd
    have := List.mem_range.mp (List.mem_filter.mp hi).1
    have e : (10 : Nat) ^ 5 = 100000 := by decide
    exact Pl_int.mpr (by omega)
  have hh : (((List.range n).filter fun i => f i != 0).map fun i : Nat => Fz.D.int i).head? = (hdN n f).map fun i : Nat => .int i := by
    rw [List.head?_map, List.head?_filter]
    rfl
  have s1 : exS ⟨F 3, C⟩ (.set (.nm 1) (.co 0 (.tu [.nm 2, .nm 3]) (.enu (.v 0)) c3_0 e3_0 [2, 3])) ⟨[some (rw_ n f), none, none, none], [], g⟩ = .ok (.nx, ⟨[some (rw_ n f), some (.lst (((List.range n).filter fun i => f i != 0).map fun i : Nat => .int i)), none, none], [], g⟩) := by
    have nl : ∀ w, newL 0 (((List.range n).filter fun i => f i != 0).map fun i : Nat => Fz.D.int i) w = .ok (.lst (((List.range n).filter fun i => f i != 0).map fun i : Nat => Fz.D.int i), w) := fun w => nlS (by omega)
    simp [ee]
    rw [c]
    simp only [R.bd_ok, nl]
    rfl
  generalize ((List.range n).filter fun i => f i != 0).map (fun i : Nat => Fz.D.int i) = L at *
  have ne := fun {w : Wd} => ne_nilL pl (by decide) (w := w)
  unfold b3
  cases L with
  | nil =>
    have e : hdN n f = none := by
      cases q : hdN n f with
      | none => rfl
      | some k => rw [q] at hh; cases hh
    have ne : ∀ {w : Wd}, cmF .ne (.lst []) (.lst []) w = some false := ne
    rw [e]
    refine exD_rt (w1 := ⟨[some (rw_ n f), some (.lst []), none, none], [], g⟩) (d := .non) ((exB_step s1).trans ?_) rfl
    simp [ne]
  | cons d L =>
    obtain ⟨k, e, rfl⟩ : ∃ k : Nat, hdN n f = some k ∧ d = .int k := by
      cases q : hdN n f with
      | none => rw [q] at hh; cases hh
      | some k =>
        rw [q] at hh
        exact ⟨k, rfl, Option.some.inj hh⟩
    have ne : ∀ {w : Wd}, cmF .ne (.lst (.int k :: L)) (.lst []) w = some true := ne
    rw [e]
    refine exD_rt (w1 := ⟨[some (rw_ n f), some (.lst (.int k :: L)), none, none], [], g⟩) (d := .int k) ((exB_step s1).trans ?_) rfl
    simp [ne]
theorem times_bd {p c x : Int} (hp : Pp p) (h : 0 ≤ c ∧ c < p) : -(2 ^ 64) < c ∧ c < 2 ^ 64 := by
  have := hp.hi
  omega
/-- point_of -/
theorem point_ok {m : Nat} (h : 4 < m) {p : Int} (hp : Pp p) {n : Nat} (hn : n ≤ 100) {v : Vc} (hv : Red p n v) {k : Nat} (hk : hdN n v = some k) : ∃ c : Int, (c * v k) % p = 1 ∧ ∀ g, F m 4 [.int p, rw_ n v] g = .ok (rw_ n (scl p c v), g) := by
  obtain ⟨k1, k2, k3⟩ := hdN_some.mp hk
  have hb := hv k k1
  obtain ⟨c, hc, h1, h2⟩ := back_ok (m := 4) (m2 := 23) (by decide) (by decide) hp (x := v k) (by omega) (by omega)
  refine ⟨c, h1, fun g => ?_⟩
  rw [F4 h]
  have e1 := head_ok (m := 4) (by decide) hn v g
  rw [hk] at e1
  have e1 : F 4 3 [rw_ n v] g = .ok (.int k, g) := e1
  have e2 := (h2 g).1
  have lo := hp.lo
  have e3 := times_ok (m := 4) (by decide) (p := p) (by omega) (n := n) (by omega) (times_bd (x := 0) hp hc) v g
  have i1 : ∀ {w : Wd}, cmF .is (.int k) .non w = some false := rfl
  have g1 : (rl n v)[k]? = some (.int (v k)) := rl_get k1
  have s1 : exS ⟨F 4, C⟩ (.set (.nm 2) (.call 3 none (.cons (.v 1) .nil) .nil)) ⟨[some (.int p), some (rw_ n v), none], [], g⟩ = .ok (.nx, ⟨[some (.int p), some (rw_ n v), some (.int k)], [], g⟩) := by
    simp [e1, arrD]
  have s2 : exS ⟨F 4, C⟩ (.ite (.cm .is (.v 2) (.k .non)) [.dead] []) ⟨[some (.int p), some (rw_ n v), some (.int k)], [], g⟩ = .ok (.nx, ⟨[some (.int p), some (rw_ n v), some (.int k)], [], g⟩) := by
    simp [i1]
  have s3 : exS ⟨F 4, C⟩ (.ret (.call 0 none (.cons (.v 0) (.cons (.call 2 none (.cons (.v 0) (.cons (.ix (.v 1) (.v 2)) .nil)) .nil) (.cons (.v 1) .nil))) .nil)) ⟨[some (.int p), some (rw_ n v), some (.int k)], [], g⟩ = .ok (.rt (rw_ n (scl p c v)), ⟨[some (.int p), some (rw_ n v), some (.int k)], [], g⟩) := by
    simp [ix_nat k1, g1, e2, e3, arrD]
  exact exD_rt (w1 := ⟨[some (.int p), some (rw_ n v), some (.int k)], [], g⟩) (d := rw_ n (scl p c v)) ((exB_step s1).trans ((exB_step s2).trans (exB_rt s3))) (rs_ok _ (rw_ret n _))
/-- reduced -/
theorem red_ok {m : Nat} (h : 5 < m) {p : Int} (hp : Pp p) {n : Nat} (hn : n ≤ 100) {L : List (Nat × Vc)} (hL : ∀ q ∈ L, hdN n q.2 = some q.1) {S : Fz.D} (hS : S = spc n (L.map Prod.snd) ∨ S = lsp n (L.map Prod.snd)) {v : Vc} (hv : Red p n v) (g : List (List Fz.D)) :
    F m 5 [.int p, S, rw_ n v] g = .ok (rw_ n (redF p L v), g) := by
  rw [F5 h]
  have lo := hp.lo
  have hi := hp.hi
  have loop : ∀ (M : List (Nat × Vc)) (v : Vc), (∀ q ∈ M, hdN n q.2 = some q.1) → Red p n v → forL (asg (.nm 3)) (exB ⟨F 5, C⟩ b5_0) (postF [3, 4] false 0) (fun _ => true) ((M.map Prod.snd).map (rw_ n)) ⟨[some (.int p), some S, some (rw_ n v), none, none], [], g⟩ = .ok (.nx, ⟨[some (.int p), some S, some (rw_ n (redF p M v)), none, none], [], g⟩) := by
    intro M
    induction M with
    | nil => intro v _ _; rfl
    | cons q M ih =>
      intro v hM hv
      have hq := hM q List.mem_cons_self
      obtain ⟨k1, k2, k3⟩ := hdN_some.mp hq
      have e1 := head_ok (m := 5) (by decide) hn q.2 g
      rw [hq] at e1
      have e1 : F 5 3 [rw_ n q.2] g = .ok (.int q.1, g) := e1
      have g1 : (rl n v)[q.1]? = some (.int (v q.1)) := rl_get k1
      have hb := hv q.1 k1
      have ih := ih (clr p q.1 q.2 v) (fun r hr => hM r (List.mem_cons_of_mem _ hr)) (LA.clr_red (by omega))
      have a1 : asg (.nm 3) (rw_ n q.2) ⟨[some (.int p), some S, some (rw_ n v), none, none], [], g⟩ = some ⟨[some (.int p), some S, some (rw_ n v), some (rw_ n q.2), none], [], g⟩ := rfl
      have body : exB ⟨F 5, C⟩ b5_0 ⟨[some (.int p), some S, some (rw_ n v), some (rw_ n q.2), none], [], g⟩ = .ok (.nx, ⟨[some (.int p), some S, some (rw_ n (clr p q.1 q.2 v)), some (rw_ n q.2), some (.int (v q.1))], [], g⟩) := by
        have s1 : exS ⟨F 5, C⟩ (.set (.nm 4) (.ix (.v 2) (.call 3 none (.cons (.v 3) .nil) .nil))) ⟨[some (.int p), some S, some (rw_ n v), some (rw_ n q.2), none], [], g⟩ = .ok (.nx, ⟨[some (.int p), some S, some (rw_ n v), some (rw_ n q.2), some (.int (v q.1))], [], g⟩) := by
          simp [e1, arrD, ix_nat k1, g1]
        refine (exB_step s1).trans ?_
        by_cases z : v q.1 = 0
        · have e : rw_ n (clr p q.1 q.2 v) = rw_ n v := rw_congr (LA.clr_same hv z)
          rw [e]
          simp [z]
        · have e2 := rw_ok (m := 5) (by decide) (p := p) (by omega) (n := n) (by omega) (t := -(v q.1)) (by omega) v q.2 g
          have e3 : (fun j => (v j + -(v q.1) * q.2 j) % p) = clr p q.1 q.2 v := by
            funext j
            unfold clr
            rw [Int.neg_mul]
            rfl
          rw [e3] at e2
          simp [z, e2, arrD]
      rw [List.map_cons, List.map_cons, forL_cons, a1]
      simp only [R.of_some, R.bd_ok, body]
      exact ih
  have s1 : exS ⟨F 5, C⟩ (.for (.nm 3) (.seq (.v 1)) b5_0 [3, 4] false) ⟨[some (.int p), some S, some (rw_ n v), none, none], [], g⟩ = .ok (.nx, ⟨[some (.int p), some S, some (rw_ n (redF p L v)), none, none], [], g⟩) := by
    have e := loop L v hL hv
    rcases hS with rfl | rfl
    · rw [exS_for]
      simp only [evI_seq, evE_v, List.getElem?_cons_succ, List.getElem?_cons_zero, R.bd_ok, spc_seq, R.of_some]
      exact e
    · rw [exS_for]
      simp only [evI_seq, evE_v, List.getElem?_cons_succ, List.getElem?_cons_zero, R.bd_ok, lsp_seq, R.of_some]
      exact e
  unfold b5
  refine exD_rt (w1 := ⟨[some (.int p), some S, some (rw_ n (redF p L v)), none, none], [], g⟩) (d := rw_ n (redF p L v)) ((exB_step s1).trans ?_) (rs_ok _ (rw_ret n _))
  simp
end K10

namespace K10
open PySem Fz Rw
open LA (Vc Red clr scl redF Gd Span)
/-- reduced rows with their heads -/
structure Ok (p : Int) (n : Nat) (L : List (Nat × Vc)) : Prop where
  gd : Gd p n L
  inc : (L.map Prod.fst).Pairwise (· < ·)
  red : ∀ q ∈ L, Red p n q.2
theorem Ok.rref {p : Int} {n : Nat} {L : List (Nat × Vc)} (O : Ok p n L) : LA.Rref p n (L.map Prod.snd) (L.map Prod.fst) := O.gd.rref O.inc
theorem Ok.len {p : Int} {n : Nat} {L : List (Nat × Vc)} (O : Ok p n L) : L.length ≤ n := by
  have := LA.rref_le O.rref
  rwa [List.length_map] at this
theorem Ok.nil {p : Int} {n : Nat} : Ok p n [] := ⟨LA.Gd.nil, List.Pairwise.nil, fun _ h => nomatch h⟩
theorem gd_hd {p : Int} (hp : 1 < p) {n : Nat} {L : List (Nat × Vc)} (G : Gd p n L) (hr : ∀ q ∈ L, Red p n q.2) : ∀ q ∈ L, hdN n q.2 = some q.1 := fun q hq => by
  have h1 := G.lt q hq
  refine hdN_some.mpr ⟨h1, fun z => ?_, fun j hj => (hr q hq).zero (by omega) (G.lead q hq j hj) (by omega)⟩
  have := G.one q hq
  rw [z] at this
  exact LA.one_not hp this.symm
theorem span_ext {p : Int} {n : Nat} {B C : List Vc} (h1 : ∀ b ∈ B, Span p n C b) (h2 : ∀ c ∈ C, Span p n B c) (x : Vc) : Span p n B x ↔ Span p n C x :=
  ⟨fun h => (LA.span_sub C).span h1 h, fun h => (LA.span_sub B).span h2 h⟩
/-- pairs as they are sorted -/
def pD (n : Nat) (q : Nat × Vc) : Fz.D := .tup [.int q.1, rw_ n q.2]
def pQ (n : Nat) (q : Nat × Vc) : Int × List Fz.D := (q.1, rl n q.2)
theorem pD_pair {n : Nat} : ∀ L : List (Nat × Vc), pairD (L.map (pD n)) = some (L.map (pQ n))
  | [] => rfl
  | q :: L => by
    show (pairD (L.map (pD n))).map (fun xs => ((q.1 : Int), rl n q.2) :: xs) = _
    rw [pD_pair L]
    rfl
theorem sort_ok {n : Nat} {L : List (Nat × Vc)} (h0 : L ≠ []) (h64 : L.length < 64) (nd : (L.map Prod.fst).Nodup) : ∃ L' : List (Nat × Vc), L'.Perm L ∧ (L'.map Prod.fst).Pairwise (· < ·) ∧ ∀ w, biF .sorted 0 [.lst (L.map (pD n))] w = .ok (.lst (L'.map (pD n)), w) := by
  obtain ⟨L', pm, e⟩ := perm_back (pQ n) (sortP_perm (L.map (pQ n))) L rfl
  have srt := sortP_srt (L.map (pQ n))
  rw [e, List.pairwise_map] at srt
  have nd' : (L'.map Prod.fst).Nodup := (pm.map Prod.fst).nodup_iff.mpr nd
  refine ⟨L', pm, ?_, fun w => ?_⟩
  · have h1 : (L'.map Prod.fst).Pairwise (· ≤ ·) := List.pairwise_map.mpr (srt.imp fun {a b} h => by
      have : (a.1 : Int) ≤ b.1 := h
      omega)
    exact (List.Pairwise.and h1 nd').imp fun {a b} h => by
      have := h.1
      have := h.2
      omega
  · have h2 : intD (L.map (pD n)) = none := by cases L with
      | nil => exact absurd rfl h0
      | cons q L => rfl
    have h3 : tupD (L.map (pD n)) = none := by cases L with
      | nil => exact absurd rfl h0
      | cons q L => rfl
    show (if isT (.lst (L.map (pD n))) then R.err else (R.of (w.seq (.lst (L.map (pD n))))).bd fun xs => match intD xs with
      | some ns => newL 0 ((sortI ns).map Fz.D.int) w
      | none => match tupD xs with
        | some ts => if tupOk ts then newL 0 ((sortT ts).map tupI) w else .err
        | none => (R.of (pairD xs)).bd fun ps => if decide (ps.length < 64 ∧ (ps.map (·.1)).Nodup) then newL 0 ((sortP ps).map pairI) w else .err) = _
    simp only [isT_lst, Bool.false_eq_true, if_false, seq_lst, R.of_some, R.bd_ok, h2, h3, pD_pair, e]
    have nd2 : ((L.map (pQ n)).map (·.1)).Nodup := by
      rw [List.map_map]
      have : ((fun x : Int × List Fz.D => x.1) ∘ pQ n) = (fun k : Nat => (k : Int)) ∘ Prod.fst := rfl
      rw [this, ← List.map_map]
      exact LA.nodup_map nd fun x _ y _ h => by omega
    rw [if_pos (decide_eq_true ⟨by rw [List.length_map]; exact h64, nd2⟩)]
    have e2 : (L'.map (pQ n)).map pairI = L'.map (pD n) := by
      rw [List.map_map]
      rfl
    rw [e2]
    exact nlS (by rw [List.length_map, pm.length_eq]; omega)
theorem step_ok {m : Nat} (h : 6 < m) {p : Int} (hp : Pp p) {n : Nat} (hn : n ≤ 50) {L : List (Nat × Vc)} (O : Ok p n L) {v : Vc} (hv : Red p n v) :
    ∃ L' : List (Nat × Vc), Ok p n L' ∧ (∀ x, Span p n (L'.map Prod.snd) x ↔ Span p n (v :: L.map Prod.snd) x) ∧ ∀ g, F m 6 [.int p, lsp n (L.map Prod.snd), rw_ n v] g = .ok (lsp n (L'.map Prod.snd), g) := by
  have lo := hp.lo
  have hi := hp.hi
  have hd := gd_hd (by omega) O.gd O.red
  have ll := O.len
  have e5 := fun g => red_ok (m := 6) (by decide) hp (n := n) (by omega) hd (.inr rfl) hv g
  have rr : Red p n (redF p L v) := LA.redF_red (by omega) hv
  have sub : ∀ q ∈ L, Span p n (L.map Prod.snd) q.2 := fun q hq => Span.mem (List.mem_map.mpr ⟨q, hq, rfl⟩)
  generalize hr : redF p L v = r at *
  have e3 := fun g => head_ok (m := 6) (by decide) (n := n) (by omega) r g
  have s1 : ∀ g, exS ⟨F 6, C⟩ (.set (.nm 3) (.call 5 none (.cons (.v 0) (.cons (.v 1) (.cons (.v 2) .nil))) .nil)) ⟨[some (.int p), some (lsp n (L.map Prod.snd)), some (rw_ n v), none, none, none, none, none, none], [], g⟩ = .ok (.nx, ⟨[some (.int p), some (lsp n (L.map Prod.snd)), some (rw_ n v), some (rw_ n r), none, none, none, none, none], [], g⟩) := fun g => by
    simp [e5, arrD]
  cases hk : hdN n r with
  | none =>
    refine ⟨L, O, fun x => span_ext (fun b hb => Span.mem (List.mem_cons_of_mem _ hb)) (fun c hc => ?_) x, fun g => ?_⟩
    · rcases List.mem_cons.mp hc with rfl | hc
      · refine (LA.redF_sub (LA.span_sub _) sub).mp ?_
        rw [hr]
        have z := hdN_none.mp hk
        exact Span.zero.of_eq fun j hj => by rw [z j hj]; exact LA.M.refl 0
      · exact Span.mem hc
    · rw [F6 h]
      have e3 := e3 g
      rw [hk] at e3
      have e3 : F 6 3 [rw_ n r] g = .ok (.non, g) := e3
      have i1 : ∀ {w : Wd}, cmF .is .non .non w = some true := rfl
      have s2 : exS ⟨F 6, C⟩ (.ite (.cm .is (.call 3 none (.cons (.v 3) .nil) .nil) (.k .non)) [.ret (.v 1)] []) ⟨[some (.int p), some (lsp n (L.map Prod.snd)), some (rw_ n v), some (rw_ n r), none, none, none, none, none], [], g⟩ = .ok (.rt (lsp n (L.map Prod.snd)), ⟨[some (.int p), some (lsp n (L.map Prod.snd)), some (rw_ n v), some (rw_ n r), none, none, none, none, none], [], g⟩) := by
        simp [e3, arrD, i1]
      exact exD_rt (w1 := ⟨[some (.int p), some (lsp n (L.map Prod.snd)), some (rw_ n v), some (rw_ n r), none, none, none, none, none], [], g⟩) (d := lsp n (L.map Prod.snd)) ((exB_step (s1 g)).trans (exB_rt s2)) (rs_ok _ map_ret)
  | some k =>
    obtain ⟨k1, k2, k3⟩ := hdN_some.mp hk
    obtain ⟨c, hc1, e4⟩ := point_ok (m := 6) (by decide) hp (n := n) (by omega) rr hk
    generalize ht : scl p c r = t at *
    have tr : Red p n t := by rw [← ht]; exact LA.scl_red (by omega)
    have t1 : t k = 1 := by rw [← ht]; exact hc1
    have t0 : ∀ j, j < k → t j = 0 := fun j hj => by
      rw [← ht]
      show (c * r j) % p = 0
      rw [k3 j hj, Int.mul_zero, Int.zero_emod]
    have hkt : hdN n t = some k := hdN_some.mpr ⟨k1, by rw [t1]; decide, t0⟩
    have zr : ∀ q ∈ L, LA.M p (t q.1) 0 := fun q hq => by
      have a := LA.redF_zero (v := v) O.gd.one O.gd.off O.gd.nd q hq
      rw [hr] at a
      have b := LA.M.mul (LA.M.refl c) a
      rw [Int.mul_zero] at b
      rw [← ht]
      exact (LA.scl_M q.1).trans b
    have G := O.gd.add (by omega) k1 (by rw [t1]; exact LA.M.refl 1) (fun j hj => by rw [t0 j hj]; exact LA.M.refl 0) zr
    have red1 : ∀ q ∈ (k, t) :: L.map fun q => (q.1, clr p k t q.2), Red p n q.2 := mm_cons tr fun q hq => by
      obtain ⟨q0, h0, rfl⟩ := List.mem_map.mp hq
      exact LA.clr_red (by omega)
    -- the pairs
    let L1 : List (Nat × Vc) := (L.map fun q => (q.1, clr p k t q.2)) ++ [(k, t)]
    have pm1 : ((k, t) :: L.map fun q => (q.1, clr p k t q.2)).Perm L1 := (List.perm_append_singleton _ _).symm
    have G1 := G.perm pm1
    have hd1 := gd_hd (by omega) G1 fun q hq => red1 q (pm1.mem_iff.mpr hq)
    have ll1 : L1.length = L.length + 1 := by rw [List.length_append, List.length_map]; rfl
    obtain ⟨L2, pm2, inc2, e9⟩ := sort_ok (n := n) (L := L1) (by intro z; have := congrArg List.length z; rw [ll1] at this; cases this) (by omega) G1.nd
    refine ⟨L2, ⟨G1.perm pm2.symm, inc2, fun q hq => red1 q (pm1.mem_iff.mpr (pm2.mem_iff.mp hq))⟩, fun x => ?_, fun g => ?_⟩
    · -- what they make
      have a1 : ∀ x, Span p n (L2.map Prod.snd) x ↔ Span p n (((k, t) :: L.map fun q => (q.1, clr p k t q.2)).map Prod.snd) x := span_ext (fun b hb => Span.mem (((pm2.trans pm1.symm).map Prod.snd).mem_iff.mp hb)) (fun b hb => Span.mem (((pm2.trans pm1.symm).map Prod.snd).mem_iff.mpr hb))
      rw [a1, LA.add_span]
      refine span_ext (fun b hb => ?_) (fun b hb => ?_) x
      · rcases List.mem_cons.mp hb with rfl | hb
        · rw [← ht]
          refine (LA.span_sub _).scl ?_
          rw [← hr]
          exact (LA.redF_sub (LA.span_sub _) fun q hq => Span.mem (List.mem_cons_of_mem _ (List.mem_map.mpr ⟨q, hq, rfl⟩))).mpr (Span.mem List.mem_cons_self)
        · exact Span.mem (List.mem_cons_of_mem _ hb)
      · rcases List.mem_cons.mp hb with rfl | hb
        · have hrs : Span p n (t :: L.map Prod.snd) r := (LA.span_sub _).unscl (c := c) (d := r k) (by
            rw [Int.mul_comm]
            have := LA.M.emod (p := p) (c * r k)
            rw [hc1] at this
            exact this.symm) (by rw [ht]; exact Span.mem List.mem_cons_self)
          rw [← hr] at hrs
          exact (LA.redF_sub (LA.span_sub _) fun q hq => Span.mem (List.mem_cons_of_mem _ (List.mem_map.mpr ⟨q, hq, rfl⟩))).mp hrs
        · exact Span.mem (List.mem_cons_of_mem _ hb)
    · rw [F6 h]
      have e3a := e3 g
      rw [hk] at e3a
      have e3a : F 6 3 [rw_ n r] g = .ok (.int k, g) := e3a
      have e4 := e4 g
      have e3b := head_ok (m := 6) (by decide) (n := n) (by omega) t g
      rw [hkt] at e3b
      have e3b : F 6 3 [rw_ n t] g = .ok (.int k, g) := e3b
      have i1 : ∀ {w : Wd}, cmF .is (.int k) .non w = some false := rfl
      have s2 : exS ⟨F 6, C⟩ (.ite (.cm .is (.call 3 none (.cons (.v 3) .nil) .nil) (.k .non)) [.ret (.v 1)] []) ⟨[some (.int p), some (lsp n (L.map Prod.snd)), some (rw_ n v), some (rw_ n r), none, none, none, none, none], [], g⟩ = .ok (.nx, ⟨[some (.int p), some (lsp n (L.map Prod.snd)), some (rw_ n v), some (rw_ n r), none, none, none, none, none], [], g⟩) := by
        simp [e3a, arrD, i1]
      have s3 : exS ⟨F 6, C⟩ (.set (.nm 4) (.call 4 none (.cons (.v 0) (.cons (.v 3) .nil)) .nil)) ⟨[some (.int p), some (lsp n (L.map Prod.snd)), some (rw_ n v), some (rw_ n r), none, none, none, none, none], [], g⟩ = .ok (.nx, ⟨[some (.int p), some (lsp n (L.map Prod.snd)), some (rw_ n v), some (rw_ n r), some (rw_ n t), none, none, none, none], [], g⟩) := by
        simp [e4, arrD]
      have s4 : exS ⟨F 6, C⟩ (.set (.nm 5) (.call 3 none (.cons (.v 4) .nil) .nil)) ⟨[some (.int p), some (lsp n (L.map Prod.snd)), some (rw_ n v), some (rw_ n r), some (rw_ n t), none, none, none, none], [], g⟩ = .ok (.nx, ⟨[some (.int p), some (lsp n (L.map Prod.snd)), some (rw_ n v), some (rw_ n r), some (rw_ n t), some (.int k), none, none, none], [], g⟩) := by
        simp [e3b, arrD]
      have c5 : ∀ σ, σ = [some (.int p), some (lsp n (L.map Prod.snd)), some (rw_ n v), some (rw_ n r), some (rw_ n t), some (.int k), none, none, none] → coL (asg (.nm 7)) (evC ⟨F 6, C⟩ .no) (evE ⟨F 6, C⟩ e6_0) (fun _ => true) [7] σ (L.map fun q => rw_ n q.2) ⟨σ, [], g⟩ [] = .ok (L.map fun q => rw_ n (clr p k t q.2), ⟨σ, [], g⟩) := by
        intro σ hσ
        have := coL_mp (bind := asg (.nm 7)) (test := evC ⟨F 6, C⟩ .no) (elt := evE ⟨F 6, C⟩ e6_0) (ok := fun _ => true) (own := [7]) (σ := σ) (m := []) (g := g) (fun q : Nat × Vc => rw_ n q.2) (fun q => rw_ n (clr p k t q.2)) L [] (by simp; exact Nat.le_trans ll (Nat.le_trans hn (by decide))) (fun q hq rs acc ha => by
          have g1 : (rl n q.2)[k]? = some (.int (q.2 k)) := rl_get k1
          have hb := O.red q hq k k1
          have e2 := rw_ok (m := 6) (by decide) (p := p) (by omega) (n := n) (by omega) (t := -(q.2 k)) (by omega) q.2 t g
          have e3 : (fun j => (q.2 j + -(q.2 k) * t j) % p) = clr p k t q.2 := by
            funext j
            unfold clr
            rw [Int.neg_mul]
            rfl
          rw [e3] at e2
          subst hσ
          rw [coL_cons]
          simp [e6_0, ix_nat k1, g1, e2, arrD, ha])
        rw [this]
        rfl
      have c5 := c5 _ rfl
      have em : (L.map Prod.snd).map (rw_ n) = L.map fun q => rw_ n q.2 := by rw [List.map_map]; rfl
      have e1l : (L.map fun q => rw_ n (clr p k t q.2)) ++ [rw_ n t] = L1.map fun q => rw_ n q.2 := by
        show _ = ((L.map fun q => (q.1, clr p k t q.2)) ++ [(k, t)]).map fun q => rw_ n q.2
        rw [List.map_append, List.map_map]
        rfl
      have s5 : exS ⟨F 6, C⟩ (.set (.nm 6) (.op .add 0 (.co 0 (.nm 7) (.seq (.v 1)) .no e6_0 [7]) (.lst 0 (.cons (.v 4) .nil)))) ⟨[some (.int p), some (lsp n (L.map Prod.snd)), some (rw_ n v), some (rw_ n r), some (rw_ n t), some (.int k), none, none, none], [], g⟩ = .ok (.nx, ⟨[some (.int p), some (lsp n (L.map Prod.snd)), some (rw_ n v), some (rw_ n r), some (rw_ n t), some (.int k), some (.lst (L1.map fun q => rw_ n q.2)), none, none], [], g⟩) := by
        have nl : ∀ w, newL 0 (L.map fun q => rw_ n (clr p k t q.2)) w = .ok (.lst (L.map fun q => rw_ n (clr p k t q.2)), w) := fun w => nlS (by rw [List.length_map]; omega)
        have nl2 : ∀ w, newL 0 (L1.map fun q => rw_ n q.2) w = .ok (.lst (L1.map fun q => rw_ n q.2), w) := fun w => nlS (by rw [List.length_map]; omega)
        rw [exS_set, evE_op, evE_co]
        simp only [evI_seq, evE_v, List.getElem?_cons_succ, List.getElem?_cons_zero, R.bd_ok, lsp_seq, R.of_some, em]
        have c5' : coL (asg (.nm 7)) (evC ⟨F 6, C⟩ .no) (evE ⟨F 6, C⟩ e6_0) (Src.ok (srcOf (lsp n (L.map Prod.snd))) (L.map fun q => rw_ n q.2)) [7] [some (.int p), some (lsp n (L.map Prod.snd)), some (rw_ n v), some (rw_ n r), some (rw_ n t), some (.int k), none, none, none] (L.map fun q => rw_ n q.2) ⟨[some (.int p), some (lsp n (L.map Prod.snd)), some (rw_ n v), some (rw_ n r), some (rw_ n t), some (.int k), none, none, none], [], g⟩ [] = _ := c5
        rw [c5']
        simp only [R.bd_ok, nl]
        simp [addL, e1l, nl2]
      have c6 : ∀ σ, σ = [some (.int p), some (lsp n (L.map Prod.snd)), some (rw_ n v), some (rw_ n r), some (rw_ n t), some (.int k), some (.lst (L1.map fun q => rw_ n q.2)), none, none] → coL (asg (.nm 7)) (evC ⟨F 6, C⟩ .no) (evE ⟨F 6, C⟩ e6_1) (fun _ => true) [7] σ (L1.map fun q => rw_ n q.2) ⟨σ, [], g⟩ [] = .ok (L1.map (pD n), ⟨σ, [], g⟩) := by
        intro σ hσ
        have := coL_mp (bind := asg (.nm 7)) (test := evC ⟨F 6, C⟩ .no) (elt := evE ⟨F 6, C⟩ e6_1) (ok := fun _ => true) (own := [7]) (σ := σ) (m := []) (g := g) (fun q : Nat × Vc => rw_ n q.2) (pD n) L1 [] (by simp; rw [ll1]; exact Nat.le_trans (show L.length + 1 ≤ 100 by omega) (by decide)) (fun q hq rs acc ha => by
          have e2 := head_ok (m := 6) (by decide) (n := n) (by omega) q.2 g
          rw [hd1 q hq] at e2
          have e2 : F 6 3 [rw_ n q.2] g = .ok (.int q.1, g) := e2
          subst hσ
          rw [coL_cons]
          simp [e6_1, e2, arrD, ha]
          rfl)
        rw [this]
        rfl
      have c6 := c6 _ rfl
      have c7 : ∀ σ, σ = [some (.int p), some (lsp n (L.map Prod.snd)), some (rw_ n v), some (rw_ n r), some (rw_ n t), some (.int k), some (.lst (L1.map fun q => rw_ n q.2)), none, none] → coL (asg (.tu [.nm 8, .nm 7])) (evC ⟨F 6, C⟩ .no) (evE ⟨F 6, C⟩ e6_2) (fun _ => true) [8, 7] σ (L2.map (pD n)) ⟨σ, [], g⟩ [] = .ok (L2.map fun q => rw_ n q.2, ⟨σ, [], g⟩) := by
        intro σ hσ
        have := coL_mp (bind := asg (.tu [.nm 8, .nm 7])) (test := evC ⟨F 6, C⟩ .no) (elt := evE ⟨F 6, C⟩ e6_2) (ok := fun _ => true) (own := [8, 7]) (σ := σ) (m := []) (g := g) (pD n) (fun q : Nat × Vc => rw_ n q.2) L2 [] (by simp; rw [pm2.length_eq, ll1]; exact Nat.le_trans (show L.length + 1 ≤ 100 by omega) (by decide)) (fun q hq rs acc ha => by
          subst hσ
          rw [coL_cons]
          have a1 : asg (.tu [.nm 8, .nm 7]) (pD n q) ⟨[some (.int p), some (lsp n (L.map Prod.snd)), some (rw_ n v), some (rw_ n r), some (rw_ n t), some (.int k), some (.lst (L1.map fun q => rw_ n q.2)), none, none], [], g⟩ = some ⟨[some (.int p), some (lsp n (L.map Prod.snd)), some (rw_ n v), some (rw_ n r), some (rw_ n t), some (.int k), some (.lst (L1.map fun q => rw_ n q.2)), some (rw_ n q.2), some (.int q.1)], [], g⟩ := rfl
          have w0 : wipeD [some (.int p), some (lsp n (L.map Prod.snd)), some (rw_ n v), some (rw_ n r), some (rw_ n t), some (.int k), some (.lst (L1.map fun q => rw_ n q.2)), none, none] [8, 7] = [some (.int p), some (lsp n (L.map Prod.snd)), some (rw_ n v), some (rw_ n r), some (rw_ n t), some (.int k), some (.lst (L1.map fun q => rw_ n q.2)), none, none] := rfl
          rw [w0, a1]
          simp [e6_2, ha])
        rw [this]
        rfl
      have c7 := c7 _ rfl
      have e2l : L2.map (fun q => rw_ n q.2) = (L2.map Prod.snd).map (rw_ n) := by rw [List.map_map]; rfl
      have s6 : exS ⟨F 6, C⟩ (.ret (.co 0 (.tu [.nm 8, .nm 7]) (.seq (.bi .sorted 0 (.cons (.co 0 (.nm 7) (.seq (.v 6)) .no e6_1 [7]) .nil))) .no e6_2 [8, 7])) ⟨[some (.int p), some (lsp n (L.map Prod.snd)), some (rw_ n v), some (rw_ n r), some (rw_ n t), some (.int k), some (.lst (L1.map fun q => rw_ n q.2)), none, none], [], g⟩ = .ok (.rt (lsp n (L2.map Prod.snd)), ⟨[some (.int p), some (lsp n (L.map Prod.snd)), some (rw_ n v), some (rw_ n r), some (rw_ n t), some (.int k), some (.lst (L1.map fun q => rw_ n q.2)), none, none], [], g⟩) := by
        have nl : ∀ w, newL 0 (L1.map (pD n)) w = .ok (.lst (L1.map (pD n)), w) := fun w => nlS (by rw [List.length_map]; omega)
        have nl2 : ∀ w, newL 0 ((L2.map Prod.snd).map (rw_ n)) w = .ok (lsp n (L2.map Prod.snd), w) := fun w => nlP (by rw [List.length_map, pm2.length_eq]; omega)
        have ev : evE ⟨F 6, C⟩ (.bi .sorted 0 (.cons (.co 0 (.nm 7) (.seq (.v 6)) .no e6_1 [7]) .nil)) ⟨[some (.int p), some (lsp n (L.map Prod.snd)), some (rw_ n v), some (rw_ n r), some (rw_ n t), some (.int k), some (.lst (L1.map fun q => rw_ n q.2)), none, none], [], g⟩ = .ok (.lst (L2.map (pD n)), ⟨[some (.int p), some (lsp n (L.map Prod.snd)), some (rw_ n v), some (rw_ n r), some (rw_ n t), some (.int k), some (.lst (L1.map fun q => rw_ n q.2)), none, none], [], g⟩) := by
          rw [evE_bi, evEs_cons, evE_co]
          simp only [evI_seq, evE_v, List.getElem?_cons_succ, List.getElem?_cons_zero, R.bd_ok, seq_lst, R.of_some]
          have c6' : coL (asg (.nm 7)) (evC ⟨F 6, C⟩ .no) (evE ⟨F 6, C⟩ e6_1) (Src.ok (srcOf (.lst (L1.map fun q => rw_ n q.2))) (L1.map fun q => rw_ n q.2)) [7] [some (.int p), some (lsp n (L.map Prod.snd)), some (rw_ n v), some (rw_ n r), some (rw_ n t), some (.int k), some (.lst (L1.map fun q => rw_ n q.2)), none, none] (L1.map fun q => rw_ n q.2) ⟨[some (.int p), some (lsp n (L.map Prod.snd)), some (rw_ n v), some (rw_ n r), some (rw_ n t), some (.int k), some (.lst (L1.map fun q => rw_ n q.2)), none, none], [], g⟩ [] = _ := c6
          rw [c6']
          simp only [R.bd_ok, nl, evEs_nil, e9]
        rw [exS_ret, evE_co]
        simp only [evI_seq, ev, R.bd_ok, seq_lst, R.of_some]
        have c7' : coL (asg (.tu [.nm 8, .nm 7])) (evC ⟨F 6, C⟩ .no) (evE ⟨F 6, C⟩ e6_2) (Src.ok (srcOf (.lst (L2.map (pD n)))) (L2.map (pD n))) [8, 7] [some (.int p), some (lsp n (L.map Prod.snd)), some (rw_ n v), some (rw_ n r), some (rw_ n t), some (.int k), some (.lst (L1.map fun q => rw_ n q.2)), none, none] (L2.map (pD n)) ⟨[some (.int p), some (lsp n (L.map Prod.snd)), some (rw_ n v), some (rw_ n r), some (rw_ n t), some (.int k), some (.lst (L1.map fun q => rw_ n q.2)), none, none], [], g⟩ [] = _ := c7
        rw [c7', e2l]
        simp only [R.bd_ok, nl2]
      exact exD_rt (w1 := ⟨[some (.int p), some (lsp n (L.map Prod.snd)), some (rw_ n v), some (rw_ n r), some (rw_ n t), some (.int k), some (.lst (L1.map fun q => rw_ n q.2)), none, none], [], g⟩) (d := lsp n (L2.map Prod.snd)) ((exB_step (s1 g)).trans ((exB_step s2).trans ((exB_step s3).trans ((exB_step s4).trans ((exB_step s5).trans (exB_rt s6)))))) (rs_ok _ map_ret)
/-- space_of -/
theorem space_ok {m : Nat} (h : 7 < m) {p : Int} (hp : Pp p) {n : Nat} (hn : n ≤ 50) {fs : List Vc} (hf : ∀ f ∈ fs, Red p n f) {S : Fz.D} (hS : S = spc n fs ∨ S = lsp n fs) :
    ∃ L : List (Nat × Vc), Ok p n L ∧ (∀ x, Span p n (L.map Prod.snd) x ↔ Span p n fs x) ∧ ∀ g, F m 7 [.int p, .int n, S] g = .ok (spc n (L.map Prod.snd), g) := by
  have loop : ∀ (gs ds : List Vc) (L : List (Nat × Vc)), (∀ f ∈ gs, Red p n f) → Ok p n L → (∀ x, Span p n (L.map Prod.snd) x ↔ Span p n ds x) → ∃ L', Ok p n L' ∧ (∀ x, Span p n (L'.map Prod.snd) x ↔ Span p n (ds ++ gs) x) ∧
      ∀ g, forL (asg (.nm 4)) (exB ⟨F 7, C⟩ b7_0) (postF [4] false 0) (fun _ => true) (gs.map (rw_ n)) ⟨[some (.int p), some (.int n), some S, some (lsp n (L.map Prod.snd)), none], [], g⟩ = .ok (.nx, ⟨[some (.int p), some (.int n), some S, some (lsp n (L'.map Prod.snd)), none], [], g⟩) := by
    intro gs
    induction gs with
    | nil => intro ds L _ O hs; exact ⟨L, O, fun x => by rw [List.append_nil]; exact hs x, fun g => rfl⟩
    | cons f gs ih =>
      intro ds L hg O hs
      obtain ⟨L1, O1, h1, e1⟩ := step_ok (m := 7) (by decide) hp hn O (hg f List.mem_cons_self)
      obtain ⟨L2, O2, h2, e2⟩ := ih (ds ++ [f]) L1 (fun x hx => hg x (List.mem_cons_of_mem _ hx)) O1 fun x => (h1 x).trans (span_ext (fun b hb => by
        rcases List.mem_cons.mp hb with rfl | hb
        · exact Span.mem (List.mem_append_right _ List.mem_cons_self)
        · exact (LA.span_sub _).span (fun d hd => Span.mem (List.mem_append_left _ hd)) ((hs b).mp (Span.mem hb))) (fun b hb => by
        rcases List.mem_append.mp hb with hb | hb
        · exact (LA.span_sub _).span (fun d hd => Span.mem (List.mem_cons_of_mem _ hd)) ((hs b).mpr (Span.mem hb))
        · rw [List.mem_singleton.mp hb]; exact Span.mem List.mem_cons_self) x)
      refine ⟨L2, O2, fun x => by rw [h2 x, List.append_assoc]; rfl, fun g => ?_⟩
      have a1 : asg (.nm 4) (rw_ n f) ⟨[some (.int p), some (.int n), some S, some (lsp n (L.map Prod.snd)), none], [], g⟩ = some ⟨[some (.int p), some (.int n), some S, some (lsp n (L.map Prod.snd)), some (rw_ n f)], [], g⟩ := rfl
      have body : exB ⟨F 7, C⟩ b7_0 ⟨[some (.int p), some (.int n), some S, some (lsp n (L.map Prod.snd)), some (rw_ n f)], [], g⟩ = .ok (.nx, ⟨[some (.int p), some (.int n), some S, some (lsp n (L1.map Prod.snd)), some (rw_ n f)], [], g⟩) := by
        have := e1 g
        simp [b7_0, this, arrD]
      rw [List.map_cons, forL_cons, a1]
      simp only [R.of_some, R.bd_ok, body]
      exact e2 g
  obtain ⟨L, O, hs, e⟩ := loop fs [] [] hf Ok.nil fun x => Iff.rfl
  refine ⟨L, O, hs, fun g => ?_⟩
  rw [F7 h]
  have ll := O.len
  have s1 : exS ⟨F 7, C⟩ (.set (.nm 3) (.lst 0 .nil)) ⟨[some (.int p), some (.int n), some S, none, none], [], g⟩ = .ok (.nx, ⟨[some (.int p), some (.int n), some S, some (lsp n (([] : List (Nat × Vc)).map Prod.snd)), none], [], g⟩) := by
    simp
    rfl
  have s2 : exS ⟨F 7, C⟩ (.for (.nm 4) (.seq (.v 2)) b7_0 [4] false) ⟨[some (.int p), some (.int n), some S, some (lsp n (([] : List (Nat × Vc)).map Prod.snd)), none], [], g⟩ = .ok (.nx, ⟨[some (.int p), some (.int n), some S, some (lsp n (L.map Prod.snd)), none], [], g⟩) := by
    have e := e g
    rcases hS with rfl | rfl
    · rw [exS_for]
      simp only [evI_seq, evE_v, List.getElem?_cons_succ, List.getElem?_cons_zero, R.bd_ok, spc_seq, R.of_some]
      exact e
    · rw [exS_for]
      simp only [evI_seq, evE_v, List.getElem?_cons_succ, List.getElem?_cons_zero, R.bd_ok, lsp_seq, R.of_some]
      exact e
  have s3 : exS ⟨F 7, C⟩ (.ret (.bi .tuple 0 (.cons (.v 3) .nil))) ⟨[some (.int p), some (.int n), some S, some (lsp n (L.map Prod.snd)), none], [], g⟩ = .ok (.rt (spc n (L.map Prod.snd)), ⟨[some (.int p), some (.int n), some S, some (lsp n (L.map Prod.snd)), none], [], g⟩) := by
    have nt : ∀ w, newT ((L.map Prod.snd).map (rw_ n)) w = .ok (spc n (L.map Prod.snd), w) := fun w => ntP (by rw [List.length_map]; omega)
    simp only [exS_ret, evE_bi, evEs_cons, evEs_nil, evE_v, List.getElem?_cons_succ, List.getElem?_cons_zero, R.bd_ok, bq_tuple, lsp_seq, R.of_some, nt]
  exact exD_rt (w1 := ⟨[some (.int p), some (.int n), some S, some (lsp n (L.map Prod.snd)), none], [], g⟩) (d := spc n (L.map Prod.snd)) ((exB_step s1).trans ((exB_step s2).trans (exB_rt s3))) (rs_ok _ map_ret)
end K10

namespace K10
open PySem Fz Rw
open LA (Vc Red clr scl redF Gd Span)
def hdsD (L : List (Nat × Vc)) : List Fz.D := L.map fun q => .int q.1
theorem hds_ret {L : List (Nat × Vc)} : okRets (hdsD L) = true := okRets_all fun d hd => by
  obtain ⟨q, _, rfl⟩ := List.mem_map.mp hd
  rfl
theorem zip_self : ∀ L : List (Nat × Vc), (L.map Prod.fst).zip (L.map Prod.snd) = L
  | [] => rfl
  | q :: L => by rw [List.map_cons, List.map_cons, List.zip_cons_cons, zip_self L]
theorem Ok.hd {p : Int} (hp : 1 < p) {n : Nat} {L : List (Nat × Vc)} (O : Ok p n L) : ∀ q ∈ L, hdN n q.2 = some q.1 := gd_hd hp O.gd O.red
/-- heads_of -/
theorem heads_ok {m : Nat} (h : 8 < m) {p : Int} (hp : Pp p) {n : Nat} (hn : n ≤ 50) {L : List (Nat × Vc)} (O : Ok p n L) (g : List (List Fz.D)) : F m 8 [spc n (L.map Prod.snd)] g = .ok (.tup (hdsD L), g) := by
  rw [F8 h]
  have lo := hp.lo
  have ll := O.len
  have hd := O.hd (by omega)
  have c : ∀ σ, σ = [some (spc n (L.map Prod.snd)), none] → coL (asg (.nm 1)) (evC ⟨F 8, C⟩ .no) (evE ⟨F 8, C⟩ e8_0) (fun _ => true) [1] σ (L.map fun q => rw_ n q.2) ⟨σ, [], g⟩ [] = .ok (hdsD L, ⟨σ, [], g⟩) := by
    intro σ hσ
    have := coL_mp (bind := asg (.nm 1)) (test := evC ⟨F 8, C⟩ .no) (elt := evE ⟨F 8, C⟩ e8_0) (ok := fun _ => true) (own := [1]) (σ := σ) (m := []) (g := g) (fun q : Nat × Vc => rw_ n q.2) (fun q => Fz.D.int q.1) L [] (by simp; exact Nat.le_trans ll (Nat.le_trans hn (by decide))) (fun q hq rs acc ha => by
      have e2 := head_ok (m := 8) (by decide) (n := n) (by omega) q.2 g
      rw [hd q hq] at e2
      have e2 : F 8 3 [rw_ n q.2] g = .ok (.int q.1, g) := e2
      subst hσ
      rw [coL_cons]
      simp [e8_0, e2, arrD, ha])
    rw [this]
    rfl
  have c := c _ rfl
  have em : (L.map Prod.snd).map (rw_ n) = L.map fun q => rw_ n q.2 := by rw [List.map_map]; rfl
  have hl : (hdsD L).length ≤ 1000 := by unfold hdsD; rw [List.length_map]; omega
  have s1 : exS ⟨F 8, C⟩ (.ret (.bi .tuple 0 (.cons (.co 0 (.nm 1) (.seq (.v 0)) .no e8_0 [1]) .nil))) ⟨[some (spc n (L.map Prod.snd)), none], [], g⟩ = .ok (.rt (.tup (hdsD L)), ⟨[some (spc n (L.map Prod.snd)), none], [], g⟩) := by
    rw [exS_ret, evE_bi, evEs_cons, evE_co]
    simp only [evI_seq, evE_v, List.getElem?_cons_succ, List.getElem?_cons_zero, R.bd_ok, spc_seq, R.of_some, em]
    have c' : coL (asg (.nm 1)) (evC ⟨F 8, C⟩ .no) (evE ⟨F 8, C⟩ e8_0) (Src.ok (srcOf (spc n (L.map Prod.snd))) (L.map fun q => rw_ n q.2)) [1] [some (spc n (L.map Prod.snd)), none] (L.map fun q => rw_ n q.2) ⟨[some (spc n (L.map Prod.snd)), none], [], g⟩ [] = _ := c
    rw [c']
    simp only [R.bd_ok, nlS hl, evEs_nil, bq_tuple, seq_lst, R.of_some, ntS hl]
  exact exD_rt (w1 := ⟨[some (spc n (L.map Prod.snd)), none], [], g⟩) (d := .tup (hdsD L)) (exB_rt s1) (rs_ok _ hds_ret)
theorem red_span {p : Int} {n : Nat} {L : List (Nat × Vc)} (O : Ok p n L) {v : Vc} (hp : 0 < p) (hv : Red p n v) : (hdN n (redF p L v)).isNone = true ↔ Span p n (L.map Prod.snd) v := by
  have := LA.redF_in O.rref (v := v)
  rw [zip_self] at this
  rw [← this, Option.isNone_iff_eq_none, hdN_none]
  have hr := LA.redF_red (n := n) hp (L := L) hv
  exact ⟨fun h j hj => by rw [h j hj]; exact LA.M.refl 0, fun h j hj => hr.zero hj (h j hj) hp⟩
theorem add_spc {n md : Nat} {fs gs : List Vc} (h : fs.length + gs.length ≤ 1000) {w : Wd} : opF .add md (spc n fs) (spc n gs) w = .ok (spc n (fs ++ gs), w) := by
  have : opF .add md (spc n fs) (spc n gs) w = newT (fs.map (rw_ n) ++ gs.map (rw_ n)) w := rfl
  rw [this, ← List.map_append]
  exact ntP (by rw [List.length_append]; exact h)
theorem red_all {p : Int} {n : Nat} {L : List (Nat × Vc)} (O : Ok p n L) : ∀ f ∈ L.map Prod.snd, Red p n f := fun f hf => by
  obtain ⟨q, hq, rfl⟩ := List.mem_map.mp hf
  exact O.red q hq
def un (k : Nat) : Vc := fun j => if j = k then 1 else 0
theorem un_red {p : Int} (hp : 1 < p) {n k : Nat} : Red p n (un k) := fun j _ => by unfold un; split <;> omega
/-- unit_row -/
theorem unit_ok {m : Nat} (h : 9 < m) {n : Nat} (hn : n ≤ 1000) (k : Nat) (g : List (List Fz.D)) : F m 9 [.int n, .int k] g = .ok (rw_ n (un k), g) := by
  rw [F9 h]
  have c : ∀ σ, σ = [some (.int n), some (.int k), none] → coL (asg (.nm 2)) (evC ⟨F 9, C⟩ .no) (evE ⟨F 9, C⟩ e9_0) (fun _ => true) [2] σ ((List.range n).map fun j : Nat => .int j) ⟨σ, [], g⟩ [] = .ok (rl n (un k), ⟨σ, [], g⟩) := by
    intro σ hσ
    have := coL_mp (bind := asg (.nm 2)) (test := evC ⟨F 9, C⟩ .no) (elt := evE ⟨F 9, C⟩ e9_0) (ok := fun _ => true) (own := [2]) (σ := σ) (m := []) (g := g) (fun j : Nat => Fz.D.int j) (fun j => Fz.D.int (un k j)) (List.range n) [] (by simp; exact Nat.le_trans hn (by decide)) (fun j hj rs acc ha => by
      subst hσ
      rw [coL_cons]
      unfold un
      by_cases z : j = k
      · simp [e9_0, z, ha]
      · have z' : ¬ (j : Int) = k := by omega
        simp [e9_0, z, z', ha])
    rw [this]
    rfl
  have c := c _ rfl
  simp [exD, b9, rng_n (n := n) (by omega)]
  rw [c]
  simp [nlR (md := 0) hn, ntR' hn]
/-! ### what is beside -/
def setF (p : Int) (f : Nat) : List (Nat × Vc) → Vc → Vc
  | [], u => u
  | q :: L, u => setF p f L fun j => if j = q.1 then (-(q.2 f)) % p else u j
theorem setF_red {p : Int} (hp : 0 < p) {n f : Nat} : ∀ {L : List (Nat × Vc)} {u : Vc}, Red p n u → Red p n (setF p f L u)
  | [], _, h => h
  | q :: L, u, h => setF_red hp (L := L) fun j hj => by
    show 0 ≤ (if j = q.1 then (-(q.2 f)) % p else u j) ∧ (if j = q.1 then (-(q.2 f)) % p else u j) < p
    split
    · exact ⟨Int.emod_nonneg _ (by omega), Int.emod_lt_of_pos _ hp⟩
    · exact h j hj
theorem setF_M {p : Int} {f : Nat} : ∀ {L : List (Nat × Vc)} {u : Vc} (j : Nat), (L.map Prod.fst).Nodup → (∀ q ∈ L, LA.M p (u q.1) 0) → LA.M p (setF p f L u j) (u j - LA.pick (L.map Prod.fst) (L.map Prod.snd) f j)
  | [], u, j, _, _ => by
    show LA.M p (u j) (u j - 0)
    rw [Int.sub_zero]
    exact LA.M.refl _
  | q :: L, u, j, nd, hz => by
    obtain ⟨n1, n2⟩ := List.nodup_cons.mp nd
    have ih := setF_M (L := L) (u := fun j => if j = q.1 then (-(q.2 f)) % p else u j) (f := f) (p := p) j n2 fun r hr => by
      have : ¬ r.1 = q.1 := fun e => n1 (List.mem_map.mpr ⟨r, hr, e⟩)
      show LA.M p (if r.1 = q.1 then (-(q.2 f)) % p else u r.1) 0
      rw [if_neg this]
      exact hz r (List.mem_cons_of_mem _ hr)
    refine ih.trans ?_
    show LA.M p ((if j = q.1 then (-(q.2 f)) % p else u j) - LA.pick (L.map Prod.fst) (L.map Prod.snd) f j) (u j - ((if j = q.1 then q.2 f else 0) + LA.pick (L.map Prod.fst) (L.map Prod.snd) f j))
    by_cases e : j = q.1
    · rw [if_pos e, if_pos e]
      have a := hz q List.mem_cons_self
      rw [← e] at a
      have b := LA.M.sub (LA.M.emod (p := p) (-(q.2 f))) (LA.M.refl (LA.pick (L.map Prod.fst) (L.map Prod.snd) f j))
      have c := LA.M.sub a.symm (LA.M.refl (q.2 f + LA.pick (L.map Prod.fst) (L.map Prod.snd) f j))
      refine b.trans ?_
      rw [show (0 : Int) - (q.2 f + LA.pick (L.map Prod.fst) (L.map Prod.snd) f j) = -(q.2 f) - LA.pick (L.map Prod.fst) (L.map Prod.snd) f j by omega] at c
      exact c
    · rw [if_neg e, if_neg e, Int.zero_add]
      exact LA.M.refl _
def frs (n : Nat) (L : List (Nat × Vc)) : List Nat := LA.frees n (L.map Prod.fst)
/-- the rows beside -/
def bes (p : Int) (n : Nat) (L : List (Nat × Vc)) : List Vc := (frs n L).map fun f => setF p f L (un f)
theorem bes_span {p : Int} (hp : 1 < p) {n : Nat} {L : List (Nat × Vc)} (O : Ok p n L) (x : Vc) : Span p n (bes p n L) x ↔ LA.Perp p n (Span p n (L.map Prod.snd)) x := by
  rw [← LA.dual_span O.rref.toPiv]
  have key : ∀ f ∈ frs n L, LA.Eq' p n (setF p f L (un f)) (LA.dr (L.map Prod.snd) (L.map Prod.fst) f) := fun f hf j hj => by
    obtain ⟨h1, h2⟩ := LA.mem_frees.mp hf
    have := setF_M (p := p) (f := f) (L := L) (u := un f) j O.gd.nd fun q hq => by
      have : ¬ q.1 = f := fun e => h2 (List.mem_map.mpr ⟨q, hq, e⟩)
      show LA.M p (if q.1 = f then 1 else 0) 0
      rw [if_neg this]
      exact LA.M.refl 0
    exact this
  refine span_ext (fun b hb => ?_) (fun b hb => ?_) x
  · obtain ⟨f, hf, rfl⟩ := List.mem_map.mp hb
    exact Span.of_eq (Span.mem (List.mem_map.mpr ⟨f, hf, rfl⟩)) (key f hf)
  · obtain ⟨f, hf, rfl⟩ := List.mem_map.mp hb
    exact Span.of_eq (Span.mem (List.mem_map.mpr ⟨f, hf, rfl⟩)) (key f hf).symm
theorem bes_len {p : Int} (hp : 1 < p) {n : Nat} {L L' : List (Nat × Vc)} (O : Ok p n L) (O' : Ok p n L') (hs : ∀ x, Span p n (L'.map Prod.snd) x ↔ LA.Perp p n (Span p n (L.map Prod.snd)) x) : L'.length + L.length = n := by
  have h1 := LA.piv_len hp O'.rref.toPiv (LA.dual_piv O.rref.toPiv) fun v => (hs v).trans (LA.dual_span O.rref.toPiv).symm
  have h2 := LA.frees_len O.rref
  simp only [List.length_map] at h1 h2
  omega
theorem notin_hds {L : List (Nat × Vc)} {f : Nat} {w : Wd} : cmF .notin (.int f) (.tup (hdsD L)) w = some (!(L.map Prod.fst).contains f) := by
  have h1 : (hdsD L).all isFlat = true := by
    rw [List.all_eq_true]
    intro d hd
    obtain ⟨q, _, rfl⟩ := List.mem_map.mp hd
    rfl
  have h2 : ((hdsD L).any fun z => flatEq z (.int f)) = (L.map Prod.fst).contains f := by
    rw [Bool.eq_iff_iff, List.any_eq_true, List.contains_iff_mem, List.mem_map]
    constructor
    · rintro ⟨d, hd, e⟩
      obtain ⟨q, hq, rfl⟩ := List.mem_map.mp hd
      refine ⟨q, hq, ?_⟩
      have e : ((q.1 : Int) == (f : Int)) = true := e
      have := eq_of_beq e
      omega
    · rintro ⟨q, hq, rfl⟩
      exact ⟨_, List.mem_map.mpr ⟨q, hq, rfl⟩, show ((q.1 : Int) == (q.1 : Int)) = true from beq_self_eq_true _⟩
  show (if isFlat (.int f) then ((w.seq (.tup (hdsD L))).bind fun ys => if ys.all isFlat then some (!(ys.any fun z => flatEq z (.int f))) else none) else (inD (.int f) (.tup (hdsD L)) w).map fun b => !b) = _
  have hf : isFlat (Fz.D.int f) = true := rfl
  rw [if_pos hf, seq_tup, Option.bind_some, if_pos h1, h2]
/-- dot_space -/
theorem dot_ok {m : Nat} (h : 10 < m) {p : Int} (hp : Pp p) {n : Nat} (hn : n ≤ 50) {L : List (Nat × Vc)} (O : Ok p n L) :
    ∃ L' : List (Nat × Vc), Ok p n L' ∧ (∀ x, Span p n (L'.map Prod.snd) x ↔ LA.Perp p n (Span p n (L.map Prod.snd)) x) ∧ ∀ g, F m 10 [.int p, .int n, spc n (L.map Prod.snd)] g = .ok (spc n (L'.map Prod.snd), g) := by
  have lo := hp.lo
  have hi := hp.hi
  have ll := O.len
  have bl : (bes p n L).length ≤ n := by
    unfold bes frs LA.frees
    rw [List.length_map]
    exact Nat.le_trans (List.length_filter_le _ _) (by rw [List.length_range]; exact Nat.le_refl _)
  obtain ⟨L', O', hs, e7⟩ := space_ok (m := 10) (by decide) hp hn (fs := bes p n L) (fun f hf => by
    obtain ⟨k, _, rfl⟩ := List.mem_map.mp hf
    exact setF_red (by omega) (un_red (by omega))) (.inl rfl)
  refine ⟨L', O', fun x => (hs x).trans (bes_span (by omega) O x), fun g => ?_⟩
  rw [F10 h]
  have e8 := heads_ok (m := 10) (by decide) hp hn O g
  have hp0 : ¬ p = 0 := by omega
  have hpm : ∀ a : Int, a.fmod p = a % p := fun a => Int.fmod_eq_emod_of_nonneg _ (by omega)
  have rS : ∀ ρ φ, rsL ρ φ ((L.map Prod.snd).map (rw_ n)) = some ((L.map Prod.snd).map (rw_ n)) := fun ρ φ => rsL_ok _ map_ret
  -- a row's own items
  have inner : ∀ (f : Nat), f < n → ∀ (fd : List Fz.D) (M : List (Nat × Vc)) (u : Vc), (∀ q ∈ M, q ∈ L) → ∀ hd : Fz.D, forL (asg (.tu [.nm 7, .nm 8])) (exB ⟨F 10, C⟩ b10_0) (postF [7, 8] false 2) (fun _ => true) (M.map fun q => Fz.D.tup [.int q.1, rw_ n q.2]) ⟨[some (.int p), some (.int n), some (spc n (L.map Prod.snd)), some hd, some (.ref 0), some (.int f), some (.ref 1), none, none], [fd, rl n u], g⟩ = .ok (.nx, ⟨[some (.int p), some (.int n), some (spc n (L.map Prod.snd)), some hd, some (.ref 0), some (.int f), some (.ref 1), none, none], [fd, rl n (setF p f M u)], g⟩) := by
    intro f hf fd M
    induction M with
    | nil => intro u _ hd; rfl
    | cons q M ih =>
      intro u hM hd
      have k1 := O.gd.lt q (hM q List.mem_cons_self)
      have g1 : (rl n q.2)[f]? = some (.int (q.2 f)) := rl_get hf
      have ih := ih (fun j => if j = q.1 then (-(q.2 f)) % p else u j) (fun r hr => hM r (List.mem_cons_of_mem _ hr)) hd
      have lq : lsq (rl n u) = some (rl n u) := by
        unfold lsq
        have : isDc (rl n u) = false := by
          cases n with
          | zero => rfl
          | succ n => unfold rl; rw [List.range_succ_eq_map]; rfl
        rw [this]; rfl
      have a1 : asg (.tu [.nm 7, .nm 8]) (.tup [.int q.1, rw_ n q.2]) ⟨[some (.int p), some (.int n), some (spc n (L.map Prod.snd)), some hd, some (.ref 0), some (.int f), some (.ref 1), none, none], [fd, rl n u], g⟩ = some ⟨[some (.int p), some (.int n), some (spc n (L.map Prod.snd)), some hd, some (.ref 0), some (.int f), some (.ref 1), some (.int q.1), some (rw_ n q.2)], [fd, rl n u], g⟩ := rfl
      have body : exB ⟨F 10, C⟩ b10_0 ⟨[some (.int p), some (.int n), some (spc n (L.map Prod.snd)), some hd, some (.ref 0), some (.int f), some (.ref 1), some (.int q.1), some (rw_ n q.2)], [fd, rl n u], g⟩ = .ok (.nx, ⟨[some (.int p), some (.int n), some (spc n (L.map Prod.snd)), some hd, some (.ref 0), some (.int f), some (.ref 1), some (.int q.1), some (rw_ n q.2)], [fd, rl n fun j => if j = q.1 then (-(q.2 f)) % p else u j], g⟩) := by
        simp [b10_0, ix_nat hf, ix_nat k1, g1, hp0, hpm, lq, rl_set]
      rw [List.map_cons, forL_cons, a1]
      simp only [R.of_some, R.bd_ok, body]
      exact ih
  have s1 : exS ⟨F 10, C⟩ (.set (.tu [.nm 3, .nm 4]) (.tup (.cons (.call 8 none (.cons (.v 2) .nil) .nil) (.cons (.lst 1 .nil) .nil)))) ⟨[some (.int p), some (.int n), some (spc n (L.map Prod.snd)), none, none, none, none, none, none], [], g⟩ = .ok (.nx, ⟨[some (.int p), some (.int n), some (spc n (L.map Prod.snd)), some (.tup (hdsD L)), some (.ref 0), none, none, none, none], [[]], g⟩) := by
    have e0 : ∀ w : Wd, newL 1 [] w = .ok (.ref w.m.length, { w with m := w.m ++ [[]] }) := fun w => newL_1 (by decide)
    simp [e8, arrD, e0]
  have loop : ∀ (js : List Nat) (fs : List Vc), (∀ j ∈ js, j < n) → fs.length + js.length ≤ n → forL (asg (.nm 5)) (exB ⟨F 10, C⟩ b10_1) (postF [5, 6, 7, 8] true 1) (fun _ => true) (js.map fun j : Nat => .int j) ⟨[some (.int p), some (.int n), some (spc n (L.map Prod.snd)), some (.tup (hdsD L)), some (.ref 0), none, none, none, none], [fs.map (rw_ n)], g⟩ = .ok (.nx, ⟨[some (.int p), some (.int n), some (spc n (L.map Prod.snd)), some (.tup (hdsD L)), some (.ref 0), none, none, none, none], [(fs ++ (js.filter fun j => !(L.map Prod.fst).contains j).map fun f => setF p f L (un f)).map (rw_ n)], g⟩) := by
    intro js
    induction js with
    | nil =>
      intro fs _ _
      have e : (fs ++ (([] : List Nat).filter fun j => !(L.map Prod.fst).contains j).map fun f => setF p f L (un f)) = fs := List.append_nil _
      rw [e]
      rfl
    | cons j js ih =>
      intro fs hj hl
      have hjn := hj j List.mem_cons_self
      rw [List.length_cons] at hl
      have rH : ∀ ρ φ, rsL ρ φ (hdsD L) = some (hdsD L) := fun ρ φ => rsL_ok _ hds_ret
      have lq : ∀ gs : List Vc, lsq (gs.map (rw_ n)) = some (gs.map (rw_ n)) := fun gs => by
        unfold lsq
        have : isDc (gs.map (rw_ n)) = false := by cases gs <;> rfl
        rw [this]; rfl
      have a1 : asg (.nm 5) (.int j) ⟨[some (.int p), some (.int n), some (spc n (L.map Prod.snd)), some (.tup (hdsD L)), some (.ref 0), none, none, none, none], [fs.map (rw_ n)], g⟩ = some ⟨[some (.int p), some (.int n), some (spc n (L.map Prod.snd)), some (.tup (hdsD L)), some (.ref 0), some (.int j), none, none, none], [fs.map (rw_ n)], g⟩ := rfl
      have rM : ∀ ρ φ (gs : List Vc), rsL ρ φ (gs.map (rw_ n)) = some (gs.map (rw_ n)) := fun ρ φ gs => rsL_ok _ map_ret
      have gc1 : ∀ (gs : List Vc) (rest : List (List Fz.D)), Wd.gc ⟨[some (.int p), some (.int n), some (spc n (L.map Prod.snd)), some (.tup (hdsD L)), some (.ref 0), none, none, none, none], gs.map (rw_ n) :: rest, g⟩ 1 = some ⟨[some (.int p), some (.int n), some (spc n (L.map Prod.snd)), some (.tup (hdsD L)), some (.ref 0), none, none, none, none], [gs.map (rw_ n)], g⟩ := fun gs rest => by
        have k0 : keep 1 (gs.map (rw_ n) :: rest) 0 = some (.ref 0) := keep_lt (by decide)
        simp [gc_eq, rH, rM, k0]
      cases hc : (L.map Prod.fst).contains j with
      | true =>
        have ni := fun {w : Wd} => notin_hds (L := L) (f := j) (w := w)
        rw [hc] at ni
        have ih := ih fs (fun k hk => hj k (List.mem_cons_of_mem _ hk)) (by omega)
        have body : exB ⟨F 10, C⟩ b10_1 ⟨[some (.int p), some (.int n), some (spc n (L.map Prod.snd)), some (.tup (hdsD L)), some (.ref 0), some (.int j), none, none, none], [fs.map (rw_ n)], g⟩ = .ok (.nx, ⟨[some (.int p), some (.int n), some (spc n (L.map Prod.snd)), some (.tup (hdsD L)), some (.ref 0), some (.int j), none, none, none], [fs.map (rw_ n)], g⟩) := by
          simp [b10_1, ni]
        have pf : postF [5, 6, 7, 8] true 1 ⟨[some (.int p), some (.int n), some (spc n (L.map Prod.snd)), some (.tup (hdsD L)), some (.ref 0), some (.int j), none, none, none], [fs.map (rw_ n)], g⟩ = some ⟨[some (.int p), some (.int n), some (spc n (L.map Prod.snd)), some (.tup (hdsD L)), some (.ref 0), none, none, none, none], [fs.map (rw_ n)], g⟩ := gc1 fs []
        rw [List.map_cons, forL_cons, a1]
        simp only [R.of_some, R.bd_ok, body, pf, if_true]
        rw [List.filter_cons, hc]
        exact ih
      | false =>
        have ni := fun {w : Wd} => notin_hds (L := L) (f := j) (w := w)
        rw [hc] at ni
        have ih := ih (fs ++ [setF p j L (un j)]) (fun k hk => hj k (List.mem_cons_of_mem _ hk)) (by rw [List.length_append, List.length_singleton]; omega)
        have eu := unit_ok (m := 10) (by decide) (n := n) (by omega) j g
        have inn := inner j hjn (fs.map (rw_ n)) L (un j) (fun _ h => h) (.tup (hdsD L))
        have zz : zipD (hdsD L) ((L.map Prod.snd).map (rw_ n)) = L.map fun q => Fz.D.tup [.int q.1, rw_ n q.2] := by
          rw [List.map_map]
          exact zip_map (fun q : Nat × Vc => Fz.D.int q.1) (fun q => rw_ n q.2) L
        have t1 : exS ⟨F 10, C⟩ (.set (.nm 6) (.bi .list 1 (.cons (.call 9 none (.cons (.v 1) (.cons (.v 5) .nil)) .nil) .nil))) ⟨[some (.int p), some (.int n), some (spc n (L.map Prod.snd)), some (.tup (hdsD L)), some (.ref 0), some (.int j), none, none, none], [fs.map (rw_ n)], g⟩ = .ok (.nx, ⟨[some (.int p), some (.int n), some (spc n (L.map Prod.snd)), some (.tup (hdsD L)), some (.ref 0), some (.int j), some (.ref 1), none, none], [fs.map (rw_ n), rl n (un j)], g⟩) := by
          have e1 : ∀ w : Wd, newL 1 (rl n (un j)) w = .ok (.ref w.m.length, { w with m := w.m ++ [rl n (un j)] }) := fun w => newL_1 (by rw [rl_len]; exact Nat.le_trans hn (by decide))
          simp [eu, arrD, e1]
        have t2 : exS ⟨F 10, C⟩ (.for (.tu [.nm 7, .nm 8]) (.zip (.v 3) (.v 2)) b10_0 [7, 8] false) ⟨[some (.int p), some (.int n), some (spc n (L.map Prod.snd)), some (.tup (hdsD L)), some (.ref 0), some (.int j), some (.ref 1), none, none], [fs.map (rw_ n), rl n (un j)], g⟩ = .ok (.nx, ⟨[some (.int p), some (.int n), some (spc n (L.map Prod.snd)), some (.tup (hdsD L)), some (.ref 0), some (.int j), some (.ref 1), none, none], [fs.map (rw_ n), rl n (setF p j L (un j))], g⟩) := by
          rw [exS_for]
          simp [zz, -List.map_map]
          exact inn
        have lr : ∀ u : Vc, lsq (rl n u) = some (rl n u) := fun u => by
          unfold lsq
          have : isDc (rl n u) = false := by
            cases n with
            | zero => rfl
            | succ n => unfold rl; rw [List.range_succ_eq_map]; rfl
          rw [this]; rfl
        have t3 : exS ⟨F 10, C⟩ (.ex (.me .append (.v 4) (.cons (.bi .tuple 0 (.cons (.v 6) .nil)) .nil))) ⟨[some (.int p), some (.int n), some (spc n (L.map Prod.snd)), some (.tup (hdsD L)), some (.ref 0), some (.int j), some (.ref 1), none, none], [fs.map (rw_ n), rl n (setF p j L (un j))], g⟩ = .ok (.nx, ⟨[some (.int p), some (.int n), some (spc n (L.map Prod.snd)), some (.tup (hdsD L)), some (.ref 0), some (.int j), some (.ref 1), none, none], [(fs ++ [setF p j L (un j)]).map (rw_ n), rl n (setF p j L (un j))], g⟩) := by
          have lt : fs.length < mxLen := Nat.lt_of_le_of_lt (show fs.length ≤ 50 by omega) (by decide)
          simp [lq, lr, ntR' (m := n) (show n ≤ 1000 by omega), lt]
        have body : exB ⟨F 10, C⟩ b10_1 ⟨[some (.int p), some (.int n), some (spc n (L.map Prod.snd)), some (.tup (hdsD L)), some (.ref 0), some (.int j), none, none, none], [fs.map (rw_ n)], g⟩ = .ok (.nx, ⟨[some (.int p), some (.int n), some (spc n (L.map Prod.snd)), some (.tup (hdsD L)), some (.ref 0), some (.int j), some (.ref 1), none, none], [(fs ++ [setF p j L (un j)]).map (rw_ n), rl n (setF p j L (un j))], g⟩) := by
          have tt : evT ⟨F 10, C⟩ (.cm .notin (.v 5) (.v 3)) ⟨[some (.int p), some (.int n), some (spc n (L.map Prod.snd)), some (.tup (hdsD L)), some (.ref 0), some (.int j), none, none, none], [fs.map (rw_ n)], g⟩ = .ok (true, ⟨[some (.int p), some (.int n), some (spc n (L.map Prod.snd)), some (.tup (hdsD L)), some (.ref 0), some (.int j), none, none, none], [fs.map (rw_ n)], g⟩) := by
            simp [ni]
          unfold b10_1
          rw [exB_cons, exS_ite, tt]
          simp only [R.bd_ok, if_true]
          rw [exB_step t1, exB_step t2, exB_step t3]
          rfl
        have pf : postF [5, 6, 7, 8] true 1 ⟨[some (.int p), some (.int n), some (spc n (L.map Prod.snd)), some (.tup (hdsD L)), some (.ref 0), some (.int j), some (.ref 1), none, none], [(fs ++ [setF p j L (un j)]).map (rw_ n), rl n (setF p j L (un j))], g⟩ = some ⟨[some (.int p), some (.int n), some (spc n (L.map Prod.snd)), some (.tup (hdsD L)), some (.ref 0), none, none, none, none], [(fs ++ [setF p j L (un j)]).map (rw_ n)], g⟩ := gc1 _ _
        rw [List.map_cons, forL_cons, a1]
        simp only [R.of_some, R.bd_ok, body, pf, if_true]
        rw [List.filter_cons, hc]
        rw [List.append_assoc] at ih
        exact ih
  have e := loop (List.range n) [] (fun j hj => List.mem_range.mp hj) (by rw [List.length_range]; exact Nat.le_of_eq (Nat.zero_add n))
  have s2 : exS ⟨F 10, C⟩ (.for (.nm 5) (.rng (.cons (.v 1) .nil)) b10_1 [5, 6, 7, 8] true) ⟨[some (.int p), some (.int n), some (spc n (L.map Prod.snd)), some (.tup (hdsD L)), some (.ref 0), none, none, none, none], [[]], g⟩ = .ok (.nx, ⟨[some (.int p), some (.int n), some (spc n (L.map Prod.snd)), some (.tup (hdsD L)), some (.ref 0), none, none, none, none], [(bes p n L).map (rw_ n)], g⟩) := by
    rw [exS_for]
    simp only [evI_rng, evEs_cons, evEs_nil, evE_v, List.getElem?_cons_succ, List.getElem?_cons_zero, R.bd_ok, rng_n (n := n) (show n ≤ 1000000 by omega), R.of_some]
    exact e
  have s3 : exS ⟨F 10, C⟩ (.ret (.call 7 none (.cons (.v 0) (.cons (.v 1) (.cons (.bi .tuple 0 (.cons (.v 4) .nil)) .nil))) .nil)) ⟨[some (.int p), some (.int n), some (spc n (L.map Prod.snd)), some (.tup (hdsD L)), some (.ref 0), none, none, none, none], [(bes p n L).map (rw_ n)], g⟩ = .ok (.rt (spc n (L'.map Prod.snd)), ⟨[some (.int p), some (.int n), some (spc n (L.map Prod.snd)), some (.tup (hdsD L)), some (.ref 0), none, none, none, none], [(bes p n L).map (rw_ n)], g⟩) := by
    have nt : ∀ w, newT ((bes p n L).map (rw_ n)) w = .ok (spc n (bes p n L), w) := fun w => ntP (by omega)
    have lq : lsq ((bes p n L).map (rw_ n)) = some ((bes p n L).map (rw_ n)) := by
      unfold lsq
      have : isDc ((bes p n L).map (rw_ n)) = false := by cases bes p n L <;> rfl
      rw [this]; rfl
    have e7 := e7 g
    simp [lq, nt, e7, arrD]
  exact exD_rt (w1 := ⟨[some (.int p), some (.int n), some (spc n (L.map Prod.snd)), some (.tup (hdsD L)), some (.ref 0), none, none, none, none], [(bes p n L).map (rw_ n)], g⟩) (d := spc n (L'.map Prod.snd)) ((exB_step s1).trans ((exB_step s2).trans (exB_rt s3))) (rs_ok _ map_ret)
end K10

namespace K10
open PySem Fz Rw
open LA (Vc Red clr scl redF Gd Span)
/-- one space, told by its rows -/
abbrev Sp (p : Int) (n : Nat) (L : List (Nat × Vc)) : Vc → Prop := Span p n (L.map Prod.snd)
abbrev dS (n : Nat) (L : List (Nat × Vc)) : Fz.D := spc n (L.map Prod.snd)
/-- as rows, the same -/
theorem ok_eq {p : Int} (hp : 1 < p) {n : Nat} {A B : List (Nat × Vc)} (OA : Ok p n A) (OB : Ok p n B) (h : ∀ x, Sp p n A x ↔ Sp p n B x) : dS n A = dS n B := by
  obtain ⟨e1, e2⟩ := LA.rref_one hp OA.rref OB.rref h
  have hl : A.length = B.length := by
    have := congrArg List.length e1
    simpa using this
  unfold dS spc
  congr 1
  refine List.ext_getElem (by simp [hl]) fun i h1 h2 => ?_
  simp only [List.length_map] at h1 h2
  simp only [List.getElem_map]
  have e := e2 i A[i].2 B[i].2 (by simp [h1]) (by simp [h2])
  refine rw_congr fun j hj => LA.M.eq (e j hj) (OA.red _ (List.getElem_mem h1) j hj) (OB.red _ (List.getElem_mem h2) j hj)
theorem perp_ext {p : Int} {n : Nat} {S T : Vc → Prop} (h : ∀ x, S x ↔ T x) (x : Vc) : LA.Perp p n S x ↔ LA.Perp p n T x :=
  ⟨fun k u hu => k u ((h u).mpr hu), fun k u hu => k u ((h u).mp hu)⟩
theorem perp_app {p : Int} {n : Nat} {B C : List Vc} (x : Vc) : LA.Perp p n (Span p n (B ++ C)) x ↔ LA.Perp p n (Span p n B) x ∧ LA.Perp p n (Span p n C) x := by
  rw [LA.perp_span, LA.perp_span, LA.perp_span]
  constructor
  · exact fun h => ⟨fun b hb => h b (List.mem_append_left _ hb), fun b hb => h b (List.mem_append_right _ hb)⟩
  · rintro ⟨h1, h2⟩ b hb
    rcases List.mem_append.mp hb with hb | hb
    · exact h1 b hb
    · exact h2 b hb
theorem app_ext {p : Int} {n : Nat} {A B : List Vc} {A' B' : List Vc} (h1 : ∀ x, Span p n A x ↔ Span p n A' x) (h2 : ∀ x, Span p n B x ↔ Span p n B' x) : ∀ x, Span p n (A ++ B) x ↔ Span p n (A' ++ B') x := fun x => by
  rw [LA.span_app, LA.span_app]
  constructor
  · rintro ⟨u, w, a, b, e⟩
    exact ⟨u, w, (h1 u).mp a, (h2 w).mp b, e⟩
  · rintro ⟨u, w, a, b, e⟩
    exact ⟨u, w, (h1 u).mpr a, (h2 w).mpr b, e⟩
/-- met: what both have -/
theorem met_span {p : Int} {n : Nat} {A B A' B' J L : List (Nat × Vc)} (OA : Ok p n A) (OB : Ok p n B) (hA : ∀ x, Sp p n A' x ↔ LA.Perp p n (Sp p n A) x) (hB : ∀ x, Sp p n B' x ↔ LA.Perp p n (Sp p n B) x)
    (hJ : ∀ x, Sp p n J x ↔ Span p n (A'.map Prod.snd ++ B'.map Prod.snd) x) (hL : ∀ x, Sp p n L x ↔ LA.Perp p n (Sp p n J) x) (x : Vc) : Sp p n L x ↔ Sp p n A x ∧ Sp p n B x := by
  rw [hL, perp_ext hJ, perp_app, perp_ext hA, perp_ext hB]
  exact and_congr (LA.perp_perp OA.rref.toPiv) (LA.perp_perp OB.rref.toPiv)
end K10

namespace K10
open PySem Fz Rw
open LA (Vc Red clr scl redF Gd Span)
theorem of18 {n : Nat} (h : 18 < n) {g : List (List Fz.D)} (hg : Pot g) {m : Int} (h1 : 1 ≤ m) (h2 : m < 1000000) : ∃ (r : Nat) (g' : List (List Fz.D)), F n 18 [.g 1, .int m] g = .ok (.int r, g') ∧ Pot g' ∧ (r : Int) < m := by
  obtain ⟨r, g', e, p, r0, r1⟩ := of_ok (P := ⟨F 18, C⟩) hg h1 (by omega)
  obtain ⟨k, rfl⟩ : ∃ k : Nat, r = (k : Int) := ⟨r.toNat, by omega⟩
  exact ⟨k, g', by rw [F18 h]; exact e, p, r1⟩
theorem one19 {n : Nat} (h : 19 < n) {g : List (List Fz.D)} (hg : Pot g) (l : List Fz.D) (h0 : 0 < l.length) (h1 : l.length < 1000000) (hr : okRets l = true) : ∃ (x : Fz.D) (g' : List (List Fz.D)), F n 19 [.g 1, .lst l] g = .ok (x, g') ∧ Pot g' ∧ x ∈ l := by
  obtain ⟨i, hi, g', e, p⟩ := one_ok (P := ⟨F 19, C⟩) (P2 := ⟨F 18, C⟩) (j := 18) (F18 (by decide)) hg (ds := l) h0 h1 hr
  exact ⟨l[i], g', by rw [F19 h]; exact e, p, List.getElem_mem hi⟩
def Z (p : Int) (d : Fz.D) : Prop := ∃ x : Int, d = .int x ∧ 0 ≤ x ∧ x < p
def zOf : Fz.D → Int
  | .int x => x
  | _ => 0
theorem Z_row {p : Int} {ys : List Fz.D} (h : ∀ y ∈ ys, Z p y) : ∃ f : Vc, ys = rl ys.length f ∧ Red p ys.length f := by
  refine ⟨fun i => zOf (ys[i]?.getD .non), ?_, ?_⟩
  · refine List.ext_getElem (by rw [rl_len]) fun i h1 h2 => ?_
    rw [rl_at, List.getElem?_eq_getElem h1]
    obtain ⟨x, e, _⟩ := h ys[i] (List.getElem_mem h1)
    show ys[i] = .int (zOf ys[i])
    rw [e]
    rfl
  · intro i hi
    obtain ⟨x, e, h0⟩ := h ys[i] (List.getElem_mem hi)
    show 0 ≤ zOf (ys[i]?.getD .non) ∧ zOf (ys[i]?.getD .non) < p
    rw [List.getElem?_eq_getElem hi]
    show 0 ≤ zOf ys[i] ∧ zOf ys[i] < p
    rw [e]
    exact h0
theorem row26 {m : Nat} (h : 29 < m) {g : List (List Fz.D)} (hg : Pot g) {p : Int} (hp : Pp p) {n : Nat} (hn : n ≤ 50) :
    ∃ (f : Vc) (g' : List (List Fz.D)), F m 29 [.g 1, .int p, .int n] g = .ok (rw_ n f, g') ∧ Pot g' ∧ Red p n f := by
  have lo := hp.lo
  have hi := hp.hi
  rw [F29 h]
  obtain ⟨ys, g', hl, hq, hg', e⟩ := coL_draw (P := ⟨F 29, C⟩) (e := e29_0) (t := 3) (ok := fun _ => true) (own := [3]) (σ := [some (.g 1), some (.int p), some (.int n), none]) (m := []) (Z p) Pot (fun _ => rfl) ((List.range n).map fun j : Nat => .int j) [] g hg (fun _ h => nomatch h) (by simp; exact Nat.le_trans hn (by decide)) (fun x hx g hg => by
     obtain ⟨j, _, rfl⟩ := List.mem_map.mp hx
     obtain ⟨r, g1, e1, p1, b1⟩ := of18 (n := 29) (by decide) hg (m := 3) (by decide) (by decide)
     obtain ⟨r2, g2, e2, p2, b2⟩ := of18 (n := 29) (by decide) p1 (m := p) (by omega) (by omega)
     show ∃ y σ' g', evE ⟨F 29, C⟩ e29_0 ⟨[some (.g 1), some (.int p), some (.int n), some (.int j)], [], g⟩ = _ ∧ _
     by_cases z : 0 < r
     · exact ⟨.int r2, _, g2, by simp [e29_0, e1, e2, z, arrD]; rfl, p2, ⟨r2, rfl, by omega, by omega⟩⟩
     · exact ⟨.int 0, _, g1, by simp [e29_0, e1, z, arrD]; rfl, p1, ⟨0, rfl, by omega, by omega⟩⟩)
  obtain ⟨f, ef, hf⟩ := Z_row hq
  have hl : ys.length = n := by simpa using hl
  rw [hl] at ef hf
  subst ef
  refine ⟨f, g', ?_, hg', hf⟩
  have s1 : exS ⟨F 29, C⟩ (.ret (.bi .tuple 0 (.cons (.co 0 (.nm 3) (.rng (.cons (.v 2) .nil)) .no e29_0 [3]) .nil))) ⟨[some (.g 1), some (.int p), some (.int n), none], [], g⟩ = .ok (.rt (rw_ n f), ⟨[some (.g 1), some (.int p), some (.int n), none], [], g'⟩) := by
    simp [rng_n (n := n) (by omega)]
    rw [e]
    simp [nlR (md := 0) (m := n) (by omega), ntR' (m := n) (by omega)]
  exact exD_rt (w1 := ⟨[some (.g 1), some (.int p), some (.int n), none], [], g'⟩) (d := rw_ n f) (exB_rt s1) (rs_ok _ (rw_ret n f))
/-- a row as a list -/
def rwl (n : Nat) (f : Vc) : Fz.D := .lst (rl n f)
@[simp] theorem rwl_rs {ρ : Nat → Option Fz.D} {φ : Bool} {n : Nat} {f : Vc} : rs ρ φ (rwl n f) = some (rwl n f) := rs_ok _ rl_ok
@[simp] theorem rwl_seq {n : Nat} {f : Vc} {w : Wd} : w.seq (rwl n f) = some (rl n f) := rfl
@[simp] theorem rwl_isT {n : Nat} {f : Vc} : isT (rwl n f) = false := rfl
@[simp] theorem rwl_src {n : Nat} {f : Vc} : srcOf (rwl n f) = .non := rfl
@[simp] theorem rwl_len {n md : Nat} {f : Vc} {w : Wd} : biF .len md [rwl n f] w = .ok (.int n, w) := by
  have : biF .len md [rwl n f] w = .ok (.int (rl n f).length, w) := rfl
  rw [this, rl_len]
theorem rwl_congr {n : Nat} {f h : Vc} (e : ∀ i, i < n → f i = h i) : rwl n f = rwl n h := by unfold rwl; rw [rl_congr e]
theorem mapl_ret {n : Nat} {fs : List Vc} : okRets (fs.map (rwl n)) = true := okRets_all fun d hd => by
  obtain ⟨f, _, rfl⟩ := List.mem_map.mp hd
  exact rl_ok
theorem nlRl {m : Nat} {f : Vc} {w : Wd} (hm : m ≤ 1000) : newL 0 (rl m f) w = .ok (rwl m f, w) := nlR (md := 0) hm
/-- _law_less -/
theorem less_ok {m : Nat} (h : 23 < m) {p : Int} (hp : 0 < p) {n : Nat} (hn : n ≤ 1000) {t : Int} (ht : -(2 ^ 64) < t ∧ t < 2 ^ 64) (x y : Vc) (g : List (List Fz.D)) :
    F m 23 [.int p, rwl n x, rwl n y, .int t] g = .ok (rwl n fun j => (x j - t * y j) % p, g) := by
  rw [F23 h]
  have hp0 : ¬ p = 0 := by omega
  have c : ∀ σ, σ = [some (.int p), some (rwl n x), some (rwl n y), some (.int t), none, none] → coL (asg (.tu [.nm 4, .nm 5])) (evC ⟨F 23, C⟩ .no) (evE ⟨F 23, C⟩ e23_0) (fun w => true) [4, 5] σ ((List.range n).map fun j => Fz.D.tup [.int (x j), .int (y j)]) ⟨σ, [], g⟩ [] = .ok (rl n fun j => (x j - t * y j) % p, ⟨σ, [], g⟩) := by
    intro σ hσ
    have := coL_mp (bind := asg (.tu [.nm 4, .nm 5])) (test := evC ⟨F 23, C⟩ .no) (elt := evE ⟨F 23, C⟩ e23_0) (ok := fun w => true) (own := [4, 5]) (σ := σ) (m := []) (g := g) (fun j => Fz.D.tup [.int (x j), .int (y j)]) (fun j => Fz.D.int ((x j - t * y j) % p)) (List.range n) [] (by simp; exact Nat.le_trans hn (by decide)) (fun j hj r acc ha => by
      subst hσ
      rw [coL_cons]
      simp [e23_0, mulOk_l ht, hp0, Int.fmod_eq_emod_of_nonneg _ (Int.le_of_lt hp), ha])
    rw [this]
    rfl
  have c := c _ rfl
  have zz : zipD (rl n x) (rl n y) = (List.range n).map fun j => Fz.D.tup [.int (x j), .int (y j)] := by rw [rl_map, rl_map, zip_map]
  simp [exD, b23, zz]
  rw [c]
  simp [nlRl (m := n) hn]
/-! ### column by column -/
/-- behind c columns -/
structure Col (p : Int) (n c : Nat) (fs : List Vc) (Fd : List (Nat × Vc)) (Lf : List Vc) : Prop where
  gd : Gd p n Fd
  inc : (Fd.map Prod.fst).Pairwise (· < ·)
  red : ∀ q ∈ Fd, Red p n q.2
  lt : ∀ q ∈ Fd, q.1 < c
  lred : ∀ f ∈ Lf, Red p n f
  zero : ∀ f ∈ Lf, ∀ j, j < c → f j = 0
  span : ∀ x, Span p n (Fd.map Prod.snd ++ Lf) x ↔ Span p n fs x
theorem Col.start {p : Int} {n : Nat} {fs : List Vc} (h : ∀ f ∈ fs, Red p n f) : Col p n 0 fs [] fs :=
  ⟨LA.Gd.nil, List.Pairwise.nil, (fun _ h => nomatch h), (fun _ h => nomatch h), h, (fun _ _ j hj => absurd hj (Nat.not_lt_zero j)), fun x => Iff.rfl⟩
theorem Col.skip {p : Int} {n c : Nat} {fs : List Vc} {Fd : List (Nat × Vc)} {Lf : List Vc} (K : Col p n c fs Fd Lf) (h : ∀ f ∈ Lf, f c = 0) : Col p n (c + 1) fs Fd Lf :=
  ⟨K.gd, K.inc, K.red, fun q hq => Nat.lt_succ_of_lt (K.lt q hq), K.lred, fun f hf j hj => by
    by_cases e : j = c
    · rw [e]; exact h f hf
    · exact K.zero f hf j (by omega), K.span⟩
theorem Col.take {p : Int} (hp : 1 < p) {n c : Nat} (hc : c < n) {fs : List Vc} {Fd : List (Nat × Vc)} {Lf : List Vc} (K : Col p n c fs Fd Lf) {i : Nat} (hi : i < Lf.length) {k : Int} (hk : (k * Lf[i] c) % p = 1) :
    Col p n (c + 1) fs (Fd.map (fun q => (q.1, clr p c (scl p k Lf[i]) q.2)) ++ [(c, scl p k Lf[i])]) ((Lf.eraseIdx i).map (clr p c (scl p k Lf[i]))) := by
  have hm := List.getElem_mem hi
  have hr := K.lred _ hm
  have hz := K.zero _ hm
  have em : ∀ f, f ∈ Lf ↔ f = Lf[i] ∨ f ∈ Lf.eraseIdx i := fun f => by
    constructor
    · intro hf
      obtain ⟨j, hj, rfl⟩ := List.mem_iff_getElem.mp hf
      by_cases e : j = i
      · subst e; exact .inl rfl
      · refine .inr ?_
        rw [List.mem_eraseIdx_iff_getElem]
        exact ⟨j, hj, e, rfl⟩
    · rintro (rfl | hf)
      · exact hm
      · exact List.mem_of_mem_eraseIdx hf
  generalize hh : Lf[i] = h at *
  generalize ht : scl p k h = t at *
  have tr : Red p n t := by rw [← ht]; exact LA.scl_red (by omega)
  have t1 : t c = 1 := by rw [← ht]; exact hk
  have t0 : ∀ j, j < c → t j = 0 := fun j hj => by
    rw [← ht]
    show (k * h j) % p = 0
    rw [hz j hj, Int.mul_zero, Int.zero_emod]
  have G := K.gd.add (h := c) (t := t) hp hc (by rw [t1]; exact LA.M.refl 1) (fun j hj => by rw [t0 j hj]; exact LA.M.refl 0) fun q hq => by rw [t0 _ (K.lt q hq)]; exact LA.M.refl 0
  have pm : ((c, t) :: Fd.map fun q => (q.1, clr p c t q.2)).Perm (Fd.map (fun q => (q.1, clr p c t q.2)) ++ [(c, t)]) := (List.perm_append_singleton _ _).symm
  refine ⟨G.perm pm, ?_, ?_, ?_, ?_, ?_, fun x => ?_⟩
  · rw [List.map_append, List.map_map]
    have e : (Prod.fst ∘ fun q : Nat × Vc => (q.1, clr p c t q.2)) = Prod.fst := rfl
    rw [e, List.pairwise_append]
    refine ⟨K.inc, List.pairwise_singleton _ _, fun a ha b hb => ?_⟩
    obtain ⟨q, hq, rfl⟩ := List.mem_map.mp ha
    rw [List.mem_singleton.mp hb]
    exact K.lt q hq
  · refine mm_app (fun q hq => ?_) (mm_cons tr mm_nil)
    obtain ⟨q0, h0, rfl⟩ := List.mem_map.mp hq
    exact LA.clr_red (by omega)
  · refine mm_app (fun q hq => ?_) (mm_cons (Nat.lt_succ_self c) mm_nil)
    obtain ⟨q0, h0, rfl⟩ := List.mem_map.mp hq
    exact Nat.lt_succ_of_lt (K.lt q0 h0)
  · intro f hf
    obtain ⟨f0, _, rfl⟩ := List.mem_map.mp hf
    exact LA.clr_red (by omega)
  · intro f hf j hj
    obtain ⟨f0, h0, rfl⟩ := List.mem_map.mp hf
    show (f0 j - f0 c * t j) % p = 0
    by_cases e : j = c
    · rw [e, t1, Int.mul_one, Int.sub_self, Int.zero_emod]
    · rw [t0 j (by omega), K.zero f0 ((em f0).mpr (.inr h0)) j (by omega), Int.mul_zero, Int.sub_zero, Int.zero_emod]
  · rw [← K.span x]
    have ts : ∀ B : List Vc, h ∈ B → Span p n B t := fun B hB => by
      rw [← ht]
      exact (LA.span_sub B).scl (Span.mem hB)
    refine span_ext (fun b hb => ?_) (fun b hb => ?_) x
    · have hT : Span p n (Fd.map Prod.snd ++ Lf) t := ts _ (List.mem_append_right _ hm)
      rcases List.mem_append.mp hb with hb | hb
      · rw [List.map_append] at hb
        rcases List.mem_append.mp hb with hb | hb
        · rw [List.map_map] at hb
          obtain ⟨q0, h0, rfl⟩ := List.mem_map.mp hb
          exact (LA.span_sub _).clr hT (Span.mem (List.mem_append_left _ (List.mem_map.mpr ⟨q0, h0, rfl⟩)))
        · rw [List.mem_singleton.mp hb]
          exact hT
      · obtain ⟨f0, h0, rfl⟩ := List.mem_map.mp hb
        exact (LA.span_sub _).clr hT (Span.mem (List.mem_append_right _ ((em f0).mpr (.inr h0))))
    · have hT : Span p n ((Fd.map (fun q => (q.1, clr p c t q.2)) ++ [(c, t)]).map Prod.snd ++ (Lf.eraseIdx i).map (clr p c t)) t := Span.mem (List.mem_append_left _ (List.mem_map.mpr ⟨(c, t), List.mem_append_right _ List.mem_cons_self, rfl⟩))
      have hH : Span p n ((Fd.map (fun q => (q.1, clr p c t q.2)) ++ [(c, t)]).map Prod.snd ++ (Lf.eraseIdx i).map (clr p c t)) h := by
        have := (LA.span_sub (p := p) (n := n) ((Fd.map (fun q => (q.1, clr p c t q.2)) ++ [(c, t)]).map Prod.snd ++ (Lf.eraseIdx i).map (clr p c t))).unscl (c := k) (d := h c) (by
          rw [Int.mul_comm]
          have := LA.M.emod (p := p) (k * h c)
          rw [hk] at this
          exact this.symm) (o := h) (by rw [ht]; exact hT)
        exact this
      rcases List.mem_append.mp hb with hb | hb
      · obtain ⟨q0, h0, rfl⟩ := List.mem_map.mp hb
        exact (LA.span_sub _).unclr hT (Span.mem (List.mem_append_left _ (List.mem_map.mpr ⟨(q0.1, clr p c t q0.2), List.mem_append_left _ (List.mem_map.mpr ⟨q0, h0, rfl⟩), rfl⟩)))
      · rcases (em b).mp hb with rfl | hb
        · exact hH
        · exact (LA.span_sub _).unclr hT (Span.mem (List.mem_append_right _ (List.mem_map.mpr ⟨b, hb, rfl⟩)))
theorem Col.done {p : Int} {n : Nat} {fs : List Vc} {Fd : List (Nat × Vc)} {Lf : List Vc} (K : Col p n n fs Fd Lf) : Ok p n Fd ∧ ∀ x, Sp p n Fd x ↔ Span p n fs x :=
  ⟨⟨K.gd, K.inc, K.red⟩, fun x => (span_ext (fun b hb => Span.mem (List.mem_append_left _ hb)) (fun b hb => by
    rcases List.mem_append.mp hb with hb | hb
    · exact Span.mem hb
    · exact Span.zero.of_eq fun j hj => by rw [K.zero b hb j hj]; exact LA.M.refl 0) x).trans (K.span x)⟩
end K10

namespace K10
open PySem Fz Rw
open LA (Vc Red clr scl redF Gd Span)
/-- rows, as tuples or as lists -/
def RowD (n : Nat) (d : Fz.D) (f : Vc) : Prop := d = rw_ n f ∨ d = rwl n f
/-- handed over as -/
def Hand (S : Fz.D) (ds : List Fz.D) : Prop := S = .tup ds ∨ S = .lst ds ∨ S = .fl ds
theorem Hand.seq {S : Fz.D} {ds : List Fz.D} (h : Hand S ds) (w : Wd) : w.seq S = some ds := by rcases h with rfl | rfl | rfl <;> rfl
theorem Hand.src {S : Fz.D} {ds : List Fz.D} (h : Hand S ds) : srcOf S = .non := by rcases h with rfl | rfl | rfl <;> rfl
theorem Hand.len {S : Fz.D} {ds : List Fz.D} (h : Hand S ds) {md : Nat} {w : Wd} : biF .len md [S] w = .ok (.int ds.length, w) := by rcases h with rfl | rfl | rfl <;> rfl
theorem lq_rwl {n : Nat} (gs : List Vc) : lsq (gs.map (rwl n)) = some (gs.map (rwl n)) := by
  unfold lsq
  have : isDc (gs.map (rwl n)) = false := by cases gs <;> rfl
  rw [this]; rfl
theorem er_map {α β : Type} (f : α → β) : ∀ (l : List α) (i : Nat), (l.map f).eraseIdx i = (l.eraseIdx i).map f
  | [], _ => rfl
  | _ :: _, 0 => rfl
  | a :: l, i + 1 => by
    show f a :: (l.map f).eraseIdx i = f a :: (l.eraseIdx i).map f
    rw [er_map f l i]
section
variable {p : Int} (hp : Pp p) {n : Nat} (hn : n ≤ 50)
include hp hn in
/-- one column -/
theorem col_body {S : Fz.D} {fs : List Vc} {c : Nat} (hc : c < n) {Fd : List (Nat × Vc)} {Lf : List Vc} (K : Col p n c fs Fd Lf) (hf : fs.length ≤ 200) (hL : Lf.length ≤ 200) (hF : Fd.length ≤ n) {m : List (List Fz.D)} {k : Nat} (hk : m[k]? = some (Lf.map (rwl n))) (g : List (List Fz.D)) :
    ∃ Fd' Lf' m' k' x7 x9 x10, Col p n (c + 1) fs Fd' Lf' ∧ Lf'.length ≤ 200 ∧ m'[k']? = some (Lf'.map (rwl n)) ∧
      exB ⟨F 24, C⟩ b24_0 ⟨[some (.int p), some S, some (.ref k), some (.lst (Fd.map fun q => rwl n q.2)), some (.int n), none, some (.int c), none, none, none, none, none], m, g⟩ = .ok (.nx, ⟨[some (.int p), some S, some (.ref k'), some (.lst (Fd'.map fun q => rwl n q.2)), some (.int n), none, some (.int c), x7, none, x9, x10, none], m', g⟩) := by
  have lo := hp.lo
  have hi := hp.hi
  have hp0 : ¬ p = 0 := by omega
  have hpm : ∀ a : Int, a.fmod p = a % p := fun a => Int.fmod_eq_emod_of_nonneg _ (by omega)
  have lq := lq_rwl (n := n)
  -- which rows are not nought here
  have c1 : ∀ σ, σ = [some (.int p), some S, some (.ref k), some (.lst (Fd.map fun q => rwl n q.2)), some (.int n), none, some (.int c), none, none, none, none, none] → coL (asg (.tu [.nm 8, .nm 5])) (evC ⟨F 24, C⟩ c24_1) (evE ⟨F 24, C⟩ e24_1) (Src.ok (.ref k) (Lf.map (rwl n))) [8, 5] σ ((List.range Lf.length).map fun i : Nat => Fz.D.tup [.int i, rwl n (Lf[i]?.getD fun _ => 0)]) ⟨σ, m, g⟩ [] = .ok (((List.range Lf.length).filter fun i => (Lf[i]?.getD fun _ => 0) c != 0).map fun i : Nat => Fz.D.int i, ⟨σ, m, g⟩) := by
    intro σ hσ
    have ok1 : ∀ σ' : List (Option Fz.D), Src.ok (.ref k) (Lf.map (rwl n)) ⟨σ', m, g⟩ = true := fun σ' => by
      show (m[k]?).any _ = true
      rw [hk]
      simp
    have := coL_fil (bind := asg (.tu [.nm 8, .nm 5])) (test := evC ⟨F 24, C⟩ c24_1) (elt := evE ⟨F 24, C⟩ e24_1) (ok := Src.ok (.ref k) (Lf.map (rwl n))) (own := [8, 5]) (σ := σ) (m := m) (g := g) (fun i : Nat => Fz.D.tup [.int i, rwl n (Lf[i]?.getD fun _ => 0)]) (fun i : Nat => Fz.D.int i) (fun i => (Lf[i]?.getD fun _ => 0) c != 0) (List.range Lf.length) [] (by simp; exact Nat.le_trans hL (by decide)) (fun i hi rs acc ha => by
      have g1 : (rl n (Lf[i]?.getD fun _ => 0))[c]? = some (.int ((Lf[i]?.getD fun _ => 0) c)) := rl_get hc
      generalize (Lf[i]?.getD fun _ => 0) = v at *
      rw [coL_cons]
      have a1 : asg (.tu [.nm 8, .nm 5]) (.tup [.int i, rwl n v]) ⟨wipeD σ [8, 5], m, g⟩ = some ⟨[some (.int p), some S, some (.ref k), some (.lst (Fd.map fun q => rwl n q.2)), some (.int n), some (rwl n v), some (.int c), none, some (.int i), none, none, none], m, g⟩ := by subst hσ; rfl
      rw [a1]
      by_cases z : v c = 0
      · have t1 : evC ⟨F 24, C⟩ c24_1 ⟨[some (.int p), some S, some (.ref k), some (.lst (Fd.map fun q => rwl n q.2)), some (.int n), some (rwl n v), some (.int c), none, some (.int i), none, none, none], m, g⟩ = .ok (false, ⟨[some (.int p), some S, some (.ref k), some (.lst (Fd.map fun q => rwl n q.2)), some (.int n), some (rwl n v), some (.int c), none, some (.int i), none, none, none], m, g⟩) := by
          simp [c24_1, ix_nat hc, g1, z]
        simp only [R.of_some, R.bd_ok, t1, ok1, if_true, Bool.false_eq_true, if_false]
        have : (v c != 0) = false := by simp [z]
        rw [this]
        rfl
      · have t1 : evC ⟨F 24, C⟩ c24_1 ⟨[some (.int p), some S, some (.ref k), some (.lst (Fd.map fun q => rwl n q.2)), some (.int n), some (rwl n v), some (.int c), none, some (.int i), none, none, none], m, g⟩ = .ok (true, ⟨[some (.int p), some S, some (.ref k), some (.lst (Fd.map fun q => rwl n q.2)), some (.int n), some (rwl n v), some (.int c), none, some (.int i), none, none, none], m, g⟩) := by
          simp [c24_1, ix_nat hc, g1, z]
        have t2 : evE ⟨F 24, C⟩ e24_1 ⟨[some (.int p), some S, some (.ref k), some (.lst (Fd.map fun q => rwl n q.2)), some (.int n), some (rwl n v), some (.int c), none, some (.int i), none, none, none], m, g⟩ = .ok (.int i, ⟨[some (.int p), some S, some (.ref k), some (.lst (Fd.map fun q => rwl n q.2)), some (.int n), some (rwl n v), some (.int c), none, some (.int i), none, none, none], m, g⟩) := by
          simp [e24_1]
        simp only [R.of_some, R.bd_ok, t1, t2, ok1, if_true, Bool.true_and, decide_eq_true ha]
        have : (v c != 0) = true := by simp [z]
        rw [this]
        rfl)
    rw [this]
    rfl
  have c1 := c1 _ rfl
  have el : Lf.map (rwl n) = (List.range Lf.length).map fun i => rwl n (Lf[i]?.getD fun _ => 0) := by
    refine List.ext_getElem (by simp) fun i h1 h2 => ?_
    simp only [List.length_map] at h1
    simp [h1]
  have ee : enuL 0 (Lf.map (rwl n)) = (List.range Lf.length).map fun i : Nat => Fz.D.tup [.int i, rwl n (Lf[i]?.getD fun _ => 0)] := by
    rw [el]
    exact enu_map _ _
  -- the first of them
  have hh : (((List.range Lf.length).filter fun i => (Lf[i]?.getD fun _ => 0) c != 0).map fun i : Nat => Fz.D.int i).head? = ((List.range Lf.length).find? fun i => (Lf[i]?.getD fun _ => 0) c != 0).map fun i : Nat => .int i := by
    rw [List.head?_map, List.head?_filter]
  have ll : (((List.range Lf.length).filter fun i => (Lf[i]?.getD fun _ => 0) c != 0).map fun i : Nat => Fz.D.int i).length ≤ 200 := by
    rw [List.length_map]
    exact Nat.le_trans (List.length_filter_le _ _) (by rw [List.length_range]; exact hL)
  have pl : Pls 5 1 (((List.range Lf.length).filter fun i => (Lf[i]?.getD fun _ => 0) c != 0).map fun i : Nat => Fz.D.int i) := Pls_all fun d hd => by
    obtain ⟨i, hi, rfl⟩ := List.mem_map.mp hd
    have := List.mem_range.mp (List.mem_filter.mp hi).1
    have e : (10 : Nat) ^ 5 = 100000 := by decide
    exact Pl_int.mpr (by omega)
  have s1 : exS ⟨F 24, C⟩ (.set (.nm 7) (.co 0 (.tu [.nm 8, .nm 5]) (.enu (.v 2)) c24_1 e24_1 [8, 5])) ⟨[some (.int p), some S, some (.ref k), some (.lst (Fd.map fun q => rwl n q.2)), some (.int n), none, some (.int c), none, none, none, none, none], m, g⟩ = .ok (.nx, ⟨[some (.int p), some S, some (.ref k), some (.lst (Fd.map fun q => rwl n q.2)), some (.int n), none, some (.int c), some (.lst (((List.range Lf.length).filter fun i => (Lf[i]?.getD fun _ => 0) c != 0).map fun i : Nat => Fz.D.int i)), none, none, none, none], m, g⟩) := by
    have nl : ∀ w, newL 0 (((List.range Lf.length).filter fun i => (Lf[i]?.getD fun _ => 0) c != 0).map fun i : Nat => Fz.D.int i) w = .ok (.lst (((List.range Lf.length).filter fun i => (Lf[i]?.getD fun _ => 0) c != 0).map fun i : Nat => Fz.D.int i), w) := fun w => nlS (by omega)
    have sq : ∀ σ, (⟨σ, m, g⟩ : Wd).seq (.ref k) = some (Lf.map (rwl n)) := fun σ => by
      show (m[k]?).bind lsq = _
      rw [hk, Option.bind_some, lq]
    rw [exS_set, evE_co]
    simp only [evI_enu, evE_v, List.getElem?_cons_succ, List.getElem?_cons_zero, R.bd_ok, sq, R.of_some, ee]
    have c1' : coL (asg (.tu [.nm 8, .nm 5])) (evC ⟨F 24, C⟩ c24_1) (evE ⟨F 24, C⟩ e24_1) (Src.ok (srcOf (.ref k)) (Lf.map (rwl n))) [8, 5] [some (.int p), some S, some (.ref k), some (.lst (Fd.map fun q => rwl n q.2)), some (.int n), none, some (.int c), none, none, none, none, none] ((List.range Lf.length).map fun i : Nat => Fz.D.tup [.int i, rwl n (Lf[i]?.getD fun _ => 0)]) ⟨[some (.int p), some S, some (.ref k), some (.lst (Fd.map fun q => rwl n q.2)), some (.int n), none, some (.int c), none, none, none, none, none], m, g⟩ [] = _ := c1
    rw [c1']
    simp only [R.bd_ok, nl]
    rfl
  have ne := fun {w : Wd} => ne_nilL pl (by decide) (w := w)
  cases hq : (List.range Lf.length).find? fun i => (Lf[i]?.getD fun _ => 0) c != 0 with
  | none =>
    rw [hq] at hh
    have e0 : ((List.range Lf.length).filter fun i => (Lf[i]?.getD fun _ => 0) c != 0).map (fun i : Nat => Fz.D.int i) = [] := List.head?_eq_none_iff.mp hh
    rw [e0] at ne s1
    have ne : ∀ {w : Wd}, cmF .ne (.lst []) (.lst []) w = some false := ne
    refine ⟨Fd, Lf, m, k, some (.lst []), none, none, K.skip fun f hf => ?_, hL, hk, ?_⟩
    · obtain ⟨i, hi, rfl⟩ := List.mem_iff_getElem.mp hf
      have := List.find?_eq_none.mp hq i (List.mem_range.mpr hi)
      simpa [hi] using this
    · unfold b24_0
      refine (exB_step s1).trans ?_
      simp [ne]
  | some i =>
    rw [hq] at hh
    obtain ⟨l, hl⟩ : ∃ l, ((List.range Lf.length).filter fun i => (Lf[i]?.getD fun _ => 0) c != 0).map (fun i : Nat => Fz.D.int i) = .int i :: l := by
      cases hm : ((List.range Lf.length).filter fun i => (Lf[i]?.getD fun _ => 0) c != 0).map (fun i : Nat => Fz.D.int i) with
      | nil => rw [hm] at hh; cases hh
      | cons d l =>
        rw [hm] at hh
        have : d = .int i := Option.some.inj hh
        exact ⟨l, by rw [this]⟩
    rw [hl] at ne s1
    have ne : ∀ {w : Wd}, cmF .ne (.lst (.int i :: l)) (.lst []) w = some true := ne
    have hi2 : i < Lf.length := List.mem_range.mp (List.mem_of_find?_eq_some hq)
    have gi : Lf[i]?.getD (fun _ => 0) = Lf[i] := by simp [hi2]
    have hnz : Lf[i] c ≠ 0 := by
      have := List.find?_some hq
      rw [gi] at this
      simpa using this
    have hb := K.lred _ (List.getElem_mem hi2) c hc
    obtain ⟨kk, hkk, h1, h2⟩ := back_ok (m := 3) (m2 := 24) (by decide) (by decide) hp (x := Lf[i] c) (by omega) (by omega)
    have T := K.take (by omega) hc hi2 h1
    have hv := K.lred _ (List.getElem_mem hi2)
    generalize hvv : Lf[i] = v at *
    have ht : scl p kk v = scl p kk v := rfl
    generalize htt : scl p kk v = t at T
    have hle : (Lf.eraseIdx i).length ≤ 200 := by rw [List.length_eraseIdx_of_lt hi2]; omega
    have hkm : k < m.length := by
      obtain ⟨h, _⟩ := List.getElem?_eq_some_iff.mp hk
      exact h
    let m1 := m.set k ((Lf.eraseIdx i).map (rwl n))
    have hm1 : m1[k]? = some ((Lf.eraseIdx i).map (rwl n)) := by
      show (m.set k _)[k]? = _
      rw [List.getElem?_set_self hkm]
    have s2 : exS ⟨F 24, C⟩ (.set (.nm 9) (.me .pop (.v 2) (.cons (.ix (.v 7) (.k (.int 0))) .nil))) ⟨[some (.int p), some S, some (.ref k), some (.lst (Fd.map fun q => rwl n q.2)), some (.int n), none, some (.int c), some (.lst (.int i :: l)), none, none, none, none], m, g⟩ = .ok (.nx, ⟨[some (.int p), some S, some (.ref k), some (.lst (Fd.map fun q => rwl n q.2)), some (.int n), none, some (.int c), some (.lst (.int i :: l)), none, some (rwl n v), none, none], m1, g⟩) := by
      have gx : (Lf.map (rwl n))[i]? = some (rwl n v) := by
        rw [List.getElem?_map, List.getElem?_eq_getElem hi2, hvv]
        rfl
      have er : (Lf.map (rwl n)).eraseIdx i = (Lf.eraseIdx i).map (rwl n) := er_map _ _ _
      have ix : ixI Lf.length (i : Int) = some i := ix_nat hi2
      have hk2 : m[k] = Lf.map (rwl n) := (List.getElem?_eq_some_iff.mp hk).2
      simp [hk, hk2, lq, ix, gx, er, hkm, m1, -List.getElem?_map]
    have s3 : exS ⟨F 24, C⟩ (.set (.nm 10) (.call 22 none (.cons (.ix (.v 9) (.v 6)) (.cons (.op .sub 0 (.v 0) (.k (.int 2))) (.cons (.v 0) .nil))) .nil)) ⟨[some (.int p), some S, some (.ref k), some (.lst (Fd.map fun q => rwl n q.2)), some (.int n), none, some (.int c), some (.lst (.int i :: l)), none, some (rwl n v), none, none], m1, g⟩ = .ok (.nx, ⟨[some (.int p), some S, some (.ref k), some (.lst (Fd.map fun q => rwl n q.2)), some (.int n), none, some (.int c), some (.lst (.int i :: l)), none, some (rwl n v), some (.int kk), none], m1, g⟩) := by
      have g1 : (rl n v)[c]? = some (.int (v c)) := rl_get hc
      have e2 := (h2 g).2
      simp [ix_nat hc, g1, e2, arrD]
    have c4 : ∀ σ, σ = [some (.int p), some S, some (.ref k), some (.lst (Fd.map fun q => rwl n q.2)), some (.int n), none, some (.int c), some (.lst (.int i :: l)), none, some (rwl n v), some (.int kk), none] → coL (asg (.nm 11)) (evC ⟨F 24, C⟩ .no) (evE ⟨F 24, C⟩ e24_2) (fun _ => true) [11] σ (rl n v) ⟨σ, m1, g⟩ [] = .ok (rl n t, ⟨σ, m1, g⟩) := by
      intro σ hσ
      have mk : ∀ a : Int, mulOk a kk = true := fun a => mulOk_r (by omega)
      have := coL_mp (bind := asg (.nm 11)) (test := evC ⟨F 24, C⟩ .no) (elt := evE ⟨F 24, C⟩ e24_2) (ok := fun _ => true) (own := [11]) (σ := σ) (m := m1) (g := g) (fun j => Fz.D.int (v j)) (fun j => Fz.D.int (t j)) (List.range n) [] (by simp; exact Nat.le_trans hn (by decide)) (fun j hj rs acc ha => by
        subst hσ
        rw [coL_cons, ← htt]
        simp [e24_2, mk, hp0, hpm, ha, scl, Int.mul_comm])
      rw [rl_map, this]
      rfl
    have c4 := c4 _ rfl
    have s4 : exS ⟨F 24, C⟩ (.set (.nm 9) (.co 0 (.nm 11) (.seq (.v 9)) .no e24_2 [11])) ⟨[some (.int p), some S, some (.ref k), some (.lst (Fd.map fun q => rwl n q.2)), some (.int n), none, some (.int c), some (.lst (.int i :: l)), none, some (rwl n v), some (.int kk), none], m1, g⟩ = .ok (.nx, ⟨[some (.int p), some S, some (.ref k), some (.lst (Fd.map fun q => rwl n q.2)), some (.int n), none, some (.int c), some (.lst (.int i :: l)), none, some (rwl n t), some (.int kk), none], m1, g⟩) := by
      simp
      rw [c4]
      simp [nlRl (m := n) (show n ≤ 1000 by omega)]
    -- a row cleared
    have clr1 : ∀ (f : Vc), Red p n f → ∀ (m : List (List Fz.D)) (σ : List (Option Fz.D)), σ[0]? = some (some (.int p)) → σ[5]? = some (some (rwl n f)) → σ[6]? = some (some (.int c)) → σ[9]? = some (some (rwl n t)) → evE ⟨F 24, C⟩ e24_3 ⟨σ, m, g⟩ = .ok (rwl n (clr p c t f), ⟨σ, m, g⟩) := by
      intro f hf m σ h0 h5 h6 h9
      have g1 : (rl n f)[c]? = some (.int (f c)) := rl_get hc
      have hb := hf c hc
      by_cases z : f c = 0
      · have e : rwl n (clr p c t f) = rwl n f := rwl_congr (LA.clr_same hf z)
        rw [e]
        simp [e24_3, h0, h5, h6, h9, ix_nat hc, g1, z]
      · have e2 := less_ok (m := 24) (by decide) (p := p) (by omega) (n := n) (by omega) (t := f c) (by omega) f t g
        simp [e24_3, h0, h5, h6, h9, ix_nat hc, g1, z, e2, arrD]
        rfl
    have c5 : ∀ σ, σ = [some (.int p), some S, some (.ref k), some (.lst (Fd.map fun q => rwl n q.2)), some (.int n), none, some (.int c), some (.lst (.int i :: l)), none, some (rwl n t), some (.int kk), none] → coL (asg (.nm 5)) (evC ⟨F 24, C⟩ .no) (evE ⟨F 24, C⟩ e24_3) (Src.ok (.ref k) ((Lf.eraseIdx i).map (rwl n))) [5] σ ((Lf.eraseIdx i).map (rwl n)) ⟨σ, m1, g⟩ [] = .ok (((Lf.eraseIdx i).map (clr p c t)).map (rwl n), ⟨σ, m1, g⟩) := by
      intro σ hσ
      have ok1 : ∀ σ' : List (Option Fz.D), Src.ok (.ref k) ((Lf.eraseIdx i).map (rwl n)) ⟨σ', m1, g⟩ = true := fun σ' => by
        show (m1[k]?).any _ = true
        rw [hm1]
        simp
      have := coL_mp (bind := asg (.nm 5)) (test := evC ⟨F 24, C⟩ .no) (elt := evE ⟨F 24, C⟩ e24_3) (ok := Src.ok (.ref k) ((Lf.eraseIdx i).map (rwl n))) (own := [5]) (σ := σ) (m := m1) (g := g) (rwl n) (fun f => rwl n (clr p c t f)) (Lf.eraseIdx i) [] (by simp; exact Nat.le_trans hle (by decide)) (fun f hf rs acc ha => by
        have e3 := clr1 f (K.lred f (List.mem_of_mem_eraseIdx hf)) m1 [some (.int p), some S, some (.ref k), some (.lst (Fd.map fun q => rwl n q.2)), some (.int n), some (rwl n f), some (.int c), some (.lst (.int i :: l)), none, some (rwl n t), some (.int kk), none] rfl rfl rfl rfl
        have a1 : asg (.nm 5) (rwl n f) ⟨wipeD σ [5], m1, g⟩ = some ⟨[some (.int p), some S, some (.ref k), some (.lst (Fd.map fun q => rwl n q.2)), some (.int n), some (rwl n f), some (.int c), some (.lst (.int i :: l)), none, some (rwl n t), some (.int kk), none], m1, g⟩ := by subst hσ; rfl
        have t1 : ∀ w, evC ⟨F 24, C⟩ .no w = .ok (true, w) := fun w => by simp
        rw [coL_cons, a1]
        simp only [R.of_some, R.bd_ok, t1, e3, ok1, if_true, Bool.true_and, decide_eq_true ha])
      rw [this, List.map_map]
      rfl
    have c5 := c5 _ rfl
    let m2 := m1 ++ [((Lf.eraseIdx i).map (clr p c t)).map (rwl n)]
    have s5 : exS ⟨F 24, C⟩ (.set (.nm 2) (.co 1 (.nm 5) (.seq (.v 2)) .no e24_3 [5])) ⟨[some (.int p), some S, some (.ref k), some (.lst (Fd.map fun q => rwl n q.2)), some (.int n), none, some (.int c), some (.lst (.int i :: l)), none, some (rwl n t), some (.int kk), none], m1, g⟩ = .ok (.nx, ⟨[some (.int p), some S, some (.ref m1.length), some (.lst (Fd.map fun q => rwl n q.2)), some (.int n), none, some (.int c), some (.lst (.int i :: l)), none, some (rwl n t), some (.int kk), none], m2, g⟩) := by
      have sq : ∀ σ, (⟨σ, m1, g⟩ : Wd).seq (.ref k) = some ((Lf.eraseIdx i).map (rwl n)) := fun σ => by
        show (m1[k]?).bind lsq = _
        rw [hm1, Option.bind_some, lq]
      have nl : ∀ w : Wd, newL 1 (((Lf.eraseIdx i).map (clr p c t)).map (rwl n)) w = .ok (.ref w.m.length, { w with m := w.m ++ [((Lf.eraseIdx i).map (clr p c t)).map (rwl n)] }) := fun w => newL_1 (by rw [List.length_map, List.length_map]; exact Nat.le_trans hle (by decide))
      rw [exS_set, evE_co]
      simp only [evI_seq, evE_v, List.getElem?_cons_succ, List.getElem?_cons_zero, R.bd_ok, sq, R.of_some]
      have c5' : coL (asg (.nm 5)) (evC ⟨F 24, C⟩ .no) (evE ⟨F 24, C⟩ e24_3) (Src.ok (srcOf (.ref k)) ((Lf.eraseIdx i).map (rwl n))) [5] [some (.int p), some S, some (.ref k), some (.lst (Fd.map fun q => rwl n q.2)), some (.int n), none, some (.int c), some (.lst (.int i :: l)), none, some (rwl n t), some (.int kk), none] ((Lf.eraseIdx i).map (rwl n)) ⟨[some (.int p), some S, some (.ref k), some (.lst (Fd.map fun q => rwl n q.2)), some (.int n), none, some (.int c), some (.lst (.int i :: l)), none, some (rwl n t), some (.int kk), none], m1, g⟩ [] = _ := c5
      rw [c5']
      simp only [R.bd_ok, nl]
      rfl
    have c6 : ∀ σ, σ = [some (.int p), some S, some (.ref m1.length), some (.lst (Fd.map fun q => rwl n q.2)), some (.int n), none, some (.int c), some (.lst (.int i :: l)), none, some (rwl n t), some (.int kk), none] → coL (asg (.nm 5)) (evC ⟨F 24, C⟩ .no) (evE ⟨F 24, C⟩ e24_4) (fun _ => true) [5] σ (Fd.map fun q => rwl n q.2) ⟨σ, m2, g⟩ [] = .ok (Fd.map fun q => rwl n (clr p c t q.2), ⟨σ, m2, g⟩) := by
      intro σ hσ
      have := coL_mp (bind := asg (.nm 5)) (test := evC ⟨F 24, C⟩ .no) (elt := evE ⟨F 24, C⟩ e24_4) (ok := fun _ => true) (own := [5]) (σ := σ) (m := m2) (g := g) (fun q : Nat × Vc => rwl n q.2) (fun q => rwl n (clr p c t q.2)) Fd [] (by simp; exact Nat.le_trans hF (Nat.le_trans hn (by decide))) (fun q hq rs acc ha => by
        have e3 : evE ⟨F 24, C⟩ e24_4 ⟨[some (.int p), some S, some (.ref m1.length), some (.lst (Fd.map fun q : Nat × Vc => rwl n q.2)), some (.int n), some (rwl n q.2), some (.int c), some (.lst (.int i :: l)), none, some (rwl n t), some (.int kk), none], m2, g⟩ = .ok (rwl n (clr p c t q.2), ⟨[some (.int p), some S, some (.ref m1.length), some (.lst (Fd.map fun q : Nat × Vc => rwl n q.2)), some (.int n), some (rwl n q.2), some (.int c), some (.lst (.int i :: l)), none, some (rwl n t), some (.int kk), none], m2, g⟩) := clr1 q.2 (K.red q hq) m2 [some (.int p), some S, some (.ref m1.length), some (.lst (Fd.map fun q : Nat × Vc => rwl n q.2)), some (.int n), some (rwl n q.2), some (.int c), some (.lst (.int i :: l)), none, some (rwl n t), some (.int kk), none] rfl rfl rfl rfl
        have a1 : asg (.nm 5) (rwl n q.2) ⟨wipeD σ [5], m2, g⟩ = some ⟨[some (.int p), some S, some (.ref m1.length), some (.lst (Fd.map fun q => rwl n q.2)), some (.int n), some (rwl n q.2), some (.int c), some (.lst (.int i :: l)), none, some (rwl n t), some (.int kk), none], m2, g⟩ := by subst hσ; rfl
        have t1 : ∀ w, evC ⟨F 24, C⟩ .no w = .ok (true, w) := fun w => by simp
        rw [coL_cons, a1]
        simp only [R.of_some, R.bd_ok, t1, e3, if_true, Bool.true_and, decide_eq_true ha])
      rw [this]
      rfl
    have c6 := c6 _ rfl
    have eF : (Fd.map fun q => rwl n (clr p c t q.2)) ++ [rwl n t] = (Fd.map (fun q => (q.1, clr p c t q.2)) ++ [(c, t)]).map fun q => rwl n q.2 := by
      rw [List.map_append, List.map_map]
      rfl
    have s6 : exS ⟨F 24, C⟩ (.set (.nm 3) (.op .add 0 (.co 0 (.nm 5) (.seq (.v 3)) .no e24_4 [5]) (.lst 0 (.cons (.v 9) .nil)))) ⟨[some (.int p), some S, some (.ref m1.length), some (.lst (Fd.map fun q => rwl n q.2)), some (.int n), none, some (.int c), some (.lst (.int i :: l)), none, some (rwl n t), some (.int kk), none], m2, g⟩ = .ok (.nx, ⟨[some (.int p), some S, some (.ref m1.length), some (.lst ((Fd.map (fun q => (q.1, clr p c t q.2)) ++ [(c, t)]).map fun q => rwl n q.2)), some (.int n), none, some (.int c), some (.lst (.int i :: l)), none, some (rwl n t), some (.int kk), none], m2, g⟩) := by
      have nl1 : ∀ w, newL 0 (Fd.map fun q => rwl n (clr p c t q.2)) w = .ok (.lst (Fd.map fun q => rwl n (clr p c t q.2)), w) := fun w => nlS (by rw [List.length_map]; omega)
      have nl2 : ∀ w, newL 0 ((Fd.map (fun q => (q.1, clr p c t q.2)) ++ [(c, t)]).map fun q => rwl n q.2) w = .ok (.lst ((Fd.map (fun q => (q.1, clr p c t q.2)) ++ [(c, t)]).map fun q => rwl n q.2), w) := fun w => nlS (by rw [List.length_map, List.length_append, List.length_map, List.length_singleton]; omega)
      rw [exS_set, evE_op, evE_co]
      simp only [evI_seq, evE_v, List.getElem?_cons_succ, List.getElem?_cons_zero, R.bd_ok, seq_lst, R.of_some]
      have c6' : coL (asg (.nm 5)) (evC ⟨F 24, C⟩ .no) (evE ⟨F 24, C⟩ e24_4) (Src.ok (srcOf (.lst (Fd.map fun q => rwl n q.2))) (Fd.map fun q => rwl n q.2)) [5] [some (.int p), some S, some (.ref m1.length), some (.lst (Fd.map fun q => rwl n q.2)), some (.int n), none, some (.int c), some (.lst (.int i :: l)), none, some (rwl n t), some (.int kk), none] (Fd.map fun q => rwl n q.2) ⟨[some (.int p), some S, some (.ref m1.length), some (.lst (Fd.map fun q => rwl n q.2)), some (.int n), none, some (.int c), some (.lst (.int i :: l)), none, some (rwl n t), some (.int kk), none], m2, g⟩ [] = _ := c6
      rw [c6']
      simp only [R.bd_ok, nl1, evE_lst, evEs_cons, evEs_nil, evE_v, List.getElem?_cons_succ, List.getElem?_cons_zero, nl1, Rw.nl1, addL, eF, nl2]
      rfl
    refine ⟨Fd.map (fun q => (q.1, clr p c t q.2)) ++ [(c, t)], (Lf.eraseIdx i).map (clr p c t), m2, m1.length, some (.lst (.int i :: l)), some (rwl n t), some (.int kk), T, by rw [List.length_map]; exact hle, ?_, ?_⟩
    · show (m1 ++ [((Lf.eraseIdx i).map (clr p c t)).map (rwl n)])[m1.length]? = _
      rw [List.getElem?_append_right (Nat.le_refl _), Nat.sub_self]
      rfl
    · unfold b24_0
      refine (exB_step s1).trans ?_
      have tt : evT ⟨F 24, C⟩ (.cm .ne (.v 7) (.lst 0 .nil)) ⟨[some (.int p), some S, some (.ref k), some (.lst (Fd.map fun q => rwl n q.2)), some (.int n), none, some (.int c), some (.lst (.int i :: l)), none, none, none, none], m, g⟩ = .ok (true, ⟨[some (.int p), some S, some (.ref k), some (.lst (Fd.map fun q => rwl n q.2)), some (.int n), none, some (.int c), some (.lst (.int i :: l)), none, none, none, none], m, g⟩) := by
        simp [ne]
      rw [exB_cons, exS_ite, tt]
      simp only [R.bd_ok, if_true]
      rw [exB_step s2, exB_step s3, exB_step s4, exB_step s5, exB_step s6]
      rfl
end
end K10

namespace K10
open PySem Fz Rw
open LA (Vc Red clr scl redF Gd Span)
/-- rows of one sort -/
def Rows (n : Nat) (ds : List Fz.D) (fs : List Vc) : Prop := ds = fs.map (rw_ n) ∨ ds = fs.map (rwl n)
theorem Rows.len {n : Nat} {ds : List Fz.D} {fs : List Vc} (h : Rows n ds fs) : ds.length = fs.length := by rcases h with rfl | rfl <;> rw [List.length_map]
theorem Rows.rsL {n : Nat} {ds : List Fz.D} {fs : List Vc} (h : Rows n ds fs) (ρ : Nat → Option Fz.D) (φ : Bool) : Fz.rsL ρ φ ds = some ds := by
  rcases h with rfl | rfl
  · exact rsL_ok _ map_ret
  · exact rsL_ok _ mapl_ret
theorem bq_list_rw {n md : Nat} (hn : n ≤ 1000) {f : Vc} {w : Wd} : biF .list md [rw_ n f] w = newL md (rl n f) w := by simp
theorem bq_list_rwl {n md : Nat} (hn : n ≤ 1000) {f : Vc} {w : Wd} : biF .list md [rwl n f] w = newL md (rl n f) w := by simp
/-- as lists, too -/
theorem ok_eql {p : Int} (hp : 1 < p) {n : Nat} {A B : List (Nat × Vc)} (OA : Ok p n A) (OB : Ok p n B) (h : ∀ x, Sp p n A x ↔ Sp p n B x) : (A.map fun q => rwl n q.2) = B.map fun q => rwl n q.2 := by
  obtain ⟨e1, e2⟩ := LA.rref_one hp OA.rref OB.rref h
  have hl : A.length = B.length := by
    have := congrArg List.length e1
    simpa using this
  refine List.ext_getElem (by simp [hl]) fun i h1 h2 => ?_
  simp only [List.length_map] at h1 h2
  simp only [List.getElem_map]
  have e := e2 i A[i].2 B[i].2 (by simp [h1]) (by simp [h2])
  refine rwl_congr fun j hj => LA.M.eq (e j hj) (OA.red _ (List.getElem_mem h1) j hj) (OB.red _ (List.getElem_mem h2) j hj)
theorem redu_ok {m : Nat} (h : 24 < m) {p : Int} (hp : Pp p) {n : Nat} (hn : n ≤ 50) {fs : List Vc} (hf : ∀ f ∈ fs, Red p n f) (hl : fs.length ≤ 200) {S : Fz.D} {ds : List Fz.D} (hS : Hand S ds) (hd : Rows n ds fs) :
    ∃ L : List (Nat × Vc), Ok p n L ∧ (∀ x, Sp p n L x ↔ Span p n fs x) ∧ (fs = [] → L = []) ∧ ∀ g, F m 24 [.int p, S] g = .ok (.lst (L.map fun q => rwl n q.2), g) := by
  have lo := hp.lo
  have hi := hp.hi
  have hS' := hS
  have sq := fun w => hS.seq w
  have sr := hS.src
  have sl := fun {w : Wd} => hS.len (md := 0) (w := w)
  -- the first row's length
  obtain ⟨n1, hn1, hn2, hn3⟩ : ∃ n1 : Nat, (fs = [] → n1 = 0) ∧ (fs ≠ [] → n1 = n) ∧ ∀ ρ m g, evE ⟨F 24, C⟩ (.ite (.cm .gt (.bi .len 0 (.cons (.v 1) .nil)) (.k (.int 0))) (.bi .len 0 (.cons (.ix (.v 1) (.k (.int 0))) .nil)) (.k (.int 0))) ⟨some (.int p) :: some S :: ρ, m, g⟩ = .ok (.int n1, ⟨some (.int p) :: some S :: ρ, m, g⟩) := by
    cases fs with
    | nil =>
      have e : ds = [] := by rcases hd with rfl | rfl <;> rfl
      subst e
      refine ⟨0, fun _ => rfl, fun h => absurd rfl h, fun ρ m g => ?_⟩
      simp [sl]
    | cons f r =>
      have e : ds.length = r.length + 1 := by rw [hd.len]; rfl
      refine ⟨n, (fun h => nomatch h), fun _ => rfl, fun ρ m g => ?_⟩
      obtain ⟨d, ds', e2, hl⟩ : ∃ d ds', ds = d :: ds' ∧ ∀ {w : Wd}, biF .len 0 [d] w = .ok (.int n, w) := by
        rcases hd with rfl | rfl
        · exact ⟨_, _, rfl, fun {w} => by simp⟩
        · exact ⟨_, _, rfl, fun {w} => by simp⟩
      have e3 : (0 : Int) < (ds.length : Int) := by omega
      have i0 : ixI ds.length 0 = some 0 := ix_nat (i := 0) (n := ds.length) (by omega)
      have g0 : ds[0]? = some d := by rw [e2]; rfl
      have se : ∀ w : Wd, w.seq S = some ds := sq
      have nn : ds ≠ [] := by rw [e2]; simp
      simp [sl, e3, se, i0, g0, hl, nn]
  have c0 : ∀ g, coL (asg (.nm 5)) (evC ⟨F 24, C⟩ .no) (evE ⟨F 24, C⟩ e24_0) (fun _ => true) [5] [some (.int p), some S, none, none, none, none, none, none, none, none, none, none] ds ⟨[some (.int p), some S, none, none, none, none, none, none, none, none, none, none], [], g⟩ [] = .ok (fs.map (rwl n), ⟨[some (.int p), some S, none, none, none, none, none, none, none, none, none, none], [], g⟩) := by
    intro g
    have key : ∀ d : Vc → Fz.D, (∀ f w, biF .list 0 [d f] w = .ok (rwl n f, w)) → ∀ σ, σ = [some (.int p), some S, none, none, none, none, none, none, none, none, none, none] → coL (asg (.nm 5)) (evC ⟨F 24, C⟩ .no) (evE ⟨F 24, C⟩ e24_0) (fun _ => true) [5] σ (fs.map d) ⟨σ, [], g⟩ [] = .ok (fs.map (rwl n), ⟨σ, [], g⟩) := by
      intro d hd σ hσ
      have := coL_mp (bind := asg (.nm 5)) (test := evC ⟨F 24, C⟩ .no) (elt := evE ⟨F 24, C⟩ e24_0) (ok := fun _ => true) (own := [5]) (σ := σ) (m := []) (g := g) d (rwl n) fs [] (by simp; exact Nat.le_trans hl (by decide)) (fun f hf rs acc ha => by
        subst hσ
        rw [coL_cons]
        simp [e24_0, hd, ha])
      rw [this]
      rfl
    rcases hd with rfl | rfl
    · exact key (rw_ n) (fun f w => by rw [bq_list_rw (by omega)]; exact nlRl (by omega)) _ rfl
    · exact key (rwl n) (fun f w => by rw [bq_list_rwl (by omega)]; exact nlRl (by omega)) _ rfl
  -- all columns
  have loop : ∀ g, ∃ w', (∃ Fd Lf m k, Col p n n1 fs Fd Lf ∧ w' = (⟨[some (.int p), some S, some (.ref k), some (.lst (Fd.map fun q => rwl n q.2)), some (.int n1), none, none, none, none, none, none, none], m, g⟩ : Wd)) ∧ forL (asg (.nm 6)) (exB ⟨F 24, C⟩ b24_0) (postF [6, 7, 9, 10] false 1) (fun _ => true) ((List.range n1).map fun j : Nat => Fz.D.int j) ⟨[some (.int p), some S, some (.ref 0), some (.lst []), some (.int n1), none, none, none, none, none, none, none], [fs.map (rwl n)], g⟩ = .ok (.nx, w') := by
    intro g
    have := forL_inv (bind := asg (.nm 6)) (body := exB ⟨F 24, C⟩ b24_0) (post := postF [6, 7, 9, 10] false 1) (ok := fun _ => true) (fun c w => ∃ Fd Lf m k, Col p n c fs Fd Lf ∧ Lf.length ≤ 200 ∧ m[k]? = some (Lf.map (rwl n)) ∧ w = (⟨[some (.int p), some S, some (.ref k), some (.lst (Fd.map fun q => rwl n q.2)), some (.int n1), none, none, none, none, none, none, none], m, g⟩ : Wd)) (f := fun j : Nat => Fz.D.int j) ((List.range n1).map fun j : Nat => Fz.D.int j) 0 ⟨[some (.int p), some S, some (.ref 0), some (.lst []), some (.int n1), none, none, none, none, none, none, none], [fs.map (rwl n)], g⟩ (fun i hi => by simp) (fun c w r hc _ I => by
      obtain ⟨Fd, Lf, m, k, K, hL, hk, rfl⟩ := I
      rw [List.length_map, List.length_range, Nat.zero_add] at hc
      have ne : fs ≠ [] := fun e => by rw [hn1 e] at hc; exact absurd hc (Nat.not_lt_zero _)
      have e1 := hn2 ne
      obtain ⟨Fd', Lf', m', k', x7, x9, x10, K', hL', hk', e⟩ := col_body hp hn (S := S) (e1 ▸ hc) K hl hL (Ok.len ⟨K.gd, K.inc, K.red⟩) hk g
      refine ⟨⟨[some (.int p), some S, some (.ref k'), some (.lst (Fd'.map fun q => rwl n q.2)), some (.int n1), none, none, none, none, none, none, none], m', g⟩, ⟨Fd', Lf', m', k', K', hL', hk', rfl⟩, ?_⟩
      rw [e1, forL_cons]
      have a1 : asg (.nm 6) (.int c) ⟨[some (.int p), some S, some (.ref k), some (.lst (Fd.map fun q => rwl n q.2)), some (.int n), none, none, none, none, none, none, none], m, g⟩ = some ⟨[some (.int p), some S, some (.ref k), some (.lst (Fd.map fun q => rwl n q.2)), some (.int n), none, some (.int c), none, none, none, none, none], m, g⟩ := rfl
      rw [a1]
      simp only [R.of_some, R.bd_ok, e]
      rfl) ⟨[], fs, [fs.map (rwl n)], 0, Col.start hf, hl, rfl, rfl⟩
    rw [List.length_map, List.length_range, Nat.zero_add] at this
    obtain ⟨w', ⟨Fd, Lf, m, k, K, _, _, e⟩, e2⟩ := this
    exact ⟨w', ⟨Fd, Lf, m, k, K, e⟩, e2⟩
  -- what is found does not rest on g
  have fin : ∀ g, ∃ Fd Lf, Col p n n1 fs Fd Lf ∧ F m 24 [.int p, S] g = .ok (.lst (Fd.map fun q => rwl n q.2), g) := by
    intro g
    obtain ⟨w', ⟨Fd, Lf, m1, k, K, rfl⟩, el⟩ := loop g
    refine ⟨Fd, Lf, K, ?_⟩
    rw [F24 h]
    have nl : ∀ w : Wd, newL 1 (fs.map (rwl n)) w = .ok (.ref w.m.length, { w with m := w.m ++ [fs.map (rwl n)] }) := fun w => newL_1 (by rw [List.length_map]; exact Nat.le_trans hl (by decide))
    have s1 : exS ⟨F 24, C⟩ (.set (.tu [.nm 2, .nm 3, .nm 4]) (.tup (.cons (.co 1 (.nm 5) (.seq (.v 1)) .no e24_0 [5]) (.cons (.lst 0 .nil) (.cons (.ite (.cm .gt (.bi .len 0 (.cons (.v 1) .nil)) (.k (.int 0))) (.bi .len 0 (.cons (.ix (.v 1) (.k (.int 0))) .nil)) (.k (.int 0))) .nil))))) ⟨[some (.int p), some S, none, none, none, none, none, none, none, none, none, none], [], g⟩ = .ok (.nx, ⟨[some (.int p), some S, some (.ref 0), some (.lst []), some (.int n1), none, none, none, none, none, none, none], [fs.map (rwl n)], g⟩) := by
      have c1 : evE ⟨F 24, C⟩ (.co 1 (.nm 5) (.seq (.v 1)) .no e24_0 [5]) ⟨[some (.int p), some S, none, none, none, none, none, none, none, none, none, none], [], g⟩ = .ok (.ref 0, ⟨[some (.int p), some S, none, none, none, none, none, none, none, none, none, none], [fs.map (rwl n)], g⟩) := by
        rw [evE_co]
        simp only [evI_seq, evE_v, List.getElem?_cons_succ, List.getElem?_cons_zero, R.bd_ok, sq, R.of_some, sr]
        have c0' : coL (asg (.nm 5)) (evC ⟨F 24, C⟩ .no) (evE ⟨F 24, C⟩ e24_0) (Src.ok .non ds) [5] [some (.int p), some S, none, none, none, none, none, none, none, none, none, none] ds ⟨[some (.int p), some S, none, none, none, none, none, none, none, none, none, none], [], g⟩ [] = _ := c0 g
        rw [c0']
        simp only [R.bd_ok, nl]
        rfl
      have n0 : ∀ w : Wd, newL 0 [] w = .ok (.lst [], w) := fun w => nlS (by decide)
      simp [c1, hn3, n0, -evE_ite, -evE_co]
    have s2 : exS ⟨F 24, C⟩ (.for (.nm 6) (.rng (.cons (.v 4) .nil)) b24_0 [6, 7, 9, 10] false) ⟨[some (.int p), some S, some (.ref 0), some (.lst []), some (.int n1), none, none, none, none, none, none, none], [fs.map (rwl n)], g⟩ = .ok (.nx, ⟨[some (.int p), some S, some (.ref k), some (.lst (Fd.map fun q => rwl n q.2)), some (.int n1), none, none, none, none, none, none, none], m1, g⟩) := by
      have h1 : n1 ≤ 1000000 := by
        by_cases e : fs = []
        · have := hn1 e; omega
        · have := hn2 e; omega
      rw [exS_for]
      simp only [evI_rng, evEs_cons, evEs_nil, evE_v, List.getElem?_cons_succ, List.getElem?_cons_zero, R.bd_ok, rng_n h1, R.of_some]
      exact el
    have s3 : exS ⟨F 24, C⟩ (.ret (.v 3)) ⟨[some (.int p), some S, some (.ref k), some (.lst (Fd.map fun q => rwl n q.2)), some (.int n1), none, none, none, none, none, none, none], m1, g⟩ = .ok (.rt (.lst (Fd.map fun q => rwl n q.2)), ⟨[some (.int p), some S, some (.ref k), some (.lst (Fd.map fun q => rwl n q.2)), some (.int n1), none, none, none, none, none, none, none], m1, g⟩) := by simp
    have ro : okRets (Fd.map fun q => rwl n q.2) = true := by
      have := mapl_ret (n := n) (fs := Fd.map Prod.snd)
      rw [List.map_map] at this
      exact this
    have hg : ∀ w : Wd, give w (.lst (Fd.map fun q => rwl n q.2)) = some (.lst (Fd.map fun q => rwl n q.2)) := fun w => by
      rw [give_eq]
      exact rs_ok _ (show okRet (.lst (Fd.map fun q : Nat × Vc => rwl n q.2)) = true from ro)
    have fin := exB_step (r := [.for (.nm 6) (.rng (.cons (.v 4) .nil)) b24_0 [6, 7, 9, 10] false, .ret (.v 3)]) s1 |>.trans (exB_step s2 |>.trans (exB_rt s3))
    exact exD_rt (P := ⟨F 24, C⟩) (n := 12) (body := b24) (ds := [.int p, S]) (g := g) (d := .lst (Fd.map fun q : Nat × Vc => rwl n q.2)) fin (hg _)
  -- one for all
  have toOk : ∀ {Fd : List (Nat × Vc)} {Lf : List Vc}, Col p n n1 fs Fd Lf → Ok p n Fd ∧ (∀ x, Sp p n Fd x ↔ Span p n fs x) ∧ (fs = [] → Fd = []) := by
    intro Fd Lf K
    by_cases e : fs = []
    · have e1 := hn1 e
      subst e1
      have F0 : Fd = [] := by
        cases Fd with
        | nil => rfl
        | cons q r => exact absurd (K.lt q List.mem_cons_self) (Nat.not_lt_zero _)
      subst F0
      subst e
      exact ⟨Ok.nil, fun x => Iff.rfl, fun _ => rfl⟩
    · have e1 := hn2 e
      subst e1
      exact ⟨K.done.1, K.done.2, fun h => absurd h e⟩
  obtain ⟨Fd, Lf, K, e0⟩ := fin []
  obtain ⟨O, hs, hz⟩ := toOk K
  refine ⟨Fd, O, hs, hz, fun g => ?_⟩
  obtain ⟨Fd', Lf', K', e1⟩ := fin g
  obtain ⟨O', hs', _⟩ := toOk K'
  have := ok_eql (by omega) O' O fun x => (hs' x).trans (hs x).symm
  rw [e1, this]
end K10

namespace K10
open PySem Fz Rw
open LA (Vc Red clr scl redF Gd Span)
theorem Hand.rs {n : Nat} {S : Fz.D} {ds : List Fz.D} {fs : List Vc} (h : Hand S ds) (hd : Rows n ds fs) (ρ : Nat → Option Fz.D) : Fz.rs ρ true S = some S := by
  rcases h with rfl | rfl | rfl
  · simp [hd.rsL]
  · simp [hd.rsL]
  · simp [hd.rsL]
theorem spaceL_ok {m : Nat} (h : 26 < m) {p : Int} (hp : Pp p) {n : Nat} (hn : n ≤ 50) {fs : List Vc} (hf : ∀ f ∈ fs, Red p n f) (hl : fs.length ≤ 200) {S : Fz.D} {ds : List Fz.D} (hS : Hand S ds) (hd : Rows n ds fs) :
    ∃ L : List (Nat × Vc), Ok p n L ∧ (∀ x, Sp p n L x ↔ Span p n fs x) ∧ ∀ g, F m 26 [.int p, S] g = .ok (dS n L, g) := by
  obtain ⟨L, O, hs, _, e⟩ := redu_ok (m := 26) (by decide) hp hn hf hl hS hd
  refine ⟨L, O, hs, fun g => ?_⟩
  have ll := O.len
  have rS := fun ρ => hS.rs hd ρ
  have e := e g
  rw [F26 h]
  have c : ∀ σ, σ = [some (.int p), some S, none] → coL (asg (.nm 2)) (evC ⟨F 26, C⟩ .no) (evE ⟨F 26, C⟩ e26_0) (fun _ => true) [2] σ (L.map fun q => rwl n q.2) ⟨σ, [], g⟩ [] = .ok (L.map fun q => rw_ n q.2, ⟨σ, [], g⟩) := by
    intro σ hσ
    have := coL_mp (bind := asg (.nm 2)) (test := evC ⟨F 26, C⟩ .no) (elt := evE ⟨F 26, C⟩ e26_0) (ok := fun _ => true) (own := [2]) (σ := σ) (m := []) (g := g) (fun q : Nat × Vc => rwl n q.2) (fun q => rw_ n q.2) L [] (by simp; exact Nat.le_trans ll (Nat.le_trans hn (by decide))) (fun q hq rs acc ha => by
      subst hσ
      rw [coL_cons]
      simp [e26_0, ntR' (m := n) (show n ≤ 1000 by omega), ha])
    rw [this]
    rfl
  have c := c _ rfl
  have em : (L.map fun q => rw_ n q.2) = (L.map Prod.snd).map (rw_ n) := by rw [List.map_map]; rfl
  have lle : (L.map Prod.snd).length ≤ 1000 := by rw [List.length_map]; omega
  have s1 : exS ⟨F 26, C⟩ (.ret (.bi .tuple 0 (.cons (.co 0 (.nm 2) (.seq (.call 24 none (.cons (.v 0) (.cons (.v 1) .nil)) .nil)) .no e26_0 [2]) .nil))) ⟨[some (.int p), some S, none], [], g⟩ = .ok (.rt (dS n L), ⟨[some (.int p), some S, none], [], g⟩) := by
    have a1 : evE ⟨F 26, C⟩ (.call 24 none (.cons (.v 0) (.cons (.v 1) .nil)) .nil) ⟨[some (.int p), some S, none], [], g⟩ = .ok (.lst (L.map fun q => rwl n q.2), ⟨[some (.int p), some S, none], [], g⟩) := by
      simp [rS, e, arrD]
    rw [exS_ret, evE_bi, evEs_cons, evE_co, evI_seq, a1]
    simp only [R.bd_ok, seq_lst, R.of_some]
    have c' : coL (asg (.nm 2)) (evC ⟨F 26, C⟩ .no) (evE ⟨F 26, C⟩ e26_0) (Src.ok (srcOf (.lst (L.map fun q => rwl n q.2))) (L.map fun q => rwl n q.2)) [2] [some (.int p), some S, none] (L.map fun q => rwl n q.2) ⟨[some (.int p), some S, none], [], g⟩ [] = _ := c
    rw [c', em]
    simp only [R.bd_ok, nlP lle, evEs_nil, bq_tuple, lsp_seq, R.of_some, ntP lle]
  exact exD_rt (P := ⟨F 26, C⟩) (n := 3) (body := b26) (ds := [.int p, S]) (g := g) (d := dS n L) (w1 := ⟨[some (.int p), some S, none], [], g⟩) (exB_rt s1) (rs_ok _ map_ret)
theorem headL_ok {m : Nat} (h : 27 < m) {n : Nat} (hn : n ≤ 100) {f : Vc} {d : Fz.D} (hd : d = rw_ n f ∨ d = rwl n f) {k : Nat} (hk : hdN n f = some k) (g : List (List Fz.D)) : F m 27 [d] g = .ok (.int k, g) := by
  rw [F27 h]
  have sq : ∀ w : Wd, w.seq d = some (rl n f) := by rcases hd with rfl | rfl <;> intro w <;> simp
  have sr : srcOf d = .non := by rcases hd with rfl | rfl <;> simp
  have c : ∀ σ, σ = [some d, none, none] → coL (asg (.tu [.nm 1, .nm 2])) (evC ⟨F 27, C⟩ c27_0) (evE ⟨F 27, C⟩ e27_0) (fun _ => true) [1, 2] σ ((List.range n).map fun i : Nat => Fz.D.tup [.int i, .int (f i)]) ⟨σ, [], g⟩ [] = .ok (((List.range n).filter fun i => f i != 0).map fun i : Nat => .int i, ⟨σ, [], g⟩) := by
    intro σ hσ
    have := coL_fil (bind := asg (.tu [.nm 1, .nm 2])) (test := evC ⟨F 27, C⟩ c27_0) (elt := evE ⟨F 27, C⟩ e27_0) (ok := fun _ => true) (own := [1, 2]) (σ := σ) (m := []) (g := g) (fun i : Nat => Fz.D.tup [.int i, .int (f i)]) (fun i : Nat => Fz.D.int i) (fun i => f i != 0) (List.range n) [] (by simp; exact Nat.le_trans hn (by decide)) (fun i hi r acc ha => by
      subst hσ
      rw [coL_cons]
      by_cases z : f i = 0
      · simp [c27_0, z]
      · simp [c27_0, e27_0, z, ha])
    rw [this]
    rfl
  have c := c _ rfl
  have ee : enuL 0 (rl n f) = (List.range n).map fun i : Nat => Fz.D.tup [.int i, .int (f i)] := enu_map _ n
  have ll : (((List.range n).filter fun i => f i != 0).map fun i : Nat => Fz.D.int i).length ≤ 100 := by
    rw [List.length_map]
    exact Nat.le_trans (List.length_filter_le _ _) (by rw [List.length_range]; exact hn)
  have hh : (((List.range n).filter fun i => f i != 0).map fun i : Nat => Fz.D.int i).head? = some (.int k) := by
    rw [List.head?_map, List.head?_filter]
    show (hdN n f).map _ = _
    rw [hk]
    rfl
  have s1 : exS ⟨F 27, C⟩ (.ret (.ix (.co 0 (.tu [.nm 1, .nm 2]) (.enu (.v 0)) c27_0 e27_0 [1, 2]) (.k (.int 0)))) ⟨[some d, none, none], [], g⟩ = .ok (.rt (.int k), ⟨[some d, none, none], [], g⟩) := by
    have nl : ∀ w, newL 0 (((List.range n).filter fun i => f i != 0).map fun i : Nat => Fz.D.int i) w = .ok (.lst (((List.range n).filter fun i => f i != 0).map fun i : Nat => Fz.D.int i), w) := fun w => nlS (by omega)
    have a1 : evE ⟨F 27, C⟩ (.co 0 (.tu [.nm 1, .nm 2]) (.enu (.v 0)) c27_0 e27_0 [1, 2]) ⟨[some d, none, none], [], g⟩ = .ok (.lst (((List.range n).filter fun i => f i != 0).map fun i : Nat => Fz.D.int i), ⟨[some d, none, none], [], g⟩) := by
      rw [evE_co]
      simp only [evI_enu, evE_v, List.getElem?_cons_succ, List.getElem?_cons_zero, R.bd_ok, sq, R.of_some, ee, sr]
      have c' : coL (asg (.tu [.nm 1, .nm 2])) (evC ⟨F 27, C⟩ c27_0) (evE ⟨F 27, C⟩ e27_0) (Src.ok .non (rl n f)) [1, 2] [some d, none, none] ((List.range n).map fun i : Nat => Fz.D.tup [.int i, .int (f i)]) ⟨[some d, none, none], [], g⟩ [] = _ := c
      rw [c']
      simp only [R.bd_ok, nl]
    rw [exS_ret, evE_ix, a1]
    generalize ((List.range n).filter fun i => f i != 0).map (fun i : Nat => Fz.D.int i) = l at *
    cases l with
    | nil => cases hh
    | cons x r =>
      have : x = .int k := Option.some.inj hh
      subst this
      have i0 : ixI (r.length + 1) 0 = some 0 := ix_nat (i := 0) (Nat.succ_pos _)
      simp [i0]
  exact exD_rt (P := ⟨F 27, C⟩) (n := 3) (body := b27) (ds := [d]) (g := g) (d := .int k) (w1 := ⟨[some d, none, none], [], g⟩) (exB_rt s1) rfl
end K10

namespace K10
open PySem Fz Rw
open LA (Vc Red clr scl redF Gd Span)
theorem op_mulL {md : Nat} {xs : List Fz.D} {j : Int} {w : Wd} : opF .mul md (.lst xs) (.int j) w = if isL (.lst xs) && decide (-(2 ^ 63) ≤ j ∧ j < 2 ^ 63) then (R.of (w.seq (.lst xs))).bd fun a => if a.length * j.toNat ≤ mxLen then newL md (List.replicate j.toNat a).flatten w else .err else .err := .trans rfl rfl
theorem zerosL {n : Nat} (h2 : n ≤ 1000) {w : Wd} : opF .mul 1 (.lst [.int 0]) (.int (n : Int)) w = .ok (.ref w.m.length, { w with m := w.m ++ [rl n fun _ => 0] }) := by
  have c1 : -(2 ^ 63) ≤ (n : Int) ∧ (n : Int) < 2 ^ 63 := by omega
  have c2 : 1 * n ≤ mxLen := Nat.le_trans (by omega) (show 1000 ≤ mxLen by decide)
  rw [op_mulL, decide_eq_true c1, seq_lst, R.of_some, R.bd_ok, List.length_singleton, Int.toNat_natCast, if_pos c2, rl_rep]
  exact newL_1 (by rw [rl_len]; exact Nat.le_trans h2 (by decide))
theorem lq_rl {n : Nat} (u : Vc) : lsq (rl n u) = some (rl n u) := by
  unfold lsq
  have : isDc (rl n u) = false := by
    cases n with
    | zero => rfl
    | succ n => unfold rl; rw [List.range_succ_eq_map]; rfl
  rw [this]; rfl
/-- _law_dots -/
theorem dots_ok {m : Nat} (h : 28 < m) {p : Int} (hp : Pp p) {n : Nat} (hn : n ≤ 50) {fs : List Vc} (hf : ∀ f ∈ fs, Red p n f) (hl : fs.length ≤ 200) {S : Fz.D} {ds : List Fz.D} (hS : Hand S ds) (hd : Rows n ds fs) :
    ∃ L : List (Nat × Vc), Ok p n L ∧ (∀ x, Sp p n L x ↔ LA.Perp p n (Span p n fs) x) ∧ ∀ g, F m 28 [.int p, S, .int n] g = .ok (dS n L, g) := by
  have lo := hp.lo
  have hi := hp.hi
  obtain ⟨L, O, hs, hz, eR⟩ := redu_ok (m := 28) (by decide) hp hn hf hl hS hd
  have ll := O.len
  have bl : (bes p n L).length ≤ n := by
    unfold bes frs LA.frees
    rw [List.length_map]
    exact Nat.le_trans (List.length_filter_le _ _) (by rw [List.length_range]; exact Nat.le_refl _)
  obtain ⟨L', O', hs', e7⟩ := spaceL_ok (m := 28) (by decide) hp hn (fs := bes p n L) (fun f hf => by
    obtain ⟨k, _, rfl⟩ := List.mem_map.mp hf
    exact setF_red (by omega) (un_red (by omega))) (by omega) (S := .fl ((bes p n L).map (rwl n))) (.inr (.inr rfl)) (.inr rfl)
  refine ⟨L', O', fun x => (hs' x).trans ((bes_span (by omega) O x).trans (perp_ext hs x)), fun g => ?_⟩
  have rS := fun ρ => hS.rs hd ρ
  have hp0 : ¬ p = 0 := by omega
  have hpm : ∀ a : Int, a.fmod p = a % p := fun a => Int.fmod_eq_emod_of_nonneg _ (by omega)
  have sl := fun {w : Wd} => hS.len (md := 0) (w := w)
  rw [F28 h]
  have rlL : ∀ ρ φ, Fz.rsL ρ φ (L.map fun q => rwl n q.2) = some (L.map fun q => rwl n q.2) := fun ρ φ => by
    have := mapl_ret (n := n) (fs := L.map Prod.snd)
    rw [List.map_map] at this
    exact rsL_ok _ this
  have rH : ∀ ρ φ, Fz.rsL ρ φ (hdsD L) = some (hdsD L) := fun ρ φ => rsL_ok _ hds_ret
  -- the steps
  have s1 : exS ⟨F 28, C⟩ (.set (.nm 3) (.ite (.cm .gt (.bi .len 0 (.cons (.v 1) .nil)) (.k (.int 0))) (.call 24 none (.cons (.v 0) (.cons (.v 1) .nil)) .nil) (.lst 0 .nil))) ⟨[some (.int p), some S, some (.int n), none, none, none, none, none, none, none, none], [], g⟩ = .ok (.nx, ⟨[some (.int p), some S, some (.int n), some (.lst (L.map fun q => rwl n q.2)), none, none, none, none, none, none, none], [], g⟩) := by
    have eR := eR g
    have n0 : ∀ w : Wd, newL 0 [] w = .ok (.lst [], w) := fun w => nlS (by decide)
    by_cases z : fs = []
    · have : L = [] := hz z
      subst this
      have : ds.length = 0 := by rw [hd.len, z]; rfl
      simp [sl, this, n0]
    · have : 0 < ds.length := by rw [hd.len]; exact List.length_pos_iff.mpr z
      have e3 : (0 : Int) < (ds.length : Int) := by omega
      have nn : ds ≠ [] := fun e => by rw [e] at this; exact absurd this (Nat.lt_irrefl 0)
      simp [sl, e3, nn, rS, eR, arrD]
  have c2 : ∀ σ, σ = [some (.int p), some S, some (.int n), some (.lst (L.map fun q => rwl n q.2)), none, none, none, none, none, none, none] → coL (asg (.nm 6)) (evC ⟨F 28, C⟩ .no) (evE ⟨F 28, C⟩ e28_0) (fun _ => true) [6] σ (L.map fun q => rwl n q.2) ⟨σ, [], g⟩ [] = .ok (hdsD L, ⟨σ, [], g⟩) := by
    intro σ hσ
    have := coL_mp (bind := asg (.nm 6)) (test := evC ⟨F 28, C⟩ .no) (elt := evE ⟨F 28, C⟩ e28_0) (ok := fun _ => true) (own := [6]) (σ := σ) (m := []) (g := g) (fun q : Nat × Vc => rwl n q.2) (fun q => .int q.1) L [] (by simp; exact Nat.le_trans ll (Nat.le_trans hn (by decide))) (fun q hq rs acc ha => by
      have e2 := headL_ok (m := 28) (by decide) (n := n) (by omega) (d := rwl n q.2) (.inr rfl) (O.hd (by omega) q hq) g
      subst hσ
      rw [coL_cons]
      simp [e28_0, e2, arrD, ha])
    rw [this]
    rfl
  have c2 := c2 _ rfl
  have hl2 : (hdsD L).length ≤ 1000 := by unfold hdsD; rw [List.length_map]; omega
  have s2 : exS ⟨F 28, C⟩ (.set (.tu [.nm 4, .nm 5]) (.tup (.cons (.co 0 (.nm 6) (.seq (.v 3)) .no e28_0 [6]) (.cons (.lst 1 .nil) .nil)))) ⟨[some (.int p), some S, some (.int n), some (.lst (L.map fun q => rwl n q.2)), none, none, none, none, none, none, none], [], g⟩ = .ok (.nx, ⟨[some (.int p), some S, some (.int n), some (.lst (L.map fun q => rwl n q.2)), some (.lst (hdsD L)), some (.ref 0), none, none, none, none, none], [[]], g⟩) := by
    have a1 : evE ⟨F 28, C⟩ (.co 0 (.nm 6) (.seq (.v 3)) .no e28_0 [6]) ⟨[some (.int p), some S, some (.int n), some (.lst (L.map fun q => rwl n q.2)), none, none, none, none, none, none, none], [], g⟩ = .ok (.lst (hdsD L), ⟨[some (.int p), some S, some (.int n), some (.lst (L.map fun q => rwl n q.2)), none, none, none, none, none, none, none], [], g⟩) := by
      rw [evE_co]
      simp only [evI_seq, evE_v, List.getElem?_cons_succ, List.getElem?_cons_zero, R.bd_ok, seq_lst, R.of_some]
      have c' : coL (asg (.nm 6)) (evC ⟨F 28, C⟩ .no) (evE ⟨F 28, C⟩ e28_0) (Src.ok (srcOf (.lst (L.map fun q => rwl n q.2))) (L.map fun q => rwl n q.2)) [6] [some (.int p), some S, some (.int n), some (.lst (L.map fun q => rwl n q.2)), none, none, none, none, none, none, none] (L.map fun q => rwl n q.2) ⟨[some (.int p), some S, some (.int n), some (.lst (L.map fun q => rwl n q.2)), none, none, none, none, none, none, none], [], g⟩ [] = _ := c2
      have nl : ∀ w, newL 0 (hdsD L) w = .ok (.lst (hdsD L), w) := fun w => nlS hl2
      rw [c']
      simp only [R.bd_ok, nl]
    have e0 : ∀ w : Wd, newL 1 [] w = .ok (.ref w.m.length, { w with m := w.m ++ [[]] }) := fun w => newL_1 (by decide)
    simp [a1, e0, -evE_co]
  -- the places that are no heads
  have niL : ∀ {f : Nat} {w : Wd}, cmF .notin (.int f) (.lst (hdsD L)) w = some (!(L.map Prod.fst).contains f) := fun {f w} => notin_hds (L := L) (f := f) (w := w)
  have c3 : ∀ σ, σ = [some (.int p), some S, some (.int n), some (.lst (L.map fun q => rwl n q.2)), some (.lst (hdsD L)), some (.ref 0), none, none, none, none, none] → coL (asg (.nm 8)) (evC ⟨F 28, C⟩ c28_1) (evE ⟨F 28, C⟩ e28_1) (fun _ => true) [8] σ ((List.range n).map fun j : Nat => Fz.D.int j) ⟨σ, [[]], g⟩ [] = .ok ((frs n L).map fun j : Nat => Fz.D.int j, ⟨σ, [[]], g⟩) := by
    intro σ hσ
    have := coL_fil (bind := asg (.nm 8)) (test := evC ⟨F 28, C⟩ c28_1) (elt := evE ⟨F 28, C⟩ e28_1) (ok := fun _ => true) (own := [8]) (σ := σ) (m := [[]]) (g := g) (fun j : Nat => Fz.D.int j) (fun j : Nat => Fz.D.int j) (fun j => !(L.map Prod.fst).contains j) (List.range n) [] (by simp; exact Nat.le_trans hn (by decide)) (fun j hj rs acc ha => by
      have ni := fun {w : Wd} => niL (f := j) (w := w)
      subst hσ
      rw [coL_cons]
      cases hc : (L.map Prod.fst).contains j with
      | true =>
        rw [hc] at ni
        simp [c28_1, ni]
      | false =>
        rw [hc] at ni
        simp [c28_1, e28_1, ni, ha])
    rw [this]
    rfl
  have c3 := c3 _ rfl
  have zz : zipD (L.map fun q => rwl n q.2) (hdsD L) = L.map fun q => Fz.D.tup [rwl n q.2, .int q.1] := zip_map (fun q : Nat × Vc => rwl n q.2) (fun q => Fz.D.int q.1) L
  have inner : ∀ (f : Nat), f < n → ∀ (fd : List Fz.D) (M : List (Nat × Vc)) (u : Vc), (∀ q ∈ M, q ∈ L) → forL (asg (.tu [.nm 6, .nm 10])) (exB ⟨F 28, C⟩ b28_0) (postF [6, 10] false 2) (fun _ => true) (M.map fun q => Fz.D.tup [rwl n q.2, .int q.1]) ⟨[some (.int p), some S, some (.int n), some (.lst (L.map fun q => rwl n q.2)), some (.lst (hdsD L)), some (.ref 0), none, some (.int f), none, some (.ref 1), none], [fd, rl n u], g⟩ = .ok (.nx, ⟨[some (.int p), some S, some (.int n), some (.lst (L.map fun q => rwl n q.2)), some (.lst (hdsD L)), some (.ref 0), none, some (.int f), none, some (.ref 1), none], [fd, rl n (setF p f M u)], g⟩) := by
    intro f hf fd M
    induction M with
    | nil => intro u _; rfl
    | cons q M ih =>
      intro u hM
      have k1 := O.gd.lt q (hM q List.mem_cons_self)
      have g1 : (rl n q.2)[f]? = some (.int (q.2 f)) := rl_get hf
      have ih := ih (fun j => if j = q.1 then (-(q.2 f)) % p else u j) (fun r hr => hM r (List.mem_cons_of_mem _ hr))
      have a1 : asg (.tu [.nm 6, .nm 10]) (.tup [rwl n q.2, .int q.1]) ⟨[some (.int p), some S, some (.int n), some (.lst (L.map fun q => rwl n q.2)), some (.lst (hdsD L)), some (.ref 0), none, some (.int f), none, some (.ref 1), none], [fd, rl n u], g⟩ = some ⟨[some (.int p), some S, some (.int n), some (.lst (L.map fun q => rwl n q.2)), some (.lst (hdsD L)), some (.ref 0), some (rwl n q.2), some (.int f), none, some (.ref 1), some (.int q.1)], [fd, rl n u], g⟩ := rfl
      have body : exB ⟨F 28, C⟩ b28_0 ⟨[some (.int p), some S, some (.int n), some (.lst (L.map fun q => rwl n q.2)), some (.lst (hdsD L)), some (.ref 0), some (rwl n q.2), some (.int f), none, some (.ref 1), some (.int q.1)], [fd, rl n u], g⟩ = .ok (.nx, ⟨[some (.int p), some S, some (.int n), some (.lst (L.map fun q => rwl n q.2)), some (.lst (hdsD L)), some (.ref 0), some (rwl n q.2), some (.int f), none, some (.ref 1), some (.int q.1)], [fd, rl n fun j => if j = q.1 then (-(q.2 f)) % p else u j], g⟩) := by
        simp [b28_0, ix_nat hf, ix_nat k1, g1, hp0, hpm, lq_rl, rl_set]
      rw [List.map_cons, forL_cons, a1]
      simp only [R.of_some, R.bd_ok, body]
      exact ih
  have lq := lq_rwl (n := n)
  have loop : ∀ (js : List Nat) (gs : List Vc), (∀ j ∈ js, j < n) → gs.length + js.length ≤ n → forL (asg (.nm 7)) (exB ⟨F 28, C⟩ b28_1) (postF [6, 7, 9, 10] true 1) (fun _ => true) (js.map fun j : Nat => Fz.D.int j) ⟨[some (.int p), some S, some (.int n), some (.lst (L.map fun q => rwl n q.2)), some (.lst (hdsD L)), some (.ref 0), none, none, none, none, none], [gs.map (rwl n)], g⟩ = .ok (.nx, ⟨[some (.int p), some S, some (.int n), some (.lst (L.map fun q => rwl n q.2)), some (.lst (hdsD L)), some (.ref 0), none, none, none, none, none], [(gs ++ js.map fun f => setF p f L (un f)).map (rwl n)], g⟩) := by
    intro js
    induction js with
    | nil =>
      intro gs _ _
      have e : (gs ++ ([] : List Nat).map fun f => setF p f L (un f)) = gs := List.append_nil _
      rw [e]
      rfl
    | cons j js ih =>
      intro gs hj hl
      have hjn := hj j List.mem_cons_self
      rw [List.length_cons] at hl
      have ih := ih (gs ++ [setF p j L (un j)]) (fun k hk => hj k (List.mem_cons_of_mem _ hk)) (by rw [List.length_append, List.length_singleton]; omega)
      have inn := inner j hjn (gs.map (rwl n)) L (un j) (fun _ h => h)
      have a1 : asg (.nm 7) (.int j) ⟨[some (.int p), some S, some (.int n), some (.lst (L.map fun q => rwl n q.2)), some (.lst (hdsD L)), some (.ref 0), none, none, none, none, none], [gs.map (rwl n)], g⟩ = some ⟨[some (.int p), some S, some (.int n), some (.lst (L.map fun q => rwl n q.2)), some (.lst (hdsD L)), some (.ref 0), none, some (.int j), none, none, none], [gs.map (rwl n)], g⟩ := rfl
      have t1 : exS ⟨F 28, C⟩ (.set (.nm 9) (.op .mul 1 (.lst 0 (.cons (.k (.int 0)) .nil)) (.v 2))) ⟨[some (.int p), some S, some (.int n), some (.lst (L.map fun q => rwl n q.2)), some (.lst (hdsD L)), some (.ref 0), none, some (.int j), none, none, none], [gs.map (rwl n)], g⟩ = .ok (.nx, ⟨[some (.int p), some S, some (.int n), some (.lst (L.map fun q => rwl n q.2)), some (.lst (hdsD L)), some (.ref 0), none, some (.int j), none, some (.ref 1), none], [gs.map (rwl n), rl n fun _ => 0], g⟩) := by
        have z := fun {w : Wd} => zerosL (n := n) (by omega) (w := w)
        simp [nl1, z]
      have e1 : rl n (fun i => if i = j then 1 else 0) = rl n (un j) := rfl
      have t2 : exS ⟨F 28, C⟩ (.put (.v 9) (.v 7) (.k (.int 1))) ⟨[some (.int p), some S, some (.int n), some (.lst (L.map fun q => rwl n q.2)), some (.lst (hdsD L)), some (.ref 0), none, some (.int j), none, some (.ref 1), none], [gs.map (rwl n), rl n fun _ => 0], g⟩ = .ok (.nx, ⟨[some (.int p), some S, some (.int n), some (.lst (L.map fun q => rwl n q.2)), some (.lst (hdsD L)), some (.ref 0), none, some (.int j), none, some (.ref 1), none], [gs.map (rwl n), rl n (un j)], g⟩) := by
        simp [lq_rl, ix_nat hjn, rl_set]
        exact e1
      have t3 : exS ⟨F 28, C⟩ (.for (.tu [.nm 6, .nm 10]) (.zip (.v 3) (.v 4)) b28_0 [6, 10] false) ⟨[some (.int p), some S, some (.int n), some (.lst (L.map fun q => rwl n q.2)), some (.lst (hdsD L)), some (.ref 0), none, some (.int j), none, some (.ref 1), none], [gs.map (rwl n), rl n (un j)], g⟩ = .ok (.nx, ⟨[some (.int p), some S, some (.int n), some (.lst (L.map fun q => rwl n q.2)), some (.lst (hdsD L)), some (.ref 0), none, some (.int j), none, some (.ref 1), none], [gs.map (rwl n), rl n (setF p j L (un j))], g⟩) := by
        rw [exS_for]
        simp [zz, -List.map_map]
        exact inn
      have t4 : exS ⟨F 28, C⟩ (.ex (.me .append (.v 5) (.cons (.v 9) .nil))) ⟨[some (.int p), some S, some (.int n), some (.lst (L.map fun q => rwl n q.2)), some (.lst (hdsD L)), some (.ref 0), none, some (.int j), none, some (.ref 1), none], [gs.map (rwl n), rl n (setF p j L (un j))], g⟩ = .ok (.nx, ⟨[some (.int p), some S, some (.int n), some (.lst (L.map fun q => rwl n q.2)), some (.lst (hdsD L)), some (.ref 0), none, some (.int j), none, some (.ref 1), none], [gs.map (rwl n) ++ [.ref 1], rl n (setF p j L (un j))], g⟩) := by
        have lt : gs.length < mxLen := Nat.lt_of_le_of_lt (show gs.length ≤ 50 by omega) (by decide)
        simp [lq, lt]
      have body : exB ⟨F 28, C⟩ b28_1 ⟨[some (.int p), some S, some (.int n), some (.lst (L.map fun q => rwl n q.2)), some (.lst (hdsD L)), some (.ref 0), none, some (.int j), none, none, none], [gs.map (rwl n)], g⟩ = .ok (.nx, ⟨[some (.int p), some S, some (.int n), some (.lst (L.map fun q => rwl n q.2)), some (.lst (hdsD L)), some (.ref 0), none, some (.int j), none, some (.ref 1), none], [gs.map (rwl n) ++ [.ref 1], rl n (setF p j L (un j))], g⟩) := by
        unfold b28_1
        rw [exB_step t1, exB_step t2, exB_step t3, exB_step t4]
        rfl
      have pf : postF [6, 7, 9, 10] true 1 ⟨[some (.int p), some S, some (.int n), some (.lst (L.map fun q => rwl n q.2)), some (.lst (hdsD L)), some (.ref 0), none, some (.int j), none, some (.ref 1), none], [gs.map (rwl n) ++ [.ref 1], rl n (setF p j L (un j))], g⟩ = some ⟨[some (.int p), some S, some (.int n), some (.lst (L.map fun q => rwl n q.2)), some (.lst (hdsD L)), some (.ref 0), none, none, none, none, none], [(gs ++ [setF p j L (un j)]).map (rwl n)], g⟩ := by
        have rM : ∀ ρ φ (gs : List Vc) (r : List Fz.D), Fz.rsL ρ φ (gs.map (rwl n) ++ r) = (Fz.rsL ρ φ r).map fun r' => gs.map (rwl n) ++ r' := fun ρ φ gs r => by
          induction gs with
          | nil => simp
          | cons f gs ih =>
            show (Fz.rs ρ φ (rwl n f)).bind (fun x => (Fz.rsL ρ φ (gs.map (rwl n) ++ r)).map fun xs => x :: xs) = _
            rw [rwl_rs, ih]
            cases Fz.rsL ρ φ r <;> rfl
        have k0 : keep 1 [gs.map (rwl n) ++ [.ref 1], rl n (setF p j L (un j))] 0 = some (.ref 0) := keep_lt (by decide)
        have k1 : keep 1 [gs.map (rwl n) ++ [.ref 1], rl n (setF p j L (un j))] 1 = some (rwl n (setF p j L (un j))) := by
          rw [keep_ge (by decide)]
          show ((some (rl n (setF p j L (un j)))).bind lsq).bind _ = _
          rw [Option.bind_some, lq_rl, Option.bind_some, rsL_ok _ rl_ok]
          rfl
        simp [gc_eq, rH, rS, rlL, rM, k0, k1]
      rw [List.map_cons, forL_cons, a1]
      simp only [R.of_some, R.bd_ok, body, pf, if_true]
      rw [List.append_assoc] at ih
      exact ih
  have e := loop (frs n L) [] (fun j hj => (LA.mem_frees.mp hj).1) (by
    have : (frs n L).length ≤ n := by
      unfold frs LA.frees
      exact Nat.le_trans (List.length_filter_le _ _) (by rw [List.length_range]; exact Nat.le_refl _)
    simpa using this)
  have s3 : exS ⟨F 28, C⟩ (.for (.nm 7) (.seq (.co 0 (.nm 8) (.rng (.cons (.v 2) .nil)) c28_1 e28_1 [8])) b28_1 [6, 7, 9, 10] true) ⟨[some (.int p), some S, some (.int n), some (.lst (L.map fun q => rwl n q.2)), some (.lst (hdsD L)), some (.ref 0), none, none, none, none, none], [[]], g⟩ = .ok (.nx, ⟨[some (.int p), some S, some (.int n), some (.lst (L.map fun q => rwl n q.2)), some (.lst (hdsD L)), some (.ref 0), none, none, none, none, none], [(bes p n L).map (rwl n)], g⟩) := by
    have a1 : evE ⟨F 28, C⟩ (.co 0 (.nm 8) (.rng (.cons (.v 2) .nil)) c28_1 e28_1 [8]) ⟨[some (.int p), some S, some (.int n), some (.lst (L.map fun q => rwl n q.2)), some (.lst (hdsD L)), some (.ref 0), none, none, none, none, none], [[]], g⟩ = .ok (.lst ((frs n L).map fun j : Nat => Fz.D.int j), ⟨[some (.int p), some S, some (.int n), some (.lst (L.map fun q => rwl n q.2)), some (.lst (hdsD L)), some (.ref 0), none, none, none, none, none], [[]], g⟩) := by
      have nl : ∀ w, newL 0 ((frs n L).map fun j : Nat => Fz.D.int j) w = .ok (.lst ((frs n L).map fun j : Nat => Fz.D.int j), w) := fun w => nlS (by
        rw [List.length_map]
        unfold frs LA.frees
        exact Nat.le_trans (List.length_filter_le _ _) (by rw [List.length_range]; omega))
      rw [evE_co]
      simp only [evI_rng, evEs_cons, evEs_nil, evE_v, List.getElem?_cons_succ, List.getElem?_cons_zero, R.bd_ok, rng_n (n := n) (show n ≤ 1000000 by omega), R.of_some]
      rw [c3]
      simp only [R.bd_ok, nl]
    rw [exS_for, evI_seq, a1]
    simp only [R.bd_ok, seq_lst, R.of_some]
    exact e
  have s4 : exS ⟨F 28, C⟩ (.ret (.call 26 none (.cons (.v 0) (.cons (.v 5) .nil)) .nil)) ⟨[some (.int p), some S, some (.int n), some (.lst (L.map fun q => rwl n q.2)), some (.lst (hdsD L)), some (.ref 0), none, none, none, none, none], [(bes p n L).map (rwl n)], g⟩ = .ok (.rt (dS n L'), ⟨[some (.int p), some S, some (.int n), some (.lst (L.map fun q => rwl n q.2)), some (.lst (hdsD L)), some (.ref 0), none, none, none, none, none], [(bes p n L).map (rwl n)], g⟩) := by
    have e7 := e7 g
    have rB : ∀ ρ φ, Fz.rsL ρ φ ((bes p n L).map (rwl n)) = some ((bes p n L).map (rwl n)) := fun ρ φ => rsL_ok _ mapl_ret
    simp [lq, rB, e7, arrD]
  have fin := exB_step (r := [.set (.tu [.nm 4, .nm 5]) (.tup (.cons (.co 0 (.nm 6) (.seq (.v 3)) .no e28_0 [6]) (.cons (.lst 1 .nil) .nil))), .for (.nm 7) (.seq (.co 0 (.nm 8) (.rng (.cons (.v 2) .nil)) c28_1 e28_1 [8])) b28_1 [6, 7, 9, 10] true, .ret (.call 26 none (.cons (.v 0) (.cons (.v 5) .nil)) .nil)]) s1 |>.trans (exB_step s2 |>.trans (exB_step s3 |>.trans (exB_rt s4)))
  exact exD_rt (P := ⟨F 28, C⟩) (n := 11) (body := b28) (ds := [.int p, S, .int n]) (g := g) (d := dS n L') fin (rs_ok _ map_ret)
end K10

namespace K10
open PySem Fz Rw
open LA (Vc Red clr scl redF Gd Span)
def RowQ (p : Int) (n : Nat) (y : Fz.D) : Prop := ∃ f : Vc, y = rw_ n f ∧ Red p n f
theorem rows_of {p : Int} {n : Nat} : ∀ {ys : List Fz.D}, (∀ y ∈ ys, RowQ p n y) → ∃ fs : List Vc, ys = fs.map (rw_ n) ∧ ∀ f ∈ fs, Red p n f
  | [], _ => ⟨[], rfl, fun _ h => nomatch h⟩
  | y :: ys, h => by
    obtain ⟨f, e, hf⟩ := h y List.mem_cons_self
    obtain ⟨fs, e2, h2⟩ := rows_of fun z hz => h z (List.mem_cons_of_mem _ hz)
    exact ⟨f :: fs, by rw [e, e2]; rfl, mm_cons hf h2⟩
/-- a drawn space -/
theorem some_ok {m : Nat} (h : 30 < m) {g : List (List Fz.D)} (hg : Pot g) {p : Int} (hp : Pp p) {n : Nat} (hn : n ≤ 50) :
    ∃ (L : List (Nat × Vc)) (g' : List (List Fz.D)), F m 30 [.g 1, .int p, .int n] g = .ok (dS n L, g') ∧ Pot g' ∧ Ok p n L := by
  rw [F30 h]
  obtain ⟨r, g1, e1, p1, b1⟩ := of18 (n := 30) (by decide) hg (m := (n : Int) + 1) (by omega) (by omega)
  obtain ⟨ys, g2, hl, hq, p2, e2⟩ := coL_draw (P := ⟨F 30, C⟩) (e := e30_0) (t := 3) (ok := fun _ => true) (own := [3]) (σ := [some (.g 1), some (.int p), some (.int n), none]) (m := []) (RowQ p n) Pot (fun _ => rfl) ((List.range r).map fun j : Nat => .int j) [] g1 p1 (fun _ h => nomatch h) (by simp; exact Nat.le_trans (show r ≤ 50 by omega) (by decide)) (fun x hx g hg => by
    obtain ⟨j, _, rfl⟩ := List.mem_map.mp hx
    obtain ⟨f, g3, e3, p3, hf⟩ := row26 (m := 30) (by decide) hg hp hn
    exact ⟨rw_ n f, _, g3, by simp [e30_0, e3, arrD]; rfl, p3, f, rfl, hf⟩)
  obtain ⟨fs, rfl, hf⟩ := rows_of hq
  have hl : fs.length = r := by simpa using hl
  obtain ⟨L, O, _, e⟩ := spaceL_ok (m := 30) (by decide) hp hn hf (by omega) (S := .lst (fs.map (rw_ n))) (.inr (.inl rfl)) (.inl rfl)
  refine ⟨L, g2, ?_, p2, O⟩
  have e := e g2
  have s1 : exS ⟨F 30, C⟩ (.ret (.call 26 none (.cons (.v 1) (.cons (.co 0 (.nm 3) (.rng (.cons (.call 18 none (.cons (.v 0) (.cons (.op .add 0 (.v 2) (.k (.int 1))) .nil)) .nil) .nil)) .no e30_0 [3]) .nil)) .nil)) ⟨[some (.g 1), some (.int p), some (.int n), none], [], g⟩ = .ok (.rt (dS n L), ⟨[some (.g 1), some (.int p), some (.int n), none], [], g2⟩) := by
    have a1 : evE ⟨F 30, C⟩ (.co 0 (.nm 3) (.rng (.cons (.call 18 none (.cons (.v 0) (.cons (.op .add 0 (.v 2) (.k (.int 1))) .nil)) .nil) .nil)) .no e30_0 [3]) ⟨[some (.g 1), some (.int p), some (.int n), none], [], g⟩ = .ok (lsp n fs, ⟨[some (.g 1), some (.int p), some (.int n), none], [], g2⟩) := by
      have i1 : evI ⟨F 30, C⟩ (.rng (.cons (.call 18 none (.cons (.v 0) (.cons (.op .add 0 (.v 2) (.k (.int 1))) .nil)) .nil) .nil)) ⟨[some (.g 1), some (.int p), some (.int n), none], [], g⟩ = .ok (⟨(List.range r).map fun j : Nat => Fz.D.int j, fun _ => true⟩, ⟨[some (.g 1), some (.int p), some (.int n), none], [], g1⟩) := by
        simp [e1, arrD, rng_n (n := r) (show r ≤ 1000000 by omega)]
      rw [evE_co, i1]
      simp only [R.bd_ok]
      rw [e2]
      simp only [R.bd_ok, nlP (show fs.length ≤ 1000 by omega)]
    have rf : Fz.rsL (up Fz.D.fl 0 ([] : List (List Fz.D)) true 4) true (fs.map (rw_ n)) = some (fs.map (rw_ n)) := rsL_ok _ map_ret
    unfold lsp at a1
    simp [a1, rf, e, arrD, -evE_co]
  exact exD_rt (P := ⟨F 30, C⟩) (n := 4) (body := b30) (ds := [.g 1, .int p, .int n]) (g := g) (d := dS n L) (w1 := ⟨[some (.g 1), some (.int p), some (.int n), none], [], g2⟩) (exB_rt s1) (rs_ok _ map_ret)
end K10

namespace K10
open PySem Fz Rw
open LA (Vc Red clr scl redF Gd Span)
theorem row_it {p : Int} (hp : p ≤ 10) {n : Nat} (hn : n ≤ 6) {f : Vc} (hf : Red p n f) : It 51 1 (rw_ n f) := by
  refine (It.tup (c := 6) (k := 0) (L := 6) (fun d hd => ?_) (by rw [rl_len]; exact hn)).mono (by decide) (by decide)
  rw [rl_map] at hd
  obtain ⟨j, hj, rfl⟩ := List.mem_map.mp hd
  have := hf j (List.mem_range.mp hj)
  exact It.int (by omega)
theorem spc_it {p : Int} (hp : p ≤ 10) {n : Nat} (hn : n ≤ 6) {fs : List Vc} (hf : ∀ f ∈ fs, Red p n f) (hl : fs.length ≤ 6) : It 321 2 (spc n fs) :=
  (It.tup (c := 51) (k := 1) (L := 6) (fun d hd => by
    obtain ⟨f, h, rfl⟩ := List.mem_map.mp hd
    exact row_it hp hn (hf f h)) (by rw [List.length_map]; exact hl)).mono (by decide) (by decide)
theorem dS_it {p : Int} (hp : p ≤ 10) {n : Nat} (hn : n ≤ 6) {L : List (Nat × Vc)} (O : Ok p n L) : It 321 2 (dS n L) :=
  spc_it hp hn (red_all O) (by rw [List.length_map]; exact Nat.le_trans O.len hn)
theorem same_ne {c k : Nat} (hk : k ≤ 60) {d : Fz.D} (h : It c k d) {w : Wd} : cmF .ne d d w = some false := by
  show (eqF _ _ w).map (fun b => !b) = _
  rw [eqF_plain (k := 5) (n := k) h.pl h.pl (by omega), eqv_same h.pl]
  rfl
theorem nil_eq {p : Int} (hp : p ≤ 10) {n : Nat} (hn : n ≤ 6) {L : List (Nat × Vc)} (O : Ok p n L) {w : Wd} : cmF .eq (dS n L) (.tup []) w = some (decide (L.length = 0)) := by
  have h := (Pl_tup.mp (dS_it hp hn O).pl)
  have := eq_nilT (n := 1) (ds := (L.map Prod.snd).map (rw_ n)) h (by decide) (w := w)
  show cmF .eq (.tup ((L.map Prod.snd).map (rw_ n))) (.tup []) w = _
  rw [this]
  cases L <;> rfl
theorem len_eq {p : Int} (hp : 1 < p) {n : Nat} {A B : List (Nat × Vc)} (OA : Ok p n A) (OB : Ok p n B) (h : ∀ x, Sp p n A x ↔ Sp p n B x) : A.length = B.length := by
  have := congrArg List.length (LA.rref_one hp OA.rref OB.rref h).1
  simpa using this
theorem dims {p : Int} (hp : 1 < p) {n : Nat} {A B J M : List (Nat × Vc)} (OA : Ok p n A) (OB : Ok p n B) (OJ : Ok p n J) (OM : Ok p n M) (hJ : ∀ x, Sp p n J x ↔ Span p n (A.map Prod.snd ++ B.map Prod.snd) x) (hM : ∀ x, Sp p n M x ↔ Sp p n A x ∧ Sp p n B x) : J.length + M.length = A.length + B.length := by
  have := LA.dim_sum hp OA.rref OB.rref OM.rref hM OJ.rref hJ
  simpa using this
theorem sp_left {p : Int} {n : Nat} {A B : List Vc} {x : Vc} (h : Span p n A x) : Span p n (A ++ B) x := (LA.span_sub _).span (fun d hd => Span.mem (List.mem_append_left _ hd)) h
theorem sp_right {p : Int} {n : Nat} {A B : List Vc} {x : Vc} (h : Span p n B x) : Span p n (A ++ B) x := (LA.span_sub _).span (fun d hd => Span.mem (List.mem_append_right _ hd)) h
end K10

/-! sums, modulo p -/
namespace K10
def sm : Nat → (Nat → Int) → Int
  | 0, _ => 0
  | n + 1, f => sm n f + f n
theorem sm_eq (f : Nat → Int) : ∀ n, ((List.range n).map f).sum = sm n f
  | 0 => rfl
  | n + 1 => by
    rw [List.range_succ, List.map_append, List.sum_append, sm_eq f n]
    simp [sm]
theorem sm_congr {f g : Nat → Int} : ∀ {n : Nat}, (∀ i, i < n → f i = g i) → sm n f = sm n g
  | 0, _ => rfl
  | n + 1, h => by
    show sm n f + f n = sm n g + g n
    rw [sm_congr (n := n) fun i hi => h i (by omega), h n (by omega)]
theorem sm_mod {p : Int} {f g : Nat → Int} : ∀ {n : Nat}, (∀ i, i < n → f i % p = g i % p) → sm n f % p = sm n g % p
  | 0, _ => rfl
  | n + 1, h => by
    show (sm n f + f n) % p = (sm n g + g n) % p
    rw [Int.add_emod, sm_mod (n := n) fun i hi => h i (by omega), h n (by omega), ← Int.add_emod]
theorem sm_add (f g : Nat → Int) : ∀ n, sm n (fun i => f i + g i) = sm n f + sm n g
  | 0 => rfl
  | n + 1 => by
    show sm n (fun i => f i + g i) + (f n + g n) = sm n f + f n + (sm n g + g n)
    rw [sm_add f g n]
    omega
theorem sm_mulL (c : Int) (f : Nat → Int) : ∀ n, sm n (fun i => c * f i) = c * sm n f
  | 0 => by simp [sm]
  | n + 1 => by
    show sm n (fun i => c * f i) + c * f n = c * (sm n f + f n)
    rw [sm_mulL c f n, Int.mul_add]
theorem sm_mulR (c : Int) (f : Nat → Int) (n : Nat) : sm n (fun i => f i * c) = sm n f * c := by
  rw [Int.mul_comm, ← sm_mulL]
  exact sm_congr fun i _ => Int.mul_comm _ _
theorem sm_swap (f : Nat → Nat → Int) (m : Nat) : ∀ n, sm n (fun i => sm m fun j => f i j) = sm m fun j => sm n fun i => f i j
  | 0 => by
    show (0 : Int) = sm m fun _ => 0
    induction m with
    | zero => rfl
    | succ m ih => show (0 : Int) = sm m (fun _ => 0) + 0; rw [← ih]; rfl
  | n + 1 => by
    show sm n (fun i => sm m fun j => f i j) + sm m (fun j => f n j) = sm m fun j => sm n (fun i => f i j) + f n j
    rw [sm_swap f m n, sm_add]
/-- the sum of some of them -/
theorem sum_filter (f : Nat → Int) (q : Nat → Bool) (h : ∀ i, q i = false → f i = 0) (l : List Nat) : ((l.filter q).map f).sum = (l.map f).sum := by
  induction l with
  | nil => rfl
  | cons x l ih =>
    rw [List.filter_cons]
    cases hx : q x with
    | true => simp only [if_true, List.map_cons, List.sum_cons, ih]
    | false =>
      simp only [Bool.false_eq_true, if_false, List.map_cons, List.sum_cons, ih, h x hx]
      omega
theorem mul_modL {p a b : Int} (c : Int) (h : a % p = b % p) : (c * a) % p = (c * b) % p := by
  rw [Int.mul_emod, h, ← Int.mul_emod]
theorem mul_modR {p a b : Int} (c : Int) (h : a % p = b % p) : (a * c) % p = (b * c) % p := by
  rw [Int.mul_emod, h, ← Int.mul_emod]
/-- a pairing at two rows -/
def bil (p : Int) (n : Nat) (P : Nat → Nat → Int) (x y : Nat → Int) : Int := (sm n fun i => x i * sm n fun j => P i j * y j) % p
def led (p : Int) (n : Nat) (x : Nat → Int) (S : Nat → Nat → Int) (j : Nat) : Int := (sm n fun k => x k * S k j) % p
def mvd (p : Int) (n : Nat) (P S : Nat → Nat → Int) (a b : Nat) : Int := bil p n P (S a) (S b)
/-- by the row that is led -/
theorem bil_led (p : Int) (n : Nat) (P : Nat → Nat → Int) (x y : Nat → Int) : (sm n fun j => led p n x P j * y j) % p = bil p n P x y := by
  unfold bil led
  have e1 : (sm n fun j => (sm n fun k => x k * P k j) % p * y j) % p = (sm n fun j => (sm n fun k => x k * P k j) * y j) % p :=
    sm_mod fun j _ => mul_modR _ (Int.emod_emod_of_dvd _ (Int.dvd_refl p))
  rw [e1]
  have e2 : (sm n fun j => (sm n fun k => x k * P k j) * y j) = sm n fun i => x i * sm n fun j => P i j * y j := by
    rw [sm_congr (g := fun j => sm n fun k => x k * (P k j * y j)) fun j _ => ?_]
    · rw [sm_swap (fun j k => x k * (P k j * y j)) n n]
      exact sm_congr fun i _ => sm_mulL _ _ _
    · rw [← sm_mulR]
      exact sm_congr fun k _ => Int.mul_assoc _ _ _
  rw [e2]
theorem bil_mod {p : Int} {n : Nat} {P P' : Nat → Nat → Int} {x x' y y' : Nat → Int} (hP : ∀ i, i < n → ∀ j, j < n → P i j % p = P' i j % p) (hx : ∀ i, i < n → x i % p = x' i % p) (hy : ∀ i, i < n → y i % p = y' i % p) : bil p n P x y = bil p n P' x' y' := by
  unfold bil
  refine sm_mod fun i hi => ?_
  rw [Int.mul_emod, hx i hi, sm_mod (g := fun j => P' i j * y' j) fun j hj => ?_, ← Int.mul_emod]
  rw [Int.mul_emod, hP i hi j hj, hy j hj, ← Int.mul_emod]
/-- moved twice -/
theorem mvd_mvd (p : Int) (n : Nat) (P S U : Nat → Nat → Int) (a b : Nat) : mvd p n (mvd p n P S) U a b = mvd p n P (fun i j => led p n (U i) S j) a b := by
  unfold mvd
  have e1 : bil p n (fun i j => bil p n P (S i) (S j)) (U a) (U b) = (sm n fun i => U a i * sm n fun j => (sm n fun k => S i k * sm n fun l => P k l * S j l) * U b j) % p := by
    unfold bil
    refine sm_mod fun i _ => mul_modL _ (sm_mod fun j _ => mul_modR _ (Int.emod_emod_of_dvd _ (Int.dvd_refl p)))
  have e2 : bil p n P (fun j => led p n (U a) S j) (fun j => led p n (U b) S j) = bil p n P (fun k => sm n fun i => U a i * S i k) (fun l => sm n fun j => U b j * S j l) :=
    bil_mod (fun _ _ _ _ => rfl) (fun i _ => Int.emod_emod_of_dvd _ (Int.dvd_refl p)) (fun i _ => Int.emod_emod_of_dvd _ (Int.dvd_refl p))
  rw [e1, e2]
  unfold bil
  congr 1
  -- both: the sum over i, k, l, j
  have l1 : ∀ i, (sm n fun j => (sm n fun k => S i k * sm n fun l => P k l * S j l) * U b j) = sm n fun k => S i k * sm n fun l => P k l * sm n fun j => U b j * S j l := fun i => by
    rw [sm_congr (g := fun j => sm n fun k => S i k * (sm n fun l => P k l * (U b j * S j l))) fun j _ => ?_]
    · rw [sm_swap (fun j k => S i k * (sm n fun l => P k l * (U b j * S j l))) n n]
      refine sm_congr fun k _ => ?_
      rw [sm_mulL]
      congr 1
      rw [sm_swap (fun j l => P k l * (U b j * S j l)) n n]
      exact sm_congr fun l _ => sm_mulL _ _ _
    · rw [← sm_mulR]
      refine sm_congr fun k _ => ?_
      rw [Int.mul_assoc, ← sm_mulR]
      congr 1
      refine sm_congr fun l _ => ?_
      rw [Int.mul_assoc, Int.mul_comm (S j l)]
  rw [sm_congr (g := fun i => sm n fun k => (U a i * S i k) * sm n fun l => P k l * sm n fun j => U b j * S j l) fun i _ => ?_]
  · rw [sm_swap (fun i k => (U a i * S i k) * sm n fun l => P k l * sm n fun j => U b j * S j l) n n]
    refine sm_congr fun k _ => ?_
    exact sm_mulR _ _ _
  · rw [l1, ← sm_mulL]
    exact sm_congr fun k _ => (Int.mul_assoc _ _ _).symm
theorem emod_bd {p : Int} (hp : 0 < p) (a : Int) : 0 ≤ a % p ∧ a % p < p := ⟨Int.emod_nonneg _ (by omega), Int.emod_lt_of_pos _ hp⟩
end K10

namespace K10
open PySem Fz Rw
theorem sum_rl {md m : Nat} (f : Nat → Int) {w : Wd} : biF .sum md [.lst (rl m f)] w = .ok (.int (sm m f), w) := by
  rw [bq_sum]
  simp [rl_intD, sm_eq]
end K10

namespace K10
open PySem Fz Rw
/-- row_led -/
theorem led_ok {m : Nat} (h : 12 < m) {p : Int} (hp : 0 < p) {n : Nat} (h1 : 1 ≤ n) (hn : n ≤ 100) {x : Nat → Int} (hx : ∀ i, i < n → -(2 ^ 64) < x i ∧ x i < 2 ^ 64) (S : Nat → Nat → Int) (g : List (List Fz.D)) :
    F m 12 [.int p, rw_ n x, tb n S] g = .ok (rw_ n (led p n x S), g) := by
  rw [F12 h]
  have e := forL_idx (bind := asg (.tu [.nm 4, .nm 5])) (body := exB ⟨F 12, C⟩ b12_0) (post := postF [4, 5] false 0) (ok := fun w => true) (fun i => Fz.D.tup [.int (x i), rw_ n (S i)])
    (fun i => ⟨[some (.int p), some (rw_ n x), some (tb n S), some (rw_ n fun j => (sm i fun k => x k * S k j) % p), none, none], [], g⟩) n 0 (fun i _ hi r => by
      have hi : i < n := by omega
      have c := rw_ok (m := 12) (by decide) hp (n := n) (by omega) (hx i hi) (fun j => (sm i fun k => x k * S k j) % p) (S i) g
      rw [forL_cons]
      by_cases z : x i = 0
      · have e1 : (fun j => (sm (i + 1) fun k => x k * S k j) % p) = fun j => (sm i fun k => x k * S k j) % p := by
          funext j
          show (sm i _ + x i * S i j) % p = _
          rw [z]
          simp
        rw [e1]
        simp [b12_0, z, postF, wipeD]
      · have e1 : (fun j => (sm (i + 1) fun k => x k * S k j) % p) = fun j => ((sm i fun k => x k * S k j) % p + x i * S i j) % p := by
          funext j
          show (sm i _ + x i * S i j) % p = _
          rw [Int.emod_add_emod]
        rw [e1]
        have c : F 12 1 [.int p, rw_ n fun j => (sm i fun k => x k * S k j) % p, .int (x i), rw_ n (S i)] g = .ok (rw_ n fun j => ((sm i fun k => x k * S k j) % p + x i * S i j) % p, g) := c
        simp [b12_0, z, postF, wipeD, c, arrD])
  simp only [← List.range_eq_range', Nat.zero_add] at e
  have z0 := fun {w : Wd} => zeros (md := 0) h1 (show n ≤ 1000 by omega) (w := w)
  have r0 : ixI n 0 = some 0 := ix_nat (i := 0) (by omega)
  have t0 := tb_at (T := S) (show 0 < n by omega)
  have e0 : (fun j : Nat => (sm 0 fun k => x k * S k j) % p) = fun _ => 0 := by funext j; simp [sm]
  rw [e0] at e
  have zz : zipD (rl n x) (rows n S) = (List.range n).map fun i => Fz.D.tup [.int (x i), rw_ n (S i)] := by rw [rl_map, rows_eq, zip_map]
  refine exD_rt (w1 := ⟨[some (.int p), some (rw_ n x), some (tb n S), some (rw_ n (led p n x S)), none, none], [], g⟩) (d := rw_ n (led p n x S)) ?_ (by simp)
  unfold b12
  refine (exB_step (w' := ⟨[some (.int p), some (rw_ n x), some (tb n S), some (rw_ n fun _ => 0), none, none], [], g⟩) ?_).trans ?_
  · simp [r0, t0, z0]
  · refine (exB_step (w' := ⟨[some (.int p), some (rw_ n x), some (tb n S), some (rw_ n (led p n x S)), none, none], [], g⟩) ?_).trans ?_
    · simp [zz]
      exact e
    · simp
end K10

namespace K10
open PySem Fz Rw
/-- small numbers -/
def Sm (f : Nat → Int) (n : Nat) : Prop := ∀ i, i < n → 0 ≤ f i ∧ f i < 10
def Tm (T : Nat → Nat → Int) (n : Nat) : Prop := ∀ i, i < n → Sm (T i) n
theorem Sm.big {f : Nat → Int} {n : Nat} (h : Sm f n) : ∀ i, i < n → -(2 ^ 64) < f i ∧ f i < 2 ^ 64 := fun i hi => by have := h i hi; omega
section
variable {p : Int} (hp : 0 < p) (hp2 : p ≤ 10) {n : Nat} (h1 : 1 ≤ n) (hn : n ≤ 100)
include hp hp2 in
theorem led_sm (x : Nat → Int) (S : Nat → Nat → Int) : Sm (led p n x S) n := fun j _ => by
  have := emod_bd hp (sm n fun k => x k * S k j)
  show 0 ≤ _ % p ∧ _ % p < 10
  omega
include hp h1 hn in
theorem at_ok {m : Nat} (h : 13 < m) {x y : Nat → Int} (hx : Sm x n) (hy : Sm y n) (P : Nat → Nat → Int) (g : List (List Fz.D)) :
    F m 13 [.int p, tb n P, rw_ n x, rw_ n y] g = .ok (.int (bil p n P x y), g) := by
  rw [F13 h]
  have hp0 : ¬ p = 0 := by omega
  have e2 := led_ok (m := 13) (by decide) hp h1 hn hx.big P g
  have c : ∀ σ, σ = [some (.int p), some (tb n P), some (rw_ n x), some (rw_ n y), none, none] → coL (asg (.tu [.nm 4, .nm 5])) (evC ⟨F 13, C⟩ .no) (evE ⟨F 13, C⟩ e13_0) (fun w => true) [4, 5] σ ((List.range n).map fun j => Fz.D.tup [.int (led p n x P j), .int (y j)]) ⟨σ, [], g⟩ [] = .ok (rl n fun j => led p n x P j * y j, ⟨σ, [], g⟩) := by
    intro σ hσ
    have := coL_mp (bind := asg (.tu [.nm 4, .nm 5])) (test := evC ⟨F 13, C⟩ .no) (elt := evE ⟨F 13, C⟩ e13_0) (ok := fun w => true) (own := [4, 5]) (σ := σ) (m := []) (g := g) (fun j => Fz.D.tup [.int (led p n x P j), .int (y j)]) (fun j => Fz.D.int (led p n x P j * y j)) (List.range n) [] (by simp; exact Nat.le_trans hn (by decide)) (fun j hj r acc ha => by
      have hj := hy.big j (List.mem_range.mp hj)
      subst hσ
      rw [coL_cons]
      simp [e13_0, mulOk_r hj, ha])
    rw [this]
    rfl
  have c := c _ rfl
  have zz : zipD (rl n (led p n x P)) (rl n y) = (List.range n).map fun j => Fz.D.tup [.int (led p n x P j), .int (y j)] := by rw [rl_map, rl_map, zip_map]
  have s := fun {w : Wd} => sum_rl (md := 0) (m := n) (fun j => led p n x P j * y j) (w := w)
  simp [exD, b13, e2, arrD, zz]
  rw [c]
  simp [nlR (md := 0) (m := n) (by omega), s, hp0, Int.fmod_eq_emod_of_nonneg _ (Int.le_of_lt hp), bil_led]
include hp h1 hn in
theorem lat_ok {m : Nat} (h : 33 < m) {x y : Nat → Int} (hx : Sm x n) (hy : Sm y n) {P : Nat → Nat → Int} (hP : Tm P n) (g : List (List Fz.D)) :
    F m 33 [.int p, tb n P, rw_ n x, rw_ n y] g = .ok (.int (bil p n P x y), g) := by
  rw [F33 h]
  have hp0 : ¬ p = 0 := by omega
  have ci : ∀ (i : Nat), i < n → ∀ σ, σ = [some (.int p), some (tb n P), some (rw_ n x), some (rw_ n y), none, none, some (Fz.D.int i), some (rw_ n (P i))] → coL (asg (.tu [.nm 4, .nm 5])) (evC ⟨F 33, C⟩ .no) (evE ⟨F 33, C⟩ e33_0) (fun w => true) [4, 5] σ ((List.range n).map fun j => Fz.D.tup [.int (P i j), .int (y j)]) ⟨σ, [], g⟩ [] = .ok (rl n fun j => P i j * y j, ⟨σ, [], g⟩) := by
    intro i hi σ hσ
    have := coL_mp (bind := asg (.tu [.nm 4, .nm 5])) (test := evC ⟨F 33, C⟩ .no) (elt := evE ⟨F 33, C⟩ e33_0) (ok := fun w => true) (own := [4, 5]) (σ := σ) (m := []) (g := g) (fun j => Fz.D.tup [.int (P i j), .int (y j)]) (fun j => Fz.D.int (P i j * y j)) (List.range n) [] (by simp; exact Nat.le_trans hn (by decide)) (fun j hj r acc ha => by
      have hj := hy.big j (List.mem_range.mp hj)
      subst hσ
      rw [coL_cons]
      simp [e33_0, mulOk_r hj, ha])
    rw [this]
    rfl
  have zz : ∀ i, zipD (rl n (P i)) (rl n y) = (List.range n).map fun j => Fz.D.tup [.int (P i j), .int (y j)] := fun i => by rw [rl_map, rl_map, zip_map]
  have co : ∀ σ, σ = [some (.int p), some (tb n P), some (rw_ n x), some (rw_ n y), none, none, none, none] → coL (asg (.tu [.nm 6, .nm 7])) (evC ⟨F 33, C⟩ c33_1) (evE ⟨F 33, C⟩ e33_1) (fun w => true) [6, 7] σ ((List.range n).map fun i : Nat => Fz.D.tup [.int i, rw_ n (P i)]) ⟨σ, [], g⟩ [] = .ok (((List.range n).filter fun i => x i != 0).map (fun i => Fz.D.int (x i * sm n fun j => P i j * y j)), ⟨σ, [], g⟩) := by
    intro σ hσ
    have := coL_fil (bind := asg (.tu [.nm 6, .nm 7])) (test := evC ⟨F 33, C⟩ c33_1) (elt := evE ⟨F 33, C⟩ e33_1) (ok := fun w => true) (own := [6, 7]) (σ := σ) (m := []) (g := g) (fun i : Nat => Fz.D.tup [.int i, rw_ n (P i)]) (fun i => Fz.D.int (x i * sm n fun j => P i j * y j)) (fun i => x i != 0) (List.range n) [] (by simp; exact Nat.le_trans hn (by decide)) (fun i hi r acc ha => by
      have hi := List.mem_range.mp hi
      have c := ci i hi _ rfl
      have rx : (rl n x)[i]? = some (.int (x i)) := rl_get hi
      have s := fun {w : Wd} => sum_rl (md := 0) (m := n) (fun j => P i j * y j) (w := w)
      subst hσ
      rw [coL_cons]
      by_cases z : x i = 0
      · simp [c33_1, ix_nat hi, rx, z]
      · have z2 : (x i != 0) = true := by simpa using z
        simp [c33_1, e33_1, ix_nat hi, rx, z, zz]
        rw [c]
        simp [nlR (md := 0) (m := n) (by omega), s, mulOk_l (hx.big i hi), ha])
    rw [this]
    rfl
  have co := co _ rfl
  have ee : enuL 0 (rows n P) = (List.range n).map fun i : Nat => Fz.D.tup [.int i, rw_ n (P i)] := enu_map _ n
  have idI : ∀ l : List Nat, intD (l.map fun i => Fz.D.int (x i * sm n fun j => P i j * y j)) = some (l.map fun i => x i * sm n fun j => P i j * y j) := by
    intro l
    induction l with
    | nil => rfl
    | cons a l ih => simp only [List.map_cons, intD, ih]; rfl
  have ss : (((List.range n).filter fun i => x i != 0).map fun i => x i * sm n fun j => P i j * y j).sum = sm n fun i => x i * sm n fun j => P i j * y j := by
    rw [sum_filter _ _ (fun i h => by have h : x i = 0 := by simpa using h
                                      rw [h, Int.zero_mul]), sm_eq]
  have nl : ∀ {w : Wd}, newL 0 (((List.range n).filter fun i => x i != 0).map (fun i => Fz.D.int (x i * sm n fun j => P i j * y j))) w = .ok (.lst (((List.range n).filter fun i => x i != 0).map (fun i => Fz.D.int (x i * sm n fun j => P i j * y j))), w) := fun {w} => newL_0 (by
    rw [List.length_map]
    have := List.length_filter_le (fun i => x i != 0) (List.range n)
    rw [List.length_range] at this
    exact Nat.le_trans this (Nat.le_trans hn (by decide)))
  simp [exD, b33, ee]
  rw [co]
  simp only [R.bd_ok, nl]
  rw [bq_sum]
  simp only [seq_lst, Option.bind_some, idI, R.of_some, R.bd_ok, ss]
  simp [hp0, Int.fmod_eq_emod_of_nonneg _ (Int.le_of_lt hp), bil]
theorem bil_sm (x y : Nat → Int) (P : Nat → Nat → Int) (hp : 0 < p) (hp2 : p ≤ 10) : 0 ≤ bil p n P x y ∧ bil p n P x y < 10 := by
  have := emod_bd hp (sm n fun i => x i * sm n fun j => P i j * y j)
  show 0 ≤ _ % p ∧ _ % p < 10
  omega
end
end K10

namespace K10
open PySem Fz Rw
section
variable {p : Int} (hp : 0 < p) (hp2 : p ≤ 10) {n : Nat} (h1 : 1 ≤ n) (hn : n ≤ 100)
include hp h1 hn in
theorem mv_ok {m : Nat} (h : 14 < m) {S : Nat → Nat → Int} (hS : Tm S n) (P : Nat → Nat → Int) (g : List (List Fz.D)) :
    F m 14 [.int p, tb n P, tb n S] g = .ok (tb n (mvd p n P S), g) := by
  rw [F14 h]
  have ci : ∀ (i : Nat), i < n → ∀ σ, σ = [some (.int p), some (tb n P), some (tb n S), none, some (rw_ n (S i))] → coL (asg (.nm 3)) (evC ⟨F 14, C⟩ .no) (evE ⟨F 14, C⟩ e14_0) (fun w => true) [3] σ (rows n S) ⟨σ, [], g⟩ [] = .ok (rl n (mvd p n P S i), ⟨σ, [], g⟩) := by
    intro i hi σ hσ
    have := coL_mp (bind := asg (.nm 3)) (test := evC ⟨F 14, C⟩ .no) (elt := evE ⟨F 14, C⟩ e14_0) (ok := fun w => true) (own := [3]) (σ := σ) (m := []) (g := g) (fun j => rw_ n (S j)) (fun j => Fz.D.int (mvd p n P S i j)) (List.range n) [] (by simp; exact Nat.le_trans hn (by decide)) (fun j hj r acc ha => by
      have hj := List.mem_range.mp hj
      have e := at_ok (m := 14) hp h1 hn (by decide) (hS i hi) (hS j hj) P g
      subst hσ
      rw [coL_cons]
      simp [e14_0, e, arrD, ha]
      rfl)
    rw [rows_eq, this]
    rfl
  have co : ∀ σ, σ = [some (.int p), some (tb n P), some (tb n S), none, none] → coL (asg (.nm 4)) (evC ⟨F 14, C⟩ .no) (evE ⟨F 14, C⟩ e14_1) (fun w => true) [4] σ (rows n S) ⟨σ, [], g⟩ [] = .ok (rows n (mvd p n P S), ⟨σ, [], g⟩) := by
    intro σ hσ
    have := coL_mp (bind := asg (.nm 4)) (test := evC ⟨F 14, C⟩ .no) (elt := evE ⟨F 14, C⟩ e14_1) (ok := fun w => true) (own := [4]) (σ := σ) (m := []) (g := g) (fun j => rw_ n (S j)) (fun i => rw_ n (mvd p n P S i)) (List.range n) [] (by simp; exact Nat.le_trans hn (by decide)) (fun i hi r acc ha => by
      have hi := List.mem_range.mp hi
      have c := ci i hi _ rfl
      subst hσ
      rw [coL_cons]
      simp [e14_1]
      rw [c]
      simp [nlR (md := 0) (m := n) (by omega), ntR' (m := n) (by omega), ha])
    rw [rows_eq, this]
    rfl
  have co := co _ rfl
  simp [exD, b14]
  rw [co]
  simp [nlW (n := n) (by omega), ntW (n := n) (by omega)]
include hp h1 hn in
theorem lmv_ok {m : Nat} (h : 36 < m) {S : Nat → Nat → Int} (hS : Tm S n) {P : Nat → Nat → Int} (hP : Tm P n) (g : List (List Fz.D)) :
    F m 36 [.int p, tb n P, tb n S] g = .ok (tb n (mvd p n P S), g) := by
  rw [F36 h]
  have ci : ∀ (i : Nat), i < n → ∀ σ, σ = [some (.int p), some (tb n P), some (tb n S), none, some (rw_ n (S i))] → coL (asg (.nm 3)) (evC ⟨F 36, C⟩ .no) (evE ⟨F 36, C⟩ e36_0) (fun w => true) [3] σ (rows n S) ⟨σ, [], g⟩ [] = .ok (rl n (mvd p n P S i), ⟨σ, [], g⟩) := by
    intro i hi σ hσ
    have := coL_mp (bind := asg (.nm 3)) (test := evC ⟨F 36, C⟩ .no) (elt := evE ⟨F 36, C⟩ e36_0) (ok := fun w => true) (own := [3]) (σ := σ) (m := []) (g := g) (fun j => rw_ n (S j)) (fun j => Fz.D.int (mvd p n P S i j)) (List.range n) [] (by simp; exact Nat.le_trans hn (by decide)) (fun j hj r acc ha => by
      have hj := List.mem_range.mp hj
      have e := lat_ok (m := 36) hp h1 hn (by decide) (hS i hi) (hS j hj) hP g
      subst hσ
      rw [coL_cons]
      simp [e36_0, e, arrD, ha]
      rfl)
    rw [rows_eq, this]
    rfl
  have co : ∀ σ, σ = [some (.int p), some (tb n P), some (tb n S), none, none] → coL (asg (.nm 4)) (evC ⟨F 36, C⟩ .no) (evE ⟨F 36, C⟩ e36_1) (fun w => true) [4] σ (rows n S) ⟨σ, [], g⟩ [] = .ok (rows n (mvd p n P S), ⟨σ, [], g⟩) := by
    intro σ hσ
    have := coL_mp (bind := asg (.nm 4)) (test := evC ⟨F 36, C⟩ .no) (elt := evE ⟨F 36, C⟩ e36_1) (ok := fun w => true) (own := [4]) (σ := σ) (m := []) (g := g) (fun j => rw_ n (S j)) (fun i => rw_ n (mvd p n P S i)) (List.range n) [] (by simp; exact Nat.le_trans hn (by decide)) (fun i hi r acc ha => by
      have hi := List.mem_range.mp hi
      have c := ci i hi _ rfl
      subst hσ
      rw [coL_cons]
      simp [e36_1]
      rw [c]
      simp [nlR (md := 0) (m := n) (by omega), ntR' (m := n) (by omega), ha])
    rw [rows_eq, this]
    rfl
  have co := co _ rfl
  simp [exD, b36]
  rw [co]
  simp [nlW (n := n) (by omega), ntW (n := n) (by omega)]
include hp h1 hn in
theorem lled_ok {m : Nat} (h : 31 < m) {x : Nat → Int} (hx : Sm x n) {S : Nat → Nat → Int} (g : List (List Fz.D)) :
    F m 31 [.int p, rw_ n x, tb n S] g = .ok (rw_ n (led p n x S), g) := by
  rw [F31 h]
  have hp0 : ¬ p = 0 := by omega
  have ci : ∀ (j : Nat), j < n → ∀ σ, σ = [some (.int p), some (rw_ n x), some (tb n S), none, none, some (Fz.D.int j)] → coL (asg (.tu [.nm 3, .nm 4])) (evC ⟨F 31, C⟩ .no) (evE ⟨F 31, C⟩ e31_0) (fun w => true) [3, 4] σ ((List.range n).map fun i => Fz.D.tup [.int (x i), rw_ n (S i)]) ⟨σ, [], g⟩ [] = .ok (rl n fun i => x i * S i j, ⟨σ, [], g⟩) := by
    intro j hj σ hσ
    have := coL_mp (bind := asg (.tu [.nm 3, .nm 4])) (test := evC ⟨F 31, C⟩ .no) (elt := evE ⟨F 31, C⟩ e31_0) (ok := fun w => true) (own := [3, 4]) (σ := σ) (m := []) (g := g) (fun i => Fz.D.tup [.int (x i), rw_ n (S i)]) (fun i => Fz.D.int (x i * S i j)) (List.range n) [] (by simp; exact Nat.le_trans hn (by decide)) (fun i hi r acc ha => by
      have hi := List.mem_range.mp hi
      have rj : (rl n (S i))[j]? = some (.int (S i j)) := rl_get hj
      subst hσ
      rw [coL_cons]
      simp [e31_0, ix_nat hj, rj, mulOk_l (hx.big i hi), ha])
    rw [this]
    rfl
  have zz : zipD (rl n x) (rows n S) = (List.range n).map fun i => Fz.D.tup [.int (x i), rw_ n (S i)] := by rw [rl_map, rows_eq, zip_map]
  have co : ∀ σ, σ = [some (.int p), some (rw_ n x), some (tb n S), none, none, none] → coL (asg (.nm 5)) (evC ⟨F 31, C⟩ .no) (evE ⟨F 31, C⟩ e31_1) (fun w => true) [5] σ ((List.range n).map fun j : Nat => Fz.D.int j) ⟨σ, [], g⟩ [] = .ok (rl n (led p n x S), ⟨σ, [], g⟩) := by
    intro σ hσ
    have := coL_mp (bind := asg (.nm 5)) (test := evC ⟨F 31, C⟩ .no) (elt := evE ⟨F 31, C⟩ e31_1) (ok := fun w => true) (own := [5]) (σ := σ) (m := []) (g := g) (fun j : Nat => Fz.D.int j) (fun j => Fz.D.int (led p n x S j)) (List.range n) [] (by simp; exact Nat.le_trans hn (by decide)) (fun j hj r acc ha => by
      have hj := List.mem_range.mp hj
      have c := ci j hj _ rfl
      have s := fun {w : Wd} => sum_rl (md := 0) (m := n) (fun i => x i * S i j) (w := w)
      subst hσ
      rw [coL_cons]
      simp [e31_1, zz]
      rw [c]
      simp [nlR (md := 0) (m := n) (by omega), s, hp0, Int.fmod_eq_emod_of_nonneg _ (Int.le_of_lt hp), ha]
      rfl)
    rw [this]
    rfl
  have co := co _ rfl
  have r0 : ixI n 0 = some 0 := ix_nat (i := 0) (by omega)
  have t0 := tb_at (T := S) (show 0 < n by omega)
  have r : rngF [.int (n : Int)] = some ((List.range n).map fun t : Nat => Fz.D.int t) := by
    rw [rng_1 (n := n) (by omega) (by omega), rngL_map]
    simp
  simp [exD, b31, r0, t0, r]
  rw [co]
  simp [nlR (md := 0) (m := n) (by omega), ntR' (m := n) (by omega)]
end
end K10

namespace K10
open PySem Fz Rw
/-- a table modulo p -/
def Md (p : Int) (n : Nat) (T : Nat → Nat → Int) : Prop := ∀ i, i < n → ∀ j, j < n → 0 ≤ T i j ∧ T i j < p
theorem Md.tm {p : Int} {n : Nat} {T : Nat → Nat → Int} (h : Md p n T) (hp : p ≤ 10) : Tm T n := fun i hi j hj => by have := h i hi j hj; omega
/-! ### turned about -/
def cellsL (n : Nat) : List (Nat × Nat) := (List.range n).flatMap fun i => (List.range n).map fun j => (i, j)
def cD (c : Nat × Nat) : Fz.D := .tup [.int c.1, .int c.2]
theorem cells1 (g : List (List Fz.D)) : exD ⟨F 25, C⟩ 4 b25 [.int 1, .int 1] g = .ok (.lst ((cellsL 1).map cD), g) := by kernel_rfl
theorem cells2 (g : List (List Fz.D)) : exD ⟨F 25, C⟩ 4 b25 [.int 2, .int 2] g = .ok (.lst ((cellsL 2).map cD), g) := by kernel_rfl
theorem cells3 (g : List (List Fz.D)) : exD ⟨F 25, C⟩ 4 b25 [.int 3, .int 3] g = .ok (.lst ((cellsL 3).map cD), g) := by kernel_rfl
theorem cells4 (g : List (List Fz.D)) : exD ⟨F 25, C⟩ 4 b25 [.int 4, .int 4] g = .ok (.lst ((cellsL 4).map cD), g) := by kernel_rfl
theorem cells5 (g : List (List Fz.D)) : exD ⟨F 25, C⟩ 4 b25 [.int 5, .int 5] g = .ok (.lst ((cellsL 5).map cD), g) := by kernel_rfl
theorem cells6 (g : List (List Fz.D)) : exD ⟨F 25, C⟩ 4 b25 [.int 6, .int 6] g = .ok (.lst ((cellsL 6).map cD), g) := by kernel_rfl
theorem cells_ok {m : Nat} (h : 25 < m) {n : Nat} (h1 : 1 ≤ n) (hn : n ≤ 6) (g : List (List Fz.D)) : F m 25 [.int n, .int n] g = .ok (.lst ((cellsL n).map cD), g) := by
  rw [F25 h]
  match n, h1, hn with
  | 1, _, _ => exact cells1 g
  | 2, _, _ => exact cells2 g
  | 3, _, _ => exact cells3 g
  | 4, _, _ => exact cells4 g
  | 5, _, _ => exact cells5 g
  | 6, _, _ => exact cells6 g
theorem cells_lt {n : Nat} : ∀ c ∈ cellsL n, c.1 < n ∧ c.2 < n := fun c hc => by
  obtain ⟨i, hi, hc⟩ := List.mem_flatMap.mp hc
  obtain ⟨j, hj, rfl⟩ := List.mem_map.mp hc
  exact ⟨List.mem_range.mp hi, List.mem_range.mp hj⟩
theorem cells_len {n : Nat} (hn : n ≤ 6) : (cellsL n).length ≤ 36 := by
  match n, hn with
  | 0, _ => decide
  | 1, _ => decide
  | 2, _ => decide
  | 3, _ => decide
  | 4, _ => decide
  | 5, _ => decide
  | 6, _ => decide
end K10

namespace K10
open PySem Fz Rw
theorem rl_it {p : Int} (hp2 : p ≤ 10) {n : Nat} {f : Nat → Int} (hf : ∀ i, i < n → 0 ≤ f i ∧ f i < p) {k : Nat} : ∀ d ∈ rl n f, It 6 k d := fun d hd => by
  obtain ⟨i, hi, rfl⟩ := List.mem_map.mp (show d ∈ (List.range n).map fun j => Fz.D.int (f j) from hd)
  have := hf i (List.mem_range.mp hi)
  exact It.int (by omega)
theorem rw_it {p : Int} (hp2 : p ≤ 10) {n L : Nat} (hn : n ≤ L) {f : Nat → Int} (hf : ∀ i, i < n → 0 ≤ f i ∧ f i < p) {k : Nat} : It (L * 8 + 3) (k + 1) (rw_ n f) :=
  It.tup (rl_it hp2 hf) (by rw [rl_len]; exact hn)
theorem rows_it {p : Int} (hp2 : p ≤ 10) {n L : Nat} (hn : n ≤ L) {T : Nat → Nat → Int} (hT : Md p n T) {k : Nat} : ∀ d ∈ rows n T, It (L * 8 + 3) (k + 1) d := fun d hd => by
  obtain ⟨i, hi, rfl⟩ := List.mem_map.mp hd
  exact rw_it hp2 hn (hT i (List.mem_range.mp hi))
theorem tb_it {p : Int} (hp2 : p ≤ 10) {n : Nat} (hn : n ≤ 6) {T : Nat → Nat → Int} (hT : Md p n T) : It 400 2 (tb n T) :=
  (It.tup (k := 1) (rows_it hp2 hn hT (k := 0)) (by rw [rows_len]; exact hn)).mono (by decide) (by decide)
/-! ### a table bent -/
end K10

namespace K10
open PySem Fz Rw
theorem of9 {n : Nat} (h : 18 < n) {g : List (List Fz.D)} (hg : Pot g) {m : Int} (h1 : 1 ≤ m) (h2 : m < 1000000) : ∃ (r : Nat) (g' : List (List Fz.D)), F n 18 [.g 1, .int m] g = .ok (.int r, g') ∧ Pot g' ∧ (r : Int) < m := by
  obtain ⟨r, g', e, p, r0, r1⟩ := of_ok (P := ⟨F 18, C⟩) hg h1 (by omega)
  obtain ⟨k, rfl⟩ : ∃ k : Nat, r = (k : Int) := ⟨r.toNat, by omega⟩
  exact ⟨k, g', by rw [F18 h]; exact e, p, r1⟩
theorem perm_erase {α : Type} : ∀ {l : List α} {i : Nat} (h : i < l.length), (l[i] :: l.eraseIdx i).Perm l
  | a :: l, 0, _ => List.Perm.refl _
  | a :: l, i + 1, h => by
    have hi : i < l.length := Nat.lt_of_succ_lt_succ h
    show (l[i] :: a :: l.eraseIdx i).Perm (a :: l)
    exact (List.Perm.swap a l[i] _).trans ((perm_erase hi).cons a)
/-- in any order -/
theorem order11 {m : Nat} (h : 20 < m) {g : List (List Fz.D)} (hg : Pot g) {xs : List Fz.D} (hl : xs.length ≤ 100) (hp : Pls 5 10 xs) (hr : okRets xs = true) :
    ∃ ys g', F m 20 [.g 1, .fl xs] g = .ok (.lst ys, g') ∧ Pot g' ∧ ys.Perm xs := by
  rw [F20 h]
  have lq : ∀ l : List Fz.D, (∀ d ∈ l, d ∈ xs) → lsq l = some l := fun l hl2 => by
    unfold lsq
    have : isDc l = false := by
      cases l with
      | nil => rfl
      | cons d l =>
        have h5 := Rw.Pls_mem hp d (hl2 d List.mem_cons_self)
        cases d <;> first | rfl | exact False.elim h5
    rw [this]
    rfl
  have s1 : exS ⟨F 20, C⟩ (.set (.tu [.nm 2, .nm 3]) (.tup (.cons (.bi .list 1 (.cons (.v 1) .nil)) (.cons (.lst 1 .nil) .nil)))) ⟨[some (.g 1), some (.fl xs), none, none], [], g⟩ = .ok (.nx, ⟨[some (.g 1), some (.fl xs), some (.ref 0), some (.ref 1)], [xs, []], g⟩) := by
    have e0 : ∀ w : Wd, newL 1 [] w = .ok (.ref w.m.length, { w with m := w.m ++ [[]] }) := fun w => newL_1 (by decide)
    have e1 : ∀ w : Wd, newL 1 xs w = .ok (.ref w.m.length, { w with m := w.m ++ [xs] }) := fun w => newL_1 (Nat.le_trans hl (by decide))
    simp [e0, e1]
  obtain ⟨w, e, ys, g', rfl, pg, py⟩ := whlL_dec (test := evT ⟨F 20, C⟩ (.cm .ne (.v 2) (.lst 0 .nil))) (body := exB ⟨F 20, C⟩ b20_0) (post := postF [] false 2)
    (fun w => ∃ ds ys g, w = ⟨[some (.g 1), some (.fl xs), some (.ref 0), some (.ref 1)], [ds, ys], g⟩ ∧ Pot g ∧ (ds ++ ys).Perm xs)
    (fun w => ∃ ys g, w = ⟨[some (.g 1), some (.fl xs), some (.ref 0), some (.ref 1)], [[], ys], g⟩ ∧ Pot g ∧ ys.Perm xs)
    (fun w => (w.m[0]?.getD []).length) (by
      rintro w ⟨ds, ys, g, rfl, hg, hs0⟩
      have h1 : ∀ d ∈ ds, d ∈ xs := fun d hd => hs0.mem_iff.mp (List.mem_append_left _ hd)
      have h2 : ∀ d ∈ ys, d ∈ xs := fun d hd => hs0.mem_iff.mp (List.mem_append_right _ hd)
      have hs : ds.length + ys.length = xs.length := by rw [← List.length_append]; exact hs0.length_eq
      have ne := ne_nil_ref (w := ⟨[some (.g 1), some (.fl xs), some (.ref 0), some (.ref 1)], [ds, ys], g⟩) (j := 0) (ds := ds) rfl (Pls_all fun d hd => Rw.Pls_mem hp d (h1 d hd)) (n := 10) (k := 5) (by decide)
      cases ds with
      | nil =>
        left
        exact ⟨⟨[some (.g 1), some (.fl xs), some (.ref 0), some (.ref 1)], [[], ys], g⟩, by simp [ne], ys, g, rfl, hg, hs0⟩
      | cons d0 ds0 =>
        right
        generalize hds : d0 :: ds0 = ds at *
        have hpos : 0 < ds.length := by rw [← hds]; exact Nat.succ_pos _
        have hemp : (!ds.isEmpty) = true := by rw [← hds]; rfl
        rw [hemp] at ne
        obtain ⟨r, g1, e1, p1, b1⟩ := of9 (n := 20) (by decide) hg (m := ds.length) (by omega) (by omega)
        have hrl : r < ds.length := by omega
        have l1 := lq ds h1
        have l2 := lq ys h2
        have gi : ds[r]? = some ds[r] := List.getElem?_eq_getElem hrl
        have yl : ys.length < mxLen := Nat.lt_of_le_of_lt (show ys.length ≤ 100 by omega) (by decide)
        refine ⟨⟨[some (.g 1), some (.fl xs), some (.ref 0), some (.ref 1)], [ds, ys], g⟩, ⟨[some (.g 1), some (.fl xs), some (.ref 0), some (.ref 1)], [ds.eraseIdx r, ys ++ [ds[r]]], g1⟩, ⟨[some (.g 1), some (.fl xs), some (.ref 0), some (.ref 1)], [ds.eraseIdx r, ys ++ [ds[r]]], g1⟩, by simp [ne], ?_, rfl, ⟨_, _, _, rfl, p1, ?_⟩, ?_⟩
        · simp [b20_0, l1, l2, e1, arrD, ix_nat hrl, gi, yl]
        · refine List.Perm.trans ?_ hs0
          rw [← List.append_assoc]
          refine (List.perm_append_singleton _ _).trans ?_
          rw [← List.cons_append]
          exact (perm_erase hrl).append_right ys
        · show (ds.eraseIdx r).length < ds.length
          rw [List.length_eraseIdx_of_lt hrl]
          omega) fuel ⟨[some (.g 1), some (.fl xs), some (.ref 0), some (.ref 1)], [xs, []], g⟩ (Nat.lt_of_le_of_lt (show xs.length ≤ 100 from hl) (by decide)) ⟨xs, [], g, rfl, hg, by rw [List.append_nil]⟩
  have s2 : exS ⟨F 20, C⟩ (.whl (.cm .ne (.v 2) (.lst 0 .nil)) b20_0 [] false) ⟨[some (.g 1), some (.fl xs), some (.ref 0), some (.ref 1)], [xs, []], g⟩ = .ok (.nx, ⟨[some (.g 1), some (.fl xs), some (.ref 0), some (.ref 1)], [[], ys], g'⟩) := e
  have s3 : exS ⟨F 20, C⟩ (.ret (.v 3)) ⟨[some (.g 1), some (.fl xs), some (.ref 0), some (.ref 1)], [[], ys], g'⟩ = .ok (.rt (.ref 1), ⟨[some (.g 1), some (.fl xs), some (.ref 0), some (.ref 1)], [[], ys], g'⟩) := by simp
  have my : ∀ d ∈ ys, d ∈ xs := fun d hd => py.mem_iff.mp hd
  refine ⟨ys, g', ?_, pg, py⟩
  have ry : okRets ys = true := okRets_all fun d hd => Rw.okRets_mem hr d (my d hd)
  refine exD_rt (w1 := ⟨[some (.g 1), some (.fl xs), some (.ref 0), some (.ref 1)], [[], ys], g'⟩) (d := .ref 1) ((exB_step s1).trans ((exB_step s2).trans (exB_rt s3))) ?_
  have q : ∀ ρ φ, rsL ρ φ ys = some ys := fun ρ φ => rsL_ok ys ry
  have l2 := lq ys my
  simp [q, l2]
end K10

namespace K10
open PySem Fz Rw
open LA (Vc Red clr scl redF Gd Span)
/-- all rows are sums of these -/
def AllS (p : Int) (n : Nat) (fs : List Vc) : Prop := ∀ v, Span p n fs v
theorem all_units {p : Int} {n : Nat} : AllS p n ((List.range n).map un) := fun v => by
  have P : LA.Piv p n [] [] := ⟨rfl, (fun _ h => nomatch h), fun i k c x h => by simp at h⟩
  have e1 : LA.frees n [] = List.range n := by
    unfold LA.frees
    exact List.filter_eq_self.mpr fun _ _ => rfl
  have e2 : LA.dr [] [] = un := by
    funext f j
    show (if j = f then 1 else 0) - 0 = _
    rw [Int.sub_zero]
    rfl
  have := LA.dual_span P (v := v)
  rw [e1, e2] at this
  exact this.mpr (LA.perp_span.mpr fun b hb => nomatch hb)
theorem all_of_units {p : Int} {n : Nat} {fs : List Vc} (h : ∀ k, k < n → Span p n fs (un k)) : AllS p n fs := fun v => (LA.span_sub fs).span (fun b hb => by
  obtain ⟨k, hk, rfl⟩ := List.mem_map.mp hb
  exact h k (List.mem_range.mp hk)) (all_units v)
theorem all_mem {p : Int} {n : Nat} {fs gs : List Vc} (h : AllS p n fs) (hm : ∀ b ∈ fs, Span p n gs b) : AllS p n gs := fun v => (LA.span_sub gs).span hm (h v)
theorem all_diag {p : Int} (hp : Pp p) {n : Nat} {fs : List Vc} (h : ∀ k, k < n → ∃ f ∈ fs, 1 ≤ f k ∧ f k < p ∧ ∀ j, j < n → j ≠ k → f j = 0) : AllS p n fs := all_of_units fun k hk => by
  obtain ⟨f, hm, h1, h2, h0⟩ := h k hk
  obtain ⟨c, _, hc, _⟩ := back_ok (m := 3) (m2 := 23) (by decide) (by decide) hp h1 h2
  refine ((Span.mem hm).mul c).of_eq fun j hj => ?_
  show LA.M p (un k j) (c * f j)
  by_cases z : j = k
  · subst z
    have := LA.M.emod (p := p) (c * f j)
    rw [hc] at this
    show LA.M p (if j = j then 1 else 0) _
    rw [if_pos rfl]
    exact this
  · rw [h0 j hj z, Int.mul_zero]
    show LA.M p (if j = k then 1 else 0) 0
    rw [if_neg z]
    exact LA.M.refl 0
theorem all_set {p : Int} {n : Nat} {fs : List Vc} (h : AllS p n fs) {i j : Nat} (hi : i < fs.length) (hj : j < fs.length) (ne : i ≠ j) (t : Int) : AllS p n (fs.set i fun k => (fs[i] k + t * fs[j] k) % p) := all_mem h fun b hb => by
  obtain ⟨k, hk, rfl⟩ := List.mem_iff_getElem.mp hb
  have hl : (fs.set i fun k => (fs[i] k + t * fs[j] k) % p).length = fs.length := List.length_set
  by_cases z : k = i
  · subst z
    have m1 : (fun x => (fs[k] x + t * fs[j] x) % p) ∈ fs.set k fun x => (fs[k] x + t * fs[j] x) % p := List.mem_iff_getElem.mpr ⟨k, by rw [hl]; exact hk, by rw [List.getElem_set_self]⟩
    have m2 : fs[j] ∈ fs.set k fun x => (fs[k] x + t * fs[j] x) % p := List.mem_iff_getElem.mpr ⟨j, by rw [hl]; exact hj, by rw [List.getElem_set_ne ne]⟩
    refine ((Span.mem m1).add ((Span.mem m2).mul (-t))).of_eq fun x hx => ?_
    show LA.M p (fs[k] x) ((fs[k] x + t * fs[j] x) % p + -t * fs[j] x)
    have := LA.M.add (LA.M.emod (p := p) (fs[k] x + t * fs[j] x)) (LA.M.refl (-t * fs[j] x))
    have e : fs[k] x + t * fs[j] x + -t * fs[j] x = fs[k] x := by rw [Int.neg_mul]; omega
    rw [e] at this
    exact this.symm
  · exact Span.mem (List.mem_iff_getElem.mpr ⟨k, by rw [hl]; exact hk, by rw [List.getElem_set_ne (Ne.symm z)]⟩)
theorem perm_map_inv {α β : Type} (f : α → β) {zs ys : List β} (h : zs.Perm ys) : ∀ fs : List α, ys = fs.map f → ∃ gs : List α, gs.Perm fs ∧ zs = gs.map f := by
  induction h with
  | nil => intro fs e; cases fs with
    | nil => exact ⟨[], List.Perm.refl _, rfl⟩
    | cons a l => cases e
  | cons x _ ih =>
    intro fs e
    cases fs with
    | nil => cases e
    | cons a l =>
      obtain ⟨e1, e2⟩ := List.cons.inj e
      obtain ⟨gs, hg, e3⟩ := ih l e2
      exact ⟨a :: gs, hg.cons a, by rw [List.map_cons, e1, e3]⟩
  | swap x y l =>
    intro fs e
    match fs, e with
    | [], e => cases e
    | [_], e => cases (List.cons.inj e).2
    | a :: b :: c, e =>
      obtain ⟨e1, e2⟩ := List.cons.inj e
      obtain ⟨e3, e4⟩ := List.cons.inj e2
      exact ⟨b :: a :: c, List.Perm.swap a b c, by rw [List.map_cons, List.map_cons, e1, e3, e4]⟩
  | trans _ _ ih1 ih2 =>
    intro fs e
    obtain ⟨gs, h1, e1⟩ := ih2 fs e
    obtain ⟨hs, h2, e2⟩ := ih1 gs e1
    exact ⟨hs, h2.trans h1, e2⟩
/-- drawn, each by its own place -/
theorem coL_drawX {P : Pg} {e : E} {t : Nat} {ok : Wd → Bool} {own : List Nat} {σ : List (Option Fz.D)} {m : List (List Fz.D)} (Q : Fz.D → Fz.D → Prop) (I : List (List Fz.D) → Prop) (hok : ∀ w, ok w = true) :
    ∀ (xs acc : List Fz.D) (g : List (List Fz.D)), I g → acc.length + xs.length ≤ mxLen →
      (∀ x ∈ xs, ∀ g, I g → ∃ y σ' g', evE P e ⟨(wipeD σ own).set t (some x), m, g⟩ = .ok (y, ⟨σ', m, g'⟩) ∧ I g' ∧ Q x y) →
    ∃ ys g', ys.length = xs.length ∧ (∀ (i : Nat) (x : Fz.D), xs[i]? = some x → ∃ y, ys[i]? = some y ∧ Q x y) ∧ I g' ∧ coL (asg (.nm t)) (evC P .no) (evE P e) ok own σ xs ⟨σ, m, g⟩ acc = .ok (acc ++ ys, ⟨σ, m, g'⟩)
  | [], acc, g, hg, _, _ => ⟨[], g, rfl, (fun i x h => by simp at h), hg, by rw [List.append_nil]; rfl⟩
  | x :: xs, acc, g, hg, hl, h => by
    rw [List.length_cons] at hl
    obtain ⟨y, σ3, g3, e3, h3, hy⟩ := h x List.mem_cons_self g hg
    obtain ⟨ys, g', l, q, i, e'⟩ := coL_drawX (e := e) (t := t) Q I hok xs (acc ++ [y]) g3 h3 (by rw [List.length_append, List.length_singleton]; omega) fun x hx => h x (List.mem_cons_of_mem _ hx)
    refine ⟨y :: ys, g', by rw [List.length_cons, List.length_cons, l], fun k z hk => ?_, i, ?_⟩
    · cases k with
      | zero => cases hk; exact ⟨y, rfl, hy⟩
      | succ k => exact q k z hk
    · have al : acc.length < mxLen := by omega
      rw [coL_cons]
      show (R.of (some (⟨(wipeD σ own).set t (some x), m, g⟩ : Wd))).bd _ = _
      have t1 : ∀ w, evC P .no w = .ok (true, w) := fun w => by simp
      simp only [R.of_some, R.bd_ok, t1, e3, hok, if_true, Bool.true_and, decide_eq_true al]
      rw [List.append_assoc] at e'
      exact e'
theorem pick_rows {n : Nat} {P : Nat → Vc → Prop} : ∀ (ys : List Fz.D) (k : Nat), (∀ (i : Nat) (y : Fz.D), ys[i]? = some y → ∃ f, y = rwl n f ∧ P (k + i) f) → ∃ fs : List Vc, ys = fs.map (rwl n) ∧ ∀ (i : Nat) (f : Vc), fs[i]? = some f → P (k + i) f
  | [], _, _ => ⟨[], rfl, fun i f h => by simp at h⟩
  | y :: ys, k, h => by
    obtain ⟨f, e, hf⟩ := h 0 y rfl
    obtain ⟨fs, e2, h2⟩ := pick_rows (P := P) ys (k + 1) fun i z hz => by
      obtain ⟨f, e, hf⟩ := h (i + 1) z hz
      exact ⟨f, e, by rw [show k + 1 + i = k + (i + 1) by omega]; exact hf⟩
    refine ⟨f :: fs, by rw [e, e2]; rfl, fun i g hg => ?_⟩
    cases i with
    | zero => cases hg; exact hf
    | succ i =>
      have := h2 i g hg
      rwa [show k + 1 + i = k + (i + 1) by omega] at this
def Dg (p : Int) (n i : Nat) (f : Vc) : Prop := Red p n f ∧ (i < n → 1 ≤ f i ∧ f i < p) ∧ ∀ j, j < n → j ≠ i → f j = 0
section
variable {p : Int} (hp : Pp p) {n : Nat} (h1 : 1 ≤ n) (hn : n ≤ 50)
include hp hn in
/-- the first rows -/
theorem sq_rows {g : List (List Fz.D)} (hg : Pot g) (σ : List (Option Fz.D)) (hσ : σ = [some (.g 1), some (.int p), some (.int n), none, none, none, none, none, none, none, none]) :
    ∃ (fs : List Vc) (g' : List (List Fz.D)), fs.length = n ∧ (∀ f ∈ fs, Red p n f) ∧ AllS p n fs ∧ Pot g' ∧ coL (asg (.nm 5)) (evC ⟨F 32, C⟩ .no) (evE ⟨F 32, C⟩ e32_1) (fun _ => true) [5] σ ((List.range n).map fun j : Nat => .int j) ⟨σ, [], g⟩ [] = .ok (fs.map (rwl n), ⟨σ, [], g'⟩) := by
  have lo := hp.lo
  have hi := hp.hi
  obtain ⟨ys, g', l, q, hg', e⟩ := coL_drawX (P := ⟨F 32, C⟩) (e := e32_1) (t := 5) (ok := fun _ => true) (own := [5]) (σ := σ) (m := []) (fun x y => ∀ i : Nat, x = .int i → ∃ f, y = rwl n f ∧ Dg p n i f) Pot (fun _ => rfl) ((List.range n).map fun j : Nat => .int j) [] g hg (by simp; exact Nat.le_trans hn (by decide)) (fun x hx g hg => by
    obtain ⟨i, hi, rfl⟩ := List.mem_map.mp hx
    subst hσ
    obtain ⟨zs, g1, l1, q1, hg1, e1⟩ := coL_drawX (P := ⟨F 32, C⟩) (e := e32_0) (t := 4) (ok := fun _ => true) (own := [4]) (σ := [some (.g 1), some (.int p), some (.int n), none, none, some (.int i), none, none, none, none, none]) (m := []) (fun x y => ∀ j : Nat, x = .int j → ∃ v : Int, y = .int v ∧ 0 ≤ v ∧ v < p ∧ (j = i → 1 ≤ v) ∧ (j ≠ i → v = 0)) Pot (fun _ => rfl) ((List.range n).map fun j : Nat => .int j) [] g hg (by simp; exact Nat.le_trans hn (by decide)) (fun x hx g hg => by
      obtain ⟨j, hj, rfl⟩ := List.mem_map.mp hx
      obtain ⟨r, g2, e2, p2, b2⟩ := of9 (n := 32) (by decide) hg (m := p - 1) (by omega) (by omega)
      show ∃ y σ' g', evE ⟨F 32, C⟩ e32_0 ⟨[some (.g 1), some (.int p), some (.int n), none, some (.int j), some (.int i), none, none, none, none, none], [], g⟩ = _ ∧ _
      have m1 : ∀ t, mulOk 1 t = true := fun t => mulOk_l (by decide)
      have m0 : ∀ t, mulOk 0 t = true := fun t => mulOk_l (by decide)
      by_cases z : i = j
      · refine ⟨.int (1 + r), _, g2, by simp [e32_0, e2, z, m1, arrD]; rfl, p2, fun k hk => ⟨_, rfl, by omega, by omega, fun _ => by omega, fun h => ?_⟩⟩
        have : (j : Int) = k := Fz.D.int.inj hk
        omega
      · have z' : ¬ (i : Int) = j := by omega
        refine ⟨.int 0, _, g2, by simp [e32_0, e2, z', m0, arrD]; rfl, p2, fun k hk => ⟨_, rfl, by omega, by omega, fun h => ?_, fun _ => rfl⟩⟩
        have : (j : Int) = k := Fz.D.int.inj hk
        omega)
    have l1 : zs.length = n := by simpa using l1
    have at1 : ∀ j, j < n → ∃ v : Int, zs[j]? = some (.int v) ∧ 0 ≤ v ∧ v < p ∧ (j = i → 1 ≤ v) ∧ (j ≠ i → v = 0) := fun j hj => by
      obtain ⟨y, ey, qy⟩ := q1 j (.int j) (by simp [hj])
      obtain ⟨v, rfl, hv⟩ := qy j rfl
      exact ⟨v, ey, hv⟩
    obtain ⟨f, ef, hf⟩ := Z_row (p := p) (ys := zs) (fun y hy => by
      obtain ⟨j, hj, rfl⟩ := List.mem_iff_getElem.mp hy
      obtain ⟨v, ev, h0, h1, _⟩ := at1 j (by omega)
      rw [List.getElem?_eq_getElem hj] at ev
      exact ⟨v, Option.some.inj ev, h0, h1⟩)
    rw [l1] at ef hf
    subst ef
    have at2 : ∀ j, j < n → (j = i → 1 ≤ f j) ∧ (j ≠ i → f j = 0) := fun j hj => by
      obtain ⟨v, ev, _, _, h1, h2⟩ := at1 j hj
      rw [rl_get hj] at ev
      have : f j = v := Fz.D.int.inj (Option.some.inj ev)
      rw [this]
      exact ⟨h1, h2⟩
    show ∃ y σ' g', evE ⟨F 32, C⟩ e32_1 ⟨[some (.g 1), some (.int p), some (.int n), none, none, some (.int i), none, none, none, none, none], [], g⟩ = _ ∧ _
    refine ⟨.lst (rl n f), [some (.g 1), some (.int p), some (.int n), none, none, some (.int i), none, none, none, none, none], g1, ?_, hg1, fun k hk => ⟨f, rfl, hf, fun h => ?_, fun j hj ne => ?_⟩⟩
    · unfold e32_1
      simp [rng_n (n := n) (by omega)]
      rw [e1]
      simp [nlR (md := 0) (m := n) (by omega)]
    · have : (i : Int) = k := Fz.D.int.inj hk
      have : i = k := by omega
      subst this
      exact ⟨(at2 i h).1 rfl, (hf i h).2⟩
    · have : (i : Int) = k := Fz.D.int.inj hk
      have : i = k := by omega
      subst this
      exact (at2 j hj).2 ne)
  have l : ys.length = n := by simpa using l
  obtain ⟨fs, rfl, hfs⟩ := pick_rows (n := n) (P := Dg p n) ys 0 (fun i y hy => by
    obtain ⟨hi, _⟩ := List.getElem?_eq_some_iff.mp hy
    obtain ⟨y', ey, qy⟩ := q i (.int i) (by simp [show i < n by omega])
    rw [hy] at ey
    cases ey
    obtain ⟨f, e, hf⟩ := qy i rfl
    exact ⟨f, e, by rw [Nat.zero_add]; exact hf⟩)
  have l : fs.length = n := by simpa using l
  refine ⟨fs, g', l, fun f hf => ?_, all_diag hp fun k hk => ?_, hg', by rw [e]; rfl⟩
  · obtain ⟨i, hi, rfl⟩ := List.mem_iff_getElem.mp hf
    exact (hfs i _ (List.getElem?_eq_getElem hi)).1
  · have := hfs k fs[k] (List.getElem?_eq_getElem (by omega))
    rw [Nat.zero_add] at this
    exact ⟨fs[k], List.getElem_mem _, (this.2.1 hk).1, (this.2.1 hk).2, this.2.2⟩
include hp hn in
/-- a row put to another one -/
theorem sq_put {fs : List Vc} (hl : fs.length = n) (hy : ∀ f ∈ fs, Red p n f) (ha : AllS p n fs) {g : List (List Fz.D)} (hg : Pot g) (turn : Fz.D) :
    ∃ (fs' : List Vc) (g' : List (List Fz.D)) (i j t : Fz.D), fs'.length = n ∧ (∀ f ∈ fs', Red p n f) ∧ AllS p n fs' ∧ Pot g' ∧ (1 ≤ n → exB ⟨F 32, C⟩ b32_0 ⟨[some (.g 1), some (.int p), some (.int n), some (.ref 0), none, none, some turn, none, none, none, none], [fs.map (rwl n)], g⟩ = .ok (.nx, ⟨[some (.g 1), some (.int p), some (.int n), some (.ref 0), some j, some i, some turn, some t, none, none, none], [fs'.map (rwl n)], g'⟩)) := by
  have lo := hp.lo
  have hi := hp.hi
  rcases Nat.lt_or_ge n 1 with hh | h1
  · have h1 : ¬ 1 ≤ n := by omega
    exact ⟨fs, g, .non, .non, .non, hl, hy, ha, hg, fun h => absurd h h1⟩
  have hp0 : ¬ p = 0 := by omega
  have hpm : ∀ a : Int, a.fmod p = a % p := fun a => Int.fmod_eq_emod_of_nonneg _ (by omega)
  obtain ⟨i, g1, e1, p1, b1⟩ := of9 (n := 32) (by decide) hg (m := n) (by omega) (by omega)
  obtain ⟨j, g2, e2, p2, b2⟩ := of9 (n := 32) (by decide) p1 (m := n) (by omega) (by omega)
  obtain ⟨t, g3, e3, p3, b3⟩ := of9 (n := 32) (by decide) p2 (m := p) (by omega) (by omega)
  have s1 : exS ⟨F 32, C⟩ (.set (.tu [.nm 5, .nm 4, .nm 7]) (.tup (.cons (.call 18 none (.cons (.v 0) (.cons (.v 2) .nil)) .nil) (.cons (.call 18 none (.cons (.v 0) (.cons (.v 2) .nil)) .nil) (.cons (.call 18 none (.cons (.v 0) (.cons (.v 1) .nil)) .nil) .nil))))) ⟨[some (.g 1), some (.int p), some (.int n), some (.ref 0), none, none, some turn, none, none, none, none], [fs.map (rwl n)], g⟩ = .ok (.nx, ⟨[some (.g 1), some (.int p), some (.int n), some (.ref 0), some (.int j), some (.int i), some turn, some (.int t), none, none, none], [fs.map (rwl n)], g3⟩) := by
    simp [e1, e2, e3, arrD]
  unfold b32_0
  by_cases z : i = j
  · refine ⟨fs, g3, .int i, .int j, .int t, hl, hy, ha, p3, fun _ => (exB_step s1).trans ?_⟩
    simp [z]
  · have hi : i < fs.length := by omega
    have hj : j < fs.length := by omega
    have gi : (fs.map (rwl n))[i]? = some (rwl n fs[i]) := by rw [List.getElem?_map, List.getElem?_eq_getElem hi]; rfl
    have gj : (fs.map (rwl n))[j]? = some (rwl n fs[j]) := by rw [List.getElem?_map, List.getElem?_eq_getElem hj]; rfl
    have mt : ∀ v, mulOk t v = true := fun v => mulOk_l (by omega)
    have A2 := all_set ha hi hj z t
    have c : ∀ σ, σ = [some (.g 1), some (.int p), some (.int n), some (.ref 0), some (.int j), some (.int i), some turn, some (.int t), none, none, none] → coL (asg (.tu [.nm 8, .nm 9])) (evC ⟨F 32, C⟩ .no) (evE ⟨F 32, C⟩ e32_2) (fun _ => true) [8, 9] σ ((List.range n).map fun k => Fz.D.tup [.int (fs[i] k), .int (fs[j] k)]) ⟨σ, [fs.map (rwl n)], g3⟩ [] = .ok (rl n fun k => (fs[i] k + t * fs[j] k) % p, ⟨σ, [fs.map (rwl n)], g3⟩) := by
      intro σ hσ
      have := coL_mp (bind := asg (.tu [.nm 8, .nm 9])) (test := evC ⟨F 32, C⟩ .no) (elt := evE ⟨F 32, C⟩ e32_2) (ok := fun _ => true) (own := [8, 9]) (σ := σ) (m := [fs.map (rwl n)]) (g := g3) (fun k => Fz.D.tup [.int (fs[i] k), .int (fs[j] k)]) (fun k => Fz.D.int ((fs[i] k + t * fs[j] k) % p)) (List.range n) [] (by simp; exact Nat.le_trans hn (by decide)) (fun k hk r acc ha => by
        subst hσ
        rw [coL_cons]
        simp [e32_2, mt, hp0, hpm, ha])
      rw [this]
      rfl
    have c := c _ rfl
    have zz : zipD (rl n fs[i]) (rl n fs[j]) = (List.range n).map fun k => Fz.D.tup [.int (fs[i] k), .int (fs[j] k)] := by rw [rl_map, rl_map, zip_map]
    have es : (fs.map (rwl n)).set i (rwl n fun k => (fs[i] k + t * fs[j] k) % p) = (fs.set i fun k => (fs[i] k + t * fs[j] k) % p).map (rwl n) := by rw [List.map_set]
    generalize fs[i] = fi at *
    generalize fs[j] = fj at *
    refine ⟨fs.set i fun k => (fi k + t * fj k) % p, g3, .int i, .int j, .int t, by rw [List.length_set, hl], ?_, A2, p3, fun _ => (exB_step s1).trans ?_⟩
    · intro y hy'
      rcases List.mem_or_eq_of_mem_set hy' with h | rfl
      · exact hy y h
      · exact fun k hk => emod_bd (by omega) _
    · have lq := lq_rwl (n := n) fs
      have z' : ¬ (i : Int) = j := by omega
      have i1 : ixI fs.length (i : Int) = some i := ix_nat hi
      have i2 : ixI fs.length (j : Int) = some j := ix_nat hj
      have hne : fs ≠ [] := fun e => by rw [e] at hi; exact absurd hi (Nat.not_lt_zero _)
      rw [← es]
      simp [z, lq, i1, i2, gi, gj, zz, -List.getElem?_map, -List.map_set]
      rw [c]
      simp [nlRl (m := n) (show n ≤ 1000 by omega), lq, i1, z', -List.map_set]
      try exact fun h => absurd h z'
include hp h1 hn in
theorem square18 {m : Nat} (h : 32 < m) {g : List (List Fz.D)} (hg : Pot g) : ∃ (T : Nat → Nat → Int) (g' : List (List Fz.D)), F m 32 [.g 1, .int p, .int n] g = .ok (tb n T, g') ∧ Pot g' ∧ Md p n T ∧ AllS p n ((List.range n).map T) := by
  have lo := hp.lo
  have hi := hp.hi
  rw [F32 h]
  obtain ⟨fs, g1, l1, q1, A1, p1, e1⟩ := sq_rows hp hn hg _ rfl
  have s1 : exS ⟨F 32, C⟩ (.set (.nm 3) (.co 1 (.nm 5) (.rng (.cons (.v 2) .nil)) .no e32_1 [5])) ⟨[some (.g 1), some (.int p), some (.int n), none, none, none, none, none, none, none, none], [], g⟩ = .ok (.nx, ⟨[some (.g 1), some (.int p), some (.int n), some (.ref 0), none, none, none, none, none, none, none], [fs.map (rwl n)], g1⟩) := by
    have nl : ∀ w : Wd, newL 1 (fs.map (rwl n)) w = .ok (.ref w.m.length, { w with m := w.m ++ [fs.map (rwl n)] }) := fun w => newL_1 (by rw [List.length_map, l1]; exact Nat.le_trans hn (by decide))
    simp [rng_n (n := n) (by omega)]
    rw [e1]
    simp [nl]
  obtain ⟨r, g2, e2, p2, b2⟩ := of9 (n := 32) (by decide) p1 (m := 2 * n + 1) (by omega) (by omega)
  obtain ⟨w, ⟨fs2, g3, rfl, l3, q3, A3, p3⟩, e3⟩ := forL_mem (bind := asg (.nm 6)) (body := exB ⟨F 32, C⟩ b32_0) (post := postF [4, 5, 6, 7] false 0) (ok := fun _ => true)
    (fun w => ∃ (fs : List Vc) (g : List (List Fz.D)), w = ⟨[some (.g 1), some (.int p), some (.int n), some (.ref 0), none, none, none, none, none, none, none], [fs.map (rwl n)], g⟩ ∧ fs.length = n ∧ (∀ f ∈ fs, Red p n f) ∧ AllS p n fs ∧ Pot g)
    ((List.range r).map fun t : Nat => .int t) ⟨[some (.g 1), some (.int p), some (.int n), some (.ref 0), none, none, none, none, none, none, none], [fs.map (rwl n)], g2⟩ (by
      rintro x _ w rest ⟨fs, g, rfl, l, q, A, hg⟩
      obtain ⟨fs', g', i, j, t, l', q', A', hg', e⟩ := sq_put hp hn l q A hg x
      have e := e h1
      refine ⟨_, ⟨fs', g', rfl, l', q', A', hg'⟩, ?_⟩
      rw [forL_cons]
      show (R.of (some (⟨[some (.g 1), some (.int p), some (.int n), some (.ref 0), none, none, some x, none, none, none, none], [fs.map (rwl n)], g⟩ : Wd))).bd _ = _
      simp only [R.of_some, R.bd_ok, e]
      rfl) ⟨fs, g2, rfl, l1, q1, A1, p2⟩
  have s2 : exS ⟨F 32, C⟩ (.for (.nm 6) (.rng (.cons (.call 18 none (.cons (.v 0) (.cons (.op .add 0 (.op .mul 0 (.k (.int 2)) (.v 2)) (.k (.int 1))) .nil)) .nil) .nil)) b32_0 [4, 5, 6, 7] false) ⟨[some (.g 1), some (.int p), some (.int n), some (.ref 0), none, none, none, none, none, none, none], [fs.map (rwl n)], g1⟩ = .ok (.nx, ⟨[some (.g 1), some (.int p), some (.int n), some (.ref 0), none, none, none, none, none, none, none], [fs2.map (rwl n)], g3⟩) := by
    have m2 : ∀ t, mulOk 2 t = true := fun t => mulOk_l (by decide)
    have lq := lq_rwl (n := n) fs
    simp [m2, e2, arrD, rng_n (n := r) (by omega)]
    exact e3
  have ret2 : okRets (fs2.map (rwl n)) = true := mapl_ret
  have pl2 : Pls 5 10 (fs2.map (rwl n)) := Pls_all fun d hd => by
    obtain ⟨f, hf, rfl⟩ := List.mem_map.mp hd
    refine Pl_lst.mpr (rl_pl fun i hi => ?_)
    have := q3 f hf i hi
    have e : (10 : Nat) ^ 5 = 100000 := by decide
    omega
  obtain ⟨zs, g4, e4, p4, m4⟩ := order11 (m := 32) (by decide) p3 (xs := fs2.map (rwl n)) (by rw [List.length_map]; omega) pl2 ret2
  obtain ⟨gs, hgs, rfl⟩ := perm_map_inv (rwl n) m4 fs2 rfl
  have lg : gs.length = n := by rw [hgs.length_eq, l3]
  have q4 : ∀ f ∈ gs, Red p n f := fun f hf => q3 f (hgs.mem_iff.mp hf)
  have A4 : AllS p n gs := all_mem A3 fun b hb => Span.mem (hgs.mem_iff.mpr hb)
  obtain ⟨T, hTd⟩ : ∃ T : Nat → Nat → Int, T = fun i => gs[i]?.getD fun _ => 0 := ⟨_, rfl⟩
  have eT : (List.range n).map T = gs := by
    refine List.ext_getElem (by simp [lg]) fun i h1 h2 => ?_
    simp [hTd, h2]
  have eR : gs.map (rw_ n) = rows n T := by
    rw [← eT, List.map_map]
    rfl
  have c : ∀ σ, σ = [some (.g 1), some (.int p), some (.int n), some (.ref 0), none, none, none, none, none, none, none] → coL (asg (.nm 10)) (evC ⟨F 32, C⟩ .no) (evE ⟨F 32, C⟩ e32_3) (fun _ => true) [10] σ (gs.map (rwl n)) ⟨σ, [fs2.map (rwl n)], g4⟩ [] = .ok (rows n T, ⟨σ, [fs2.map (rwl n)], g4⟩) := by
    intro σ hσ
    have := coL_mp (bind := asg (.nm 10)) (test := evC ⟨F 32, C⟩ .no) (elt := evE ⟨F 32, C⟩ e32_3) (ok := fun _ => true) (own := [10]) (σ := σ) (m := [fs2.map (rwl n)]) (g := g4) (rwl n) (rw_ n) gs [] (by simp; exact Nat.le_trans (show gs.length ≤ 100 by omega) (by decide)) (fun x hx r acc ha => by
      subst hσ
      rw [coL_cons]
      simp [e32_3, ntR' (m := n) (show n ≤ 1000 by omega), ha])
    rw [this, eR]
    rfl
  have c := c _ rfl
  have s3 : exS ⟨F 32, C⟩ (.ret (.bi .tuple 0 (.cons (.co 0 (.nm 10) (.seq (.call 20 none (.cons (.v 0) (.cons (.v 3) .nil)) .nil)) .no e32_3 [10]) .nil))) ⟨[some (.g 1), some (.int p), some (.int n), some (.ref 0), none, none, none, none, none, none, none], [fs2.map (rwl n)], g3⟩ = .ok (.rt (tb n T), ⟨[some (.g 1), some (.int p), some (.int n), some (.ref 0), none, none, none, none, none, none, none], [fs2.map (rwl n)], g4⟩) := by
    have lq := lq_rwl (n := n) fs2
    have q : ∀ ρ φ, Fz.rsL ρ φ (fs2.map (rwl n)) = some (fs2.map (rwl n)) := fun ρ φ => rsL_ok _ ret2
    have a1 : evE ⟨F 32, C⟩ (.call 20 none (.cons (.v 0) (.cons (.v 3) .nil)) .nil) ⟨[some (.g 1), some (.int p), some (.int n), some (.ref 0), none, none, none, none, none, none, none], [fs2.map (rwl n)], g3⟩ = .ok (.lst (gs.map (rwl n)), ⟨[some (.g 1), some (.int p), some (.int n), some (.ref 0), none, none, none, none, none, none, none], [fs2.map (rwl n)], g4⟩) := by
      simp [lq, q, e4, arrD]
    rw [exS_ret, evE_bi, evEs_cons, evE_co, evI_seq, a1]
    simp only [R.bd_ok, seq_lst, R.of_some]
    have c' : coL (asg (.nm 10)) (evC ⟨F 32, C⟩ .no) (evE ⟨F 32, C⟩ e32_3) (Src.ok (srcOf (.lst (gs.map (rwl n)))) (gs.map (rwl n))) [10] [some (.g 1), some (.int p), some (.int n), some (.ref 0), none, none, none, none, none, none, none] (gs.map (rwl n)) ⟨[some (.g 1), some (.int p), some (.int n), some (.ref 0), none, none, none, none, none, none, none], [fs2.map (rwl n)], g4⟩ [] = _ := c
    rw [c']
    simp [nlW (n := n) (show n ≤ 1000 by omega), ntW (n := n) (show n ≤ 1000 by omega)]
  refine ⟨T, g4, ?_, p4, fun i hi j hj => ?_, by rw [eT]; exact A4⟩
  · exact exD_rt (P := ⟨F 32, C⟩) (n := 11) (body := b32) (ds := [.g 1, .int p, .int n]) (g := g) (d := tb n T) (w1 := ⟨[some (.g 1), some (.int p), some (.int n), some (.ref 0), none, none, none, none, none, none, none], [fs2.map (rwl n)], g4⟩) ((exB_step s1).trans ((exB_step s2).trans (exB_rt s3))) (rs_ok _ rows_ret)
  · have : T i = gs[i] := by simp [hTd, show i < gs.length by omega]
    rw [this]
    exact q4 _ (List.getElem_mem _) j hj
end
end K10

namespace K10
open PySem Fz Rw
open LA (Vc Red clr scl redF Gd Span)
theorem forL_left {bind : Fz.D → Wd → Option Wd} {body : Wd → R (Fl × Wd)} {post : Wd → Option Wd} {ok : Wd → Bool} (I : Nat → Wd → Prop) : ∀ (xs : List Fz.D) (w : Wd), (∀ x ∈ xs, ∀ k w r, I (k + 1) w → ∃ w', I k w' ∧ forL bind body post ok (x :: r) w = forL bind body post ok r w') → I xs.length w → ∃ w', I 0 w' ∧ forL bind body post ok xs w = .ok (.nx, w')
  | [], w, _, hI => ⟨w, hI, rfl⟩
  | x :: xs, w, h, hI => by
    obtain ⟨w1, h1, e1⟩ := h x List.mem_cons_self xs.length w xs hI
    obtain ⟨w2, h2, e2⟩ := forL_left I xs w1 (fun y hy => h y (List.mem_cons_of_mem _ hy)) h1
    exact ⟨w2, h2, e1.trans e2⟩
/-- an entry of the own dict -/
def En (p : Int) (e : Fz.D) : Prop := ∃ a b v : Int, e = .tup [.tup [.int a, .int b], .int v] ∧ 0 ≤ v ∧ v < p
theorem put_len (es : List Fz.D) (k v : Fz.D) : (putE es k v).length ≤ es.length + 1 := by
  unfold putE
  split
  · rw [List.length_map]; omega
  · rw [List.length_append, List.length_singleton]; exact Nat.le_refl _
theorem put_En {p : Int} {es : List Fz.D} (h : ∀ e ∈ es, En p e) {a b v : Int} (hv : 0 ≤ v ∧ v < p) : ∀ e ∈ putE es (.tup [.int a, .int b]) (.int v), En p e := by
  unfold putE
  split
  · intro e he
    obtain ⟨e0, h0, rfl⟩ := List.mem_map.mp he
    obtain ⟨a', b', v', rfl, h1⟩ := h e0 h0
    split
    · exact ⟨a', b', v, rfl, hv⟩
    · exact ⟨a', b', v', rfl, h1⟩
  · exact mm_app h (mm_cons ⟨a, b, v, rfl, hv⟩ mm_nil)
theorem get_Z {p : Int} (hp : 0 < p) (k : Fz.D) : ∀ {es : List Fz.D}, (∀ e ∈ es, En p e) → Z p ((getE es k).getD (.int 0))
  | [], _ => ⟨0, rfl, by omega, hp⟩
  | e :: es, h => by
    obtain ⟨a, b, v, rfl, hv⟩ := h e List.mem_cons_self
    show Z p ((if deq (.tup [.int a, .int b]) k then some (Fz.D.int v) else getE es k).getD (.int 0))
    split
    · exact ⟨v, rfl, hv⟩
    · exact get_Z hp k fun e he => h e (List.mem_cons_of_mem _ he)
/-- the key of two numbers -/
theorem deq_key (a b c d : Int) : deq (.tup [.int a, .int b]) (.tup [.int c, .int d]) = decide (a = c ∧ b = d) := by
  show (decide (a = c) && (decide (b = d) && true)) = _
  rw [Bool.and_true, Bool.decide_and]
theorem get_cons (a b v c d : Int) (es : List Fz.D) : getE (.tup [.tup [.int a, .int b], .int v] :: es) (.tup [.int c, .int d]) = if a = c ∧ b = d then some (.int v) else getE es (.tup [.int c, .int d]) := by
  show (if deq (.tup [.int a, .int b]) (.tup [.int c, .int d]) then some (Fz.D.int v) else getE es (.tup [.int c, .int d])) = _
  rw [deq_key]
  by_cases z : a = c ∧ b = d
  · rw [if_pos z, if_pos (decide_eq_true z)]
  · rw [if_neg z, if_neg (by rw [decide_eq_false z]; exact Bool.false_ne_true)]
theorem isK_key (a b v c d : Int) : isK (.tup [.int c, .int d]) (.tup [.tup [.int a, .int b], .int v]) = decide (a = c ∧ b = d) := deq_key a b c d
theorem get_map {p : Int} (c d v : Int) (x y : Int) : ∀ {es : List Fz.D}, (∀ e ∈ es, En p e) → getE (es.map fun e => if isK (.tup [.int c, .int d]) e then setK (.int v) e else e) (.tup [.int x, .int y]) = if c = x ∧ d = y then (if es.any (isK (.tup [.int c, .int d])) then some (.int v) else none) else getE es (.tup [.int x, .int y])
  | [], _ => by
    by_cases z : c = x ∧ d = y
    · rw [if_pos z]; rfl
    · rw [if_neg z]; rfl
  | e :: es, h => by
    obtain ⟨a, b, u, rfl, _⟩ := h e List.mem_cons_self
    have ih := get_map (p := p) c d v x y (es := es) fun e he => h e (List.mem_cons_of_mem _ he)
    rw [List.map_cons, List.any_cons, isK_key]
    by_cases z : a = c ∧ b = d
    · rw [if_pos (decide_eq_true z), decide_eq_true z, Bool.true_or]
      show getE (.tup [.tup [.int a, .int b], .int v] :: _) _ = _
      rw [get_cons, get_cons, ih]
      obtain ⟨z1, z2⟩ := z
      subst z1 z2
      by_cases y1 : a = x ∧ b = y
      · rw [if_pos y1, if_pos y1]; rfl
      · rw [if_neg y1, if_neg y1, if_neg y1, if_neg y1]
    · rw [if_neg (by rw [decide_eq_false z]; exact Bool.false_ne_true), decide_eq_false z, Bool.false_or, get_cons, get_cons, ih]
      by_cases y1 : c = x ∧ d = y
      · have : ¬ (a = x ∧ b = y) := fun h => z ⟨h.1.trans y1.1.symm, h.2.trans y1.2.symm⟩
        rw [if_neg this, if_pos y1, if_pos y1]
      · rw [if_neg y1, if_neg y1]
theorem get_app {p : Int} (c d v : Int) (x y : Int) : ∀ {es : List Fz.D}, (∀ e ∈ es, En p e) → es.any (isK (.tup [.int c, .int d])) = false → getE (es ++ [.tup [.tup [.int c, .int d], .int v]]) (.tup [.int x, .int y]) = if c = x ∧ d = y then some (.int v) else getE es (.tup [.int x, .int y])
  | [], _, _ => get_cons c d v x y []
  | e :: es, h, hn => by
    obtain ⟨a, b, u, rfl, _⟩ := h e List.mem_cons_self
    rw [List.any_cons, isK_key, Bool.or_eq_false_iff] at hn
    have z : ¬ (a = c ∧ b = d) := of_decide_eq_false hn.1
    have ih := get_app (p := p) c d v x y (es := es) (fun e he => h e (List.mem_cons_of_mem _ he)) hn.2
    rw [List.cons_append, get_cons, get_cons, ih]
    by_cases y1 : c = x ∧ d = y
    · have : ¬ (a = x ∧ b = y) := fun h => z ⟨h.1.trans y1.1.symm, h.2.trans y1.2.symm⟩
      rw [if_neg this, if_pos y1, if_pos y1]
    · rw [if_neg y1, if_neg y1]
theorem get_put {p : Int} (c d v : Int) (x y : Int) {es : List Fz.D} (h : ∀ e ∈ es, En p e) : getE (putE es (.tup [.int c, .int d]) (.int v)) (.tup [.int x, .int y]) = if c = x ∧ d = y then some (.int v) else getE es (.tup [.int x, .int y]) := by
  unfold putE
  cases hq : es.any (isK (.tup [.int c, .int d])) with
  | true =>
    rw [if_pos rfl, get_map c d v x y h, hq]
    by_cases z : c = x ∧ d = y
    · rw [if_pos z, if_pos z, if_pos rfl]
    · rw [if_neg z, if_neg z]
  | false => rw [if_neg Bool.false_ne_true, get_app c d v x y h hq]
/-- the number kept at two places -/
def gv (es : List Fz.D) (x y : Int) : Int := zOf ((getE es (.tup [.int x, .int y])).getD (.int 0))
theorem gv_put {p : Int} (c d v : Int) (x y : Int) {es : List Fz.D} (h : ∀ e ∈ es, En p e) : gv (putE es (.tup [.int c, .int d]) (.int v)) x y = if c = x ∧ d = y then v else gv es x y := by
  unfold gv
  rw [get_put c d v x y h]
  by_cases z : c = x ∧ d = y
  · rw [if_pos z, if_pos z]; rfl
  · rw [if_neg z, if_neg z]
theorem gv_Z {p : Int} (hp : 0 < p) {es : List Fz.D} (h : ∀ e ∈ es, En p e) (x y : Int) : (getE es (.tup [.int x, .int y])).getD (.int 0) = .int (gv es x y) ∧ 0 ≤ gv es x y ∧ gv es x y < p := by
  obtain ⟨v, e, hv⟩ := get_Z hp (.tup [.int x, .int y]) h
  unfold gv
  rw [e]
  exact ⟨rfl, hv⟩
/-- the same turned about, but for a sign -/
def Sy (p s : Int) (es : List Fz.D) : Prop := ∀ x y : Int, LA.M p (gv es y x) (s * gv es x y)
theorem Sy.nil {p s : Int} : Sy p s [] := fun x y => by
  show LA.M p 0 (s * 0)
  rw [Int.mul_zero]
  exact LA.M.refl 0
theorem Sy.put {p s : Int} (hs : s = 1 ∨ s = -1) {es : List Fz.D} (h : ∀ e ∈ es, En p e) (y : Sy p s es) {i j v own : Int} (hv : 0 ≤ v ∧ v < p) (hM : LA.M p v (s * own)) (hd : i = j → s = 1) : Sy p s (putE (putE es (.tup [.int j, .int i]) (.int v)) (.tup [.int i, .int j]) (.int own)) := fun a b => by
  have h1 := put_En h (a := j) (b := i) hv
  rw [gv_put i j own _ _ h1, gv_put i j own _ _ h1, gv_put j i v _ _ h, gv_put j i v _ _ h]
  have ss : s * s = 1 := by rcases hs with rfl | rfl <;> rfl
  by_cases z1 : i = a ∧ j = b
  · obtain ⟨rfl, rfl⟩ := z1
    by_cases z2 : i = j
    · subst z2
      rw [if_pos ⟨rfl, rfl⟩, hd rfl, Int.one_mul]
      exact LA.M.refl _
    · rw [if_neg (fun e => z2 e.1), if_pos ⟨rfl, rfl⟩, if_pos ⟨rfl, rfl⟩]
      exact hM
  · by_cases z2 : i = b ∧ j = a
    · obtain ⟨rfl, rfl⟩ := z2
      rw [if_pos ⟨rfl, rfl⟩, if_neg z1, if_pos ⟨rfl, rfl⟩]
      have := LA.M.mul (LA.M.refl (p := p) s) hM
      rw [← Int.mul_assoc, ss, Int.one_mul] at this
      exact this.symm
    · have z3 : ¬ (j = b ∧ i = a) := fun e => z1 ⟨e.2, e.1⟩
      have z4 : ¬ (j = a ∧ i = b) := fun e => z2 ⟨e.2, e.1⟩
      rw [if_neg z2, if_neg z3, if_neg z1, if_neg z4]
      exact y a b
/-- the same turned about, but for a sign -/
def Rf (p : Int) (n : Nat) (T : Nat → Nat → Int) : Prop := ∃ s : Int, (s = 1 ∨ s = -1) ∧ ∀ i, i < n → ∀ j, j < n → LA.M p (T j i) (s * T i j)
theorem M_mod {p a b : Int} (h : a % p = b % p) : LA.M p a b := (LA.M.emod a).symm.trans (by rw [h]; exact LA.M.emod b)
theorem mod_M {p a b : Int} (h : LA.M p a b) : a % p = b % p := Int.emod_eq_emod_iff_emod_sub_eq_zero.mpr (Int.emod_eq_zero_of_dvd h)
/-- both ways -/
theorem Rf.bil {p : Int} {n : Nat} {T : Nat → Nat → Int} {s : Int} (h : ∀ i, i < n → ∀ j, j < n → LA.M p (T j i) (s * T i j)) (x y : Vc) : LA.M p (K10.bil p n T y x) (s * K10.bil p n T x y) := by
  have e1 : LA.M p (K10.bil p n T y x) (sm n fun i => y i * sm n fun j => T i j * x j) := LA.M.emod _
  have e2 : LA.M p (s * K10.bil p n T x y) (s * sm n fun i => x i * sm n fun j => T i j * y j) := LA.M.mul (LA.M.refl s) (LA.M.emod _)
  refine e1.trans (LA.M.trans ?_ e2.symm)
  have a1 : (sm n fun i => y i * sm n fun j => T i j * x j) = sm n fun i => sm n fun j => y i * (T i j * x j) := sm_congr fun i _ => by rw [sm_mulL]
  have a2 : (s * sm n fun i => x i * sm n fun j => T i j * y j) = sm n fun i => sm n fun j => s * (x j * (T j i * y i)) := by
    rw [← sm_mulL, sm_swap]
    refine sm_congr fun j _ => ?_
    rw [← sm_mulL, ← sm_mulL]
  rw [a1, a2]
  refine M_mod (sm_mod fun i hi => sm_mod fun j hj => mod_M ?_)
  have := LA.M.mul (LA.M.refl (p := p) (y i * x j)) (h j hj i hi)
  have q1 : y i * (T i j * x j) = y i * x j * T i j := by grind
  have q2 : s * (x j * (T j i * y i)) = y i * x j * (s * T j i) := by grind
  rw [q1, q2]
  exact this
theorem Rf.mvd {p : Int} {n : Nat} {T : Nat → Nat → Int} (h : Rf p n T) (S : Nat → Nat → Int) : Rf p n (K10.mvd p n T S) := by
  obtain ⟨s, hs, h⟩ := h
  exact ⟨s, hs, fun i _ j _ => Rf.bil h (S i) (S j)⟩
theorem dct0 {σ : List (Option Fz.D)} {es : List Fz.D} {g : List (List Fz.D)} : (⟨σ, [[.dic (dks true) es]], g⟩ : Wd).dct (.ref 0) = some (2, es) := by
  show (if (dks true).Nodup then none else some ((dks true).length, es)) = _
  rw [if_neg (by decide)]
  rfl
def sg (way : Nat) : Int := if way = 0 then -1 else 1
theorem sg_one (way : Nat) : sg way = 1 ∨ sg way = -1 := by
  unfold sg
  split
  · exact .inr rfl
  · exact .inl rfl
section
variable {p : Int} (hp : Pp p) {n : Nat} (h1 : 1 ≤ n) (hn : n ≤ 6)
include hp in
theorem pair_put {g : List (List Fz.D)} (hg : Pot g) (way : Nat) {es : List Fz.D} (hl : es.length ≤ 100) (he : ∀ e ∈ es, En p e) (hy : Sy p (sg way) es) (i j : Nat) :
    ∃ es' g' o, es'.length ≤ es.length + 2 ∧ (∀ e ∈ es', En p e) ∧ Sy p (sg way) es' ∧ Pot g' ∧ exB ⟨F 37, C⟩ b37_0 ⟨[some (.g 1), some (.int p), some (.int n), some (.int way), some (.ref 0), some (.int i), some (.int j), none, none], [[.dic (dks true) es]], g⟩ = .ok (.nx, ⟨[some (.g 1), some (.int p), some (.int n), some (.int way), some (.ref 0), some (.int i), some (.int j), o, none], [[.dic (dks true) es']], g'⟩) := by
  have lo := hp.lo
  have hi := hp.hi
  have hp0 : ¬ p = 0 := by omega
  have hpm : ∀ a : Int, a.fmod p = a % p := fun a => Int.fmod_eq_emod_of_nonneg _ (by omega)
  have tst : evT ⟨F 37, C⟩ (.or (.cm .lt (.v 5) (.v 6)) (.an (.cm .eq (.v 5) (.v 6)) (.cm .gt (.v 3) (.k (.int 0))))) ⟨[some (.g 1), some (.int p), some (.int n), some (.int way), some (.ref 0), some (.int i), some (.int j), none, none], [[.dic (dks true) es]], g⟩ = .ok (decide (i < j) || (decide (i = j) && decide (0 < way)), ⟨[some (.g 1), some (.int p), some (.int n), some (.int way), some (.ref 0), some (.int i), some (.int j), none, none], [[.dic (dks true) es]], g⟩) := by
    by_cases z : i < j
    · simp [z]
    · by_cases z2 : i = j
      · subst z2
        by_cases z3 : 0 < way
        · simp [z3]
        · simp [z3]
      · have z2' : ¬ (i : Int) = j := by omega
        simp [z, z2, z2']
  unfold b37_0
  rw [exB_cons, exS_ite, tst]
  cases hq : (decide (i < j) || (decide (i = j) && decide (0 < way))) with
  | false => exact ⟨es, g, none, by omega, he, hy, hg, by simp⟩
  | true =>
    obtain ⟨r, g1, e1, p1, b1⟩ := of9 (n := 37) (by decide) hg (m := 2) (by decide) (by decide)
    obtain ⟨r2, g2, e2, p2, b2⟩ := of9 (n := 37) (by decide) p1 (m := p) (by omega) (by omega)
    -- the number
    obtain ⟨own, g3, p3, hown, s1⟩ : ∃ (own : Int) (g3 : List (List Fz.D)), Pot g3 ∧ (0 ≤ own ∧ own < p) ∧ exS ⟨F 37, C⟩ (.set (.nm 7) (.ite (.cm .eq (.call 18 none (.cons (.v 0) (.cons (.k (.int 2)) .nil)) .nil) (.k (.int 0))) (.call 18 none (.cons (.v 0) (.cons (.v 1) .nil)) .nil) (.k (.int 0)))) ⟨[some (.g 1), some (.int p), some (.int n), some (.int way), some (.ref 0), some (.int i), some (.int j), none, none], [[.dic (dks true) es]], g⟩ = .ok (.nx, ⟨[some (.g 1), some (.int p), some (.int n), some (.int way), some (.ref 0), some (.int i), some (.int j), some (.int own), none], [[.dic (dks true) es]], g3⟩) := by
      by_cases z : r = 0
      · exact ⟨r2, g2, p2, ⟨by omega, b2⟩, by simp [e1, e2, z, arrD]⟩
      · exact ⟨0, g1, p1, ⟨by omega, by omega⟩, by simp [e1, z, arrD]⟩
    -- the first put
    obtain ⟨v, hv, hM, s2⟩ : ∃ v : Int, (0 ≤ v ∧ v < p) ∧ LA.M p v (sg way * own) ∧ exS ⟨F 37, C⟩ (.dput (.v 4) (.cons (.v 6) (.cons (.v 5) .nil)) (.ite (.cm .eq (.v 3) (.k (.int 0))) (.op .mod 0 (.bi .int 0 (.cons (.neg (.v 7)) .nil)) (.v 1)) (.v 7))) ⟨[some (.g 1), some (.int p), some (.int n), some (.int way), some (.ref 0), some (.int i), some (.int j), some (.int own), none], [[.dic (dks true) es]], g3⟩ = .ok (.nx, ⟨[some (.g 1), some (.int p), some (.int n), some (.int way), some (.ref 0), some (.int i), some (.int j), some (.int own), none], [[.dic (dks true) (putE es (.tup [.int j, .int i]) (.int v))]], g3⟩) := by
      have lt : es.length < mxLen := Nat.lt_of_le_of_lt hl (by decide)
      have k2 : 2 ≤ mxLen := by decide
      by_cases z : way = 0
      · refine ⟨(-own) % p, emod_bd (by omega) _, by unfold sg; rw [if_pos z, Int.neg_one_mul]; exact LA.M.emod _, ?_⟩
        simp [z, hp0, hpm, dct0, lt, k2, intD, Wd.dset]
      · refine ⟨own, hown, by unfold sg; rw [if_neg z, Int.one_mul]; exact LA.M.refl _, ?_⟩
        simp [z, dct0, lt, k2, intD, Wd.dset]
    have hd : (i : Int) = j → sg way = 1 := fun e => by
      have e : i = j := by omega
      have : 0 < way := by simpa [e] using hq
      unfold sg
      rw [if_neg (by omega)]
    have hy2 := hy.put (sg_one way) he (i := i) (j := j) hv hM hd
    have he1 := put_En he (a := j) (b := i) hv
    have hl1 := put_len es (.tup [.int j, .int i]) (.int v)
    generalize putE es (.tup [.int j, .int i]) (.int v) = es1 at *
    have s3 : exS ⟨F 37, C⟩ (.dput (.v 4) (.cons (.v 5) (.cons (.v 6) .nil)) (.v 7)) ⟨[some (.g 1), some (.int p), some (.int n), some (.int way), some (.ref 0), some (.int i), some (.int j), some (.int own), none], [[.dic (dks true) es1]], g3⟩ = .ok (.nx, ⟨[some (.g 1), some (.int p), some (.int n), some (.int way), some (.ref 0), some (.int i), some (.int j), some (.int own), none], [[.dic (dks true) (putE es1 (.tup [.int i, .int j]) (.int own))]], g3⟩) := by
      have lt : es1.length < mxLen := Nat.lt_of_le_of_lt (show es1.length ≤ 101 by omega) (by decide)
      have k2 : 2 ≤ mxLen := by decide
      simp [dct0, lt, k2, intD, Wd.dset]
    have he2 := put_En he1 (a := i) (b := j) hown
    have hl2 := put_len es1 (.tup [.int i, .int j]) (.int own)
    refine ⟨_, g3, some (.int own), by omega, he2, hy2, p3, ?_⟩
    simp only [R.bd_ok, if_true]
    show (exB ⟨F 37, C⟩ [_, _, _] _).bd _ = _
    rw [exB_step s1, exB_step s2, exB_step s3]
    rfl
include hp h1 hn in
theorem pair23 {m : Nat} (h : 37 < m) {g : List (List Fz.D)} (hg : Pot g) : ∃ (T : Nat → Nat → Int) (g' : List (List Fz.D)), F m 37 [.g 1, .int p, .int n] g = .ok (tb n T, g') ∧ Pot g' ∧ Md p n T ∧ Rf p n T := by
  have lo := hp.lo
  have hi := hp.hi
  rw [F37 h]
  obtain ⟨way, g1, e1, p1, b1⟩ := of9 (n := 37) (by decide) hg (m := 3) (by decide) (by decide)
  have s1 : exS ⟨F 37, C⟩ (.set (.tu [.nm 3, .nm 4]) (.tup (.cons (.call 18 none (.cons (.v 0) (.cons (.k (.int 3)) .nil)) .nil) (.cons (.dnew true) .nil)))) ⟨[some (.g 1), some (.int p), some (.int n), none, none, none, none, none, none], [], g⟩ = .ok (.nx, ⟨[some (.g 1), some (.int p), some (.int n), some (.int way), some (.ref 0), none, none, none, none], [[.dic (dks true) []]], g1⟩) := by
    simp [e1, arrD]
  have ec := cells_ok (m := 37) (by decide) h1 hn g1
  obtain ⟨w, ⟨es, g2, rfl, l2, q2, y2, p2⟩, e2⟩ := forL_left (bind := asg (.tu [.nm 5, .nm 6])) (body := exB ⟨F 37, C⟩ b37_0) (post := postF [5, 6, 7] false 1) (ok := fun _ => true)
    (fun k w => ∃ es g, w = ⟨[some (.g 1), some (.int p), some (.int n), some (.int way), some (.ref 0), none, none, none, none], [[.dic (dks true) es]], g⟩ ∧ es.length + 2 * k ≤ 72 ∧ (∀ e ∈ es, En p e) ∧ Sy p (sg way) es ∧ Pot g)
    ((cellsL n).map cD) ⟨[some (.g 1), some (.int p), some (.int n), some (.int way), some (.ref 0), none, none, none, none], [[.dic (dks true) []]], g1⟩ (by
      rintro x hx k w rest ⟨es, g, rfl, l, q, y, hg⟩
      obtain ⟨c, hc, rfl⟩ := List.mem_map.mp hx
      obtain ⟨es', g', o, l', q', y', hg', e⟩ := pair_put (n := n) hp hg way (by omega) q y c.1 c.2
      refine ⟨_, ⟨es', g', rfl, by omega, q', y', hg'⟩, ?_⟩
      rw [forL_cons]
      show (R.of (some (⟨[some (.g 1), some (.int p), some (.int n), some (.int way), some (.ref 0), some (.int c.1), some (.int c.2), none, none], [[.dic (dks true) es]], g⟩ : Wd))).bd _ = _
      simp only [R.of_some, R.bd_ok, e]
      rfl) ⟨[], g1, rfl, by
        have := cells_len hn
        rw [List.length_map]
        show 0 + _ ≤ _
        omega, (by intro e he; cases he), Sy.nil, p1⟩
  have s2 : exS ⟨F 37, C⟩ (.for (.tu [.nm 5, .nm 6]) (.seq (.call 25 none (.cons (.v 2) (.cons (.v 2) .nil)) .nil)) b37_0 [5, 6, 7] false) ⟨[some (.g 1), some (.int p), some (.int n), some (.int way), some (.ref 0), none, none, none, none], [[.dic (dks true) []]], g1⟩ = .ok (.nx, ⟨[some (.g 1), some (.int p), some (.int n), some (.int way), some (.ref 0), none, none, none, none], [[.dic (dks true) es]], g2⟩) := by
    have ev : evE ⟨F 37, C⟩ (.call 25 none (.cons (.v 2) (.cons (.v 2) .nil)) .nil) ⟨[some (.g 1), some (.int p), some (.int n), some (.int way), some (.ref 0), none, none, none, none], [[.dic (dks true) []]], g1⟩ = .ok (.lst ((cellsL n).map cD), ⟨[some (.g 1), some (.int p), some (.int n), some (.int way), some (.ref 0), none, none, none, none], [[.dic (dks true) []]], g1⟩) := by
      simp [ec, arrD]
    rw [exS_for]
    simp only [evI_seq, ev, R.bd_ok, seq_lst, R.of_some]
    exact e2
  -- the rows
  have gz := gv_Z (p := p) (by omega) q2
  obtain ⟨T, hTd⟩ : ∃ T : Nat → Nat → Int, T = fun i j : Nat => gv es i j := ⟨_, rfl⟩
  have hT : Md p n T := fun i _ j _ => by rw [hTd]; exact (gz i j).2
  have hR : Rf p n T := ⟨sg way, sg_one way, fun i _ j _ => by rw [hTd]; exact y2 i j⟩
  have ci : ∀ (i : Nat) (σ : List (Option Fz.D)), σ = [some (.g 1), some (.int p), some (.int n), some (.int way), some (.ref 0), some (.int i), none, none, none] → coL (asg (.nm 6)) (evC ⟨F 37, C⟩ .no) (evE ⟨F 37, C⟩ e37_0) (fun _ => true) [6] σ ((List.range n).map fun j : Nat => Fz.D.int j) ⟨σ, [[.dic (dks true) es]], g2⟩ [] = .ok (rl n (T i), ⟨σ, [[.dic (dks true) es]], g2⟩) := by
    intro i σ hσ
    have := coL_mp (bind := asg (.nm 6)) (test := evC ⟨F 37, C⟩ .no) (elt := evE ⟨F 37, C⟩ e37_0) (ok := fun _ => true) (own := [6]) (σ := σ) (m := [[.dic (dks true) es]]) (g := g2) (fun j : Nat => Fz.D.int j) (fun j : Nat => Fz.D.int (gv es i j)) (List.range n) [] (by simp; exact Nat.le_trans hn (by decide)) (fun j hj r acc ha => by
      subst hσ
      have k2 : 2 ≤ mxLen := by decide
      rw [coL_cons]
      simp [e37_0, dct0, k2, intD, isFlat, gz, ha])
    rw [this, hTd]
    rfl
  have co : ∀ (σ : List (Option Fz.D)), σ = [some (.g 1), some (.int p), some (.int n), some (.int way), some (.ref 0), none, none, none, none] → coL (asg (.nm 5)) (evC ⟨F 37, C⟩ .no) (evE ⟨F 37, C⟩ e37_1) (fun _ => true) [5] σ ((List.range n).map fun j : Nat => Fz.D.int j) ⟨σ, [[.dic (dks true) es]], g2⟩ [] = .ok (rows n T, ⟨σ, [[.dic (dks true) es]], g2⟩) := by
    intro σ hσ
    have := coL_mp (bind := asg (.nm 5)) (test := evC ⟨F 37, C⟩ .no) (elt := evE ⟨F 37, C⟩ e37_1) (ok := fun _ => true) (own := [5]) (σ := σ) (m := [[.dic (dks true) es]]) (g := g2) (fun j : Nat => Fz.D.int j) (fun i : Nat => rw_ n (T i)) (List.range n) [] (by simp; exact Nat.le_trans hn (by decide)) (fun i hi r acc ha => by
      have c := ci i _ rfl
      subst hσ
      rw [coL_cons]
      simp [e37_1, rng_n (n := n) (show n ≤ 1000000 by omega)]
      rw [c]
      simp [nlR (md := 0) (m := n) (by omega), ntR' (m := n) (show n ≤ 1000 by omega), ha])
    rw [this]
    rfl
  have e3 := co _ rfl
  have s3 : exS ⟨F 37, C⟩ (.set (.nm 8) (.bi .tuple 0 (.cons (.co 0 (.nm 5) (.rng (.cons (.v 2) .nil)) .no e37_1 [5]) .nil))) ⟨[some (.g 1), some (.int p), some (.int n), some (.int way), some (.ref 0), none, none, none, none], [[.dic (dks true) es]], g2⟩ = .ok (.nx, ⟨[some (.g 1), some (.int p), some (.int n), some (.int way), some (.ref 0), none, none, none, some (tb n T)], [[.dic (dks true) es]], g2⟩) := by
    simp [rng_n (n := n) (by omega)]
    rw [e3]
    simp [nlW (n := n) (by omega), ntW (n := n) (by omega)]
  obtain ⟨r, g5, e5, p5, b5⟩ := of9 (n := 37) (by decide) p2 (m := 2) (by decide) (by decide)
  unfold b37
  by_cases z : r = 0
  · obtain ⟨S, g6, e6, p6, hS, _⟩ := square18 hp h1 (by omega) (m := 37) (by decide) p5
    have e7 := lmv_ok (p := p) (m := 37) (by omega) h1 (by omega) (by decide) (hS.tm hi) (hT.tm hi) g6
    refine ⟨mvd p n T S, g6, ?_, p6, fun i _ j _ => emod_bd (by omega) _, hR.mvd S⟩
    have s4 : exS ⟨F 37, C⟩ (.ret (.ite (.cm .eq (.call 18 none (.cons (.v 0) (.cons (.k (.int 2)) .nil)) .nil) (.k (.int 0))) (.call 36 none (.cons (.v 1) (.cons (.v 8) (.cons (.call 32 none (.cons (.v 0) (.cons (.v 1) (.cons (.v 2) .nil))) .nil) .nil))) .nil) (.v 8))) ⟨[some (.g 1), some (.int p), some (.int n), some (.int way), some (.ref 0), none, none, none, some (tb n T)], [[.dic (dks true) es]], g2⟩ = .ok (.rt (tb n (mvd p n T S)), ⟨[some (.g 1), some (.int p), some (.int n), some (.int way), some (.ref 0), none, none, none, some (tb n T)], [[.dic (dks true) es]], g6⟩) := by
      simp [e5, z, e6, e7, arrD]
    exact exD_rt (w1 := ⟨[some (.g 1), some (.int p), some (.int n), some (.int way), some (.ref 0), none, none, none, some (tb n T)], [[.dic (dks true) es]], g6⟩) (d := tb n (mvd p n T S)) ((exB_step s1).trans ((exB_step s2).trans ((exB_step s3).trans (exB_rt s4)))) (rs_ok _ rows_ret)
  · refine ⟨T, g5, ?_, p5, hT, hR⟩
    have s4 : exS ⟨F 37, C⟩ (.ret (.ite (.cm .eq (.call 18 none (.cons (.v 0) (.cons (.k (.int 2)) .nil)) .nil) (.k (.int 0))) (.call 36 none (.cons (.v 1) (.cons (.v 8) (.cons (.call 32 none (.cons (.v 0) (.cons (.v 1) (.cons (.v 2) .nil))) .nil) .nil))) .nil) (.v 8))) ⟨[some (.g 1), some (.int p), some (.int n), some (.int way), some (.ref 0), none, none, none, some (tb n T)], [[.dic (dks true) es]], g2⟩ = .ok (.rt (tb n T), ⟨[some (.g 1), some (.int p), some (.int n), some (.int way), some (.ref 0), none, none, none, some (tb n T)], [[.dic (dks true) es]], g5⟩) := by
      simp [e5, z, arrD]
    exact exD_rt (w1 := ⟨[some (.g 1), some (.int p), some (.int n), some (.int way), some (.ref 0), none, none, none, some (tb n T)], [[.dic (dks true) es]], g5⟩) (d := tb n T) ((exB_step s1).trans ((exB_step s2).trans ((exB_step s3).trans (exB_rt s4)))) (rs_ok _ rows_ret)
end
end K10

namespace K10
open PySem Fz Rw
open LA (Vc Red clr scl redF Gd Span)
theorem sm_sumN (f : Nat → Int) : ∀ n, sm n f = LA.sumN n f
  | 0 => rfl
  | n + 1 => by
    show sm n f + f n = LA.sumN n f + f n
    rw [sm_sumN f n]
theorem sm_M {p : Int} {f g : Nat → Int} {n : Nat} (h : ∀ i, i < n → LA.M p (f i) (g i)) : LA.M p (sm n f) (sm n g) := by
  rw [sm_sumN, sm_sumN]
  exact LA.sumN_M h
theorem led_M {p : Int} {n : Nat} {x : Vc} {S : Nat → Nat → Int} (j : Nat) : LA.M p (led p n x S j) (sm n fun k => x k * S k j) := LA.M.emod _
/-- led by a table -/
theorem led_lin {p : Int} {n : Nat} (S : Nat → Nat → Int) : LA.Lin p n fun x => led p n x S where
  eq := fun {u v} e j hj => (led_M j).trans (LA.M.trans (sm_M fun k hk => LA.M.mul (e k hk) (LA.M.refl _)) (led_M j).symm)
  add := fun u v j hj => by
    refine (led_M j).trans (LA.M.trans ?_ (LA.M.add (led_M j) (led_M j)).symm)
    rw [← sm_add]
    exact sm_M fun k _ => by rw [Int.add_mul]; exact LA.M.refl _
  mul := fun t u j hj => by
    refine (led_M j).trans (LA.M.trans ?_ (LA.M.mul (LA.M.refl t) (led_M j)).symm)
    rw [← sm_mulL]
    exact sm_M fun k _ => by rw [Int.mul_assoc]; exact LA.M.refl _
theorem led_red {p : Int} (hp : 0 < p) {n : Nat} {x : Vc} {S : Nat → Nat → Int} : Red p n (led p n x S) := fun j _ => emod_bd hp _
theorem dt_bil {p : Int} {n : Nat} {T : Nat → Nat → Int} {x y : Vc} : LA.M p (LA.dt n (led p n x T) y) (bil p n T x y) := by
  unfold LA.dt
  rw [← sm_sumN, ← bil_led]
  exact (LA.M.emod _).symm
/-- far from -/
def Fr (p : Int) (n : Nat) (T : Nat → Nat → Int) (S : Vc → Prop) (y : Vc) : Prop := ∀ x, S x → LA.M p (bil p n T x y) 0
theorem far_span {p : Int} {n : Nat} {T : Nat → Nat → Int} {fs : List Vc} {y : Vc} : LA.Perp p n (Span p n (fs.map fun f => led p n f T)) y ↔ Fr p n T (Span p n fs) y := by
  constructor
  · intro h x hx
    exact dt_bil.symm.trans (h _ ((led_lin T).span hx))
  · intro h
    refine LA.perp_span.mpr fun b hb => ?_
    obtain ⟨f, hf, rfl⟩ := List.mem_map.mp hb
    exact dt_bil.trans (h f (Span.mem hf))
theorem Fr.ext {p : Int} {n : Nat} {T : Nat → Nat → Int} {S S' : Vc → Prop} (h : ∀ x, S x ↔ S' x) (y : Vc) : Fr p n T S y ↔ Fr p n T S' y := ⟨fun k x hx => k x ((h x).mpr hx), fun k x hx => k x ((h x).mp hx)⟩
theorem dt_un {n : Nat} {x : Vc} {j : Nat} (hj : j < n) : LA.dt n x (un j) = x j := by
  unfold LA.dt
  have : (fun k => x k * un j k) = fun k => if k = j then x k else 0 := by
    funext k
    unfold un
    split <;> simp
  rw [this, LA.sumN_one, if_pos hj]
section
variable {p : Int} {n : Nat} {T : Nat → Nat → Int} (hR : Rf p n T)
include hR in
theorem rf_turn (x y : Vc) : LA.M p (bil p n T x y) 0 ↔ LA.M p (bil p n T y x) 0 := by
  obtain ⟨s, hs, h⟩ := hR
  have key : ∀ x y : Vc, LA.M p (bil p n T x y) 0 → LA.M p (bil p n T y x) 0 := fun x y k => by
    have := (Rf.bil h x y).trans (LA.M.mul (LA.M.refl s) k)
    rwa [Int.mul_zero] at this
  exact ⟨key x y, key y x⟩
/-- bare: far from all -/
def Ba (p : Int) (n : Nat) (T : Nat → Nat → Int) : Vc → Prop := Fr p n T fun _ => True
include hR in
theorem ba_ker {x : Vc} : Ba p n T x ↔ LA.Eq' p n (led p n x T) fun _ => 0 := by
  constructor
  · intro h j hj
    have h1 := (rf_turn hR (un j) x).mp (h (un j) trivial)
    have h2 := (dt_bil (T := T) (x := x) (y := un j)).trans h1
    rw [dt_un hj] at h2
    exact h2
  · intro h y _
    rw [rf_turn hR y x]
    refine dt_bil.symm.trans ?_
    have := LA.dt_M (p := p) (n := n) h (LA.Eq'.refl y)
    rw [LA.dt_comm (fun _ => 0) y, LA.dt_0] at this
    exact this
include hR in
theorem fr_ba {S : Vc → Prop} {y : Vc} (h : Ba p n T y) : Fr p n T S y := fun x _ => h x trivial
/-- a list of steps for what two spaces have in common -/
theorem meet_ex (hp : Pp p) (hn : n ≤ 50) {A B : List (Nat × Vc)} (OA : Ok p n A) (OB : Ok p n B) : ∃ L : List (Nat × Vc), Ok p n L ∧ ∀ x, Sp p n L x ↔ Sp p n A x ∧ Sp p n B x := by
  have la := OA.len
  have lb := OB.len
  obtain ⟨A', OA', hA, _⟩ := dots_ok (m := 38) (by decide) hp hn (red_all OA) (by rw [List.length_map]; omega) (S := dS n A) (.inl rfl) (.inl rfl)
  obtain ⟨B', OB', hB, _⟩ := dots_ok (m := 38) (by decide) hp hn (red_all OB) (by rw [List.length_map]; omega) (S := dS n B) (.inl rfl) (.inl rfl)
  have la' := OA'.len
  have lb' := OB'.len
  obtain ⟨L, OL, hL, _⟩ := dots_ok (m := 38) (by decide) hp hn (fs := A'.map Prod.snd ++ B'.map Prod.snd) (mm_app (red_all OA') (red_all OB')) (by rw [List.length_append, List.length_map, List.length_map]; omega) (S := lsp n (A'.map Prod.snd ++ B'.map Prod.snd)) (.inr (.inl rfl)) (.inl rfl)
  refine ⟨L, OL, fun x => ?_⟩
  rw [hL, perp_app, perp_ext hA, perp_ext hB]
  exact and_congr (LA.perp_perp OA.rref.toPiv) (LA.perp_perp OB.rref.toPiv)
theorem space_ex (hp : Pp p) (hn : n ≤ 50) {fs : List Vc} (hf : ∀ f ∈ fs, Red p n f) : ∃ L : List (Nat × Vc), Ok p n L ∧ ∀ x, Sp p n L x ↔ Span p n fs x := by
  obtain ⟨L, O, h, _⟩ := space_ok (m := 8) (by decide) hp hn hf (S := spc n fs) (.inl rfl)
  exact ⟨L, O, h⟩
include hR in
/-- how many are far -/
theorem far_len (hp : Pp p) (hn : n ≤ 50) {A E D J : List (Nat × Vc)} (OA : Ok p n A) (OE : Ok p n E) (hE : ∀ y, Sp p n E y ↔ Fr p n T (Sp p n A) y) (OD : Ok p n D) (hD : ∀ y, Sp p n D y ↔ Ba p n T y) (OJ : Ok p n J) (hJ : ∀ x, Sp p n J x ↔ Span p n (A.map Prod.snd ++ D.map Prod.snd) x) : E.length + J.length = n + D.length := by
  have lo := hp.lo
  obtain ⟨I, OI, hI⟩ := space_ex hp hn (fs := (A.map Prod.snd).map fun f => led p n f T) (fun f hf => by
    obtain ⟨g, _, rfl⟩ := List.mem_map.mp hf
    exact led_red (by omega))
  obtain ⟨M, OM, hM⟩ := meet_ex hp hn OA OD
  have h1 := bes_len (by omega) OI OE fun x => (hE x).trans (far_span.symm.trans (perp_ext (fun y => (hI y).symm) x))
  have h2 := LA.rank (by omega) (led_lin T) OA.rref OM.rref (fun v => (hM v).trans (and_congr_right fun _ => (hD v).trans (ba_ker hR))) OI.rref hI
  have h3 := dims (by omega) OA OD OJ OM hJ hM
  simp only [List.length_map] at h2
  omega
include hR in
/-- far of far -/
theorem far_far (hp : Pp p) (hn : n ≤ 50) {A E D J G : List (Nat × Vc)} (OA : Ok p n A) (OE : Ok p n E) (hE : ∀ y, Sp p n E y ↔ Fr p n T (Sp p n A) y) (OD : Ok p n D) (hD : ∀ y, Sp p n D y ↔ Ba p n T y) (OJ : Ok p n J) (hJ : ∀ x, Sp p n J x ↔ Span p n (A.map Prod.snd ++ D.map Prod.snd) x)
    (OG : Ok p n G) (hG : ∀ y, Sp p n G y ↔ Fr p n T (Sp p n E) y) (x : Vc) : Sp p n G x ↔ Sp p n J x := by
  have lo := hp.lo
  obtain ⟨K, OK, hK⟩ := space_ex hp hn (mm_app (red_all OE) (red_all OD))
  have ek : ∀ x, Sp p n K x ↔ Sp p n E x := fun x => (hK x).trans ⟨fun h => (LA.span_sub _).span (fun d hd => by
    rcases List.mem_append.mp hd with hd | hd
    · exact Span.mem hd
    · exact (hE d).mpr (fr_ba hR ((hD d).mp (Span.mem hd)))) h, fun h => sp_left h⟩
  have l1 := far_len hR hp hn OA OE hE OD hD OJ hJ
  have l2 := far_len hR hp hn OE OG hG OD hD OK hK
  have l3 := len_eq (by omega) OK OE ek
  have sub : ∀ x, Sp p n J x → Sp p n G x := fun x hx => by
    refine (LA.span_sub _).span (fun d hd => ?_) ((hJ x).mp hx)
    rcases List.mem_append.mp hd with hd | hd
    · exact (hG d).mpr fun y hy => (rf_turn hR y d).mpr ((hE y).mp hy d (Span.mem hd))
    · exact (hG d).mpr (fr_ba hR ((hD d).mp (Span.mem hd)))
  exact ⟨LA.sub_len (by omega) OJ.rref OG.rref sub (by simp only [List.length_map]; omega) x, sub x⟩
theorem fr_join {A B J : List (Nat × Vc)} (hJ : ∀ x, Sp p n J x ↔ Span p n (A.map Prod.snd ++ B.map Prod.snd) x) (y : Vc) : Fr p n T (Sp p n J) y ↔ Fr p n T (Sp p n A) y ∧ Fr p n T (Sp p n B) y := by
  rw [Fr.ext hJ, ← far_span, List.map_append, perp_app, far_span, far_span]
/-- moved, and led -/
theorem bil_mvd (S : Nat → Nat → Int) (x y : Vc) : bil p n (mvd p n T S) x y = bil p n T (led p n x S) (led p n y S) := by
  have := mvd_mvd p n T S (fun i => if i = 0 then x else y) 0 1
  exact this
theorem all_led {S : Nat → Nat → Int} (h : AllS p n ((List.range n).map S)) (z : Vc) : ∃ y : Vc, LA.Eq' p n z (led p n y S) := by
  have a : AllS p n (((List.range n).map un).map fun f => led p n f S) := all_mem h fun b hb => by
    obtain ⟨k, hk, rfl⟩ := List.mem_map.mp hb
    refine (Span.mem (List.mem_map.mpr ⟨un k, List.mem_map.mpr ⟨k, hk, rfl⟩, rfl⟩)).of_eq fun j hj => ?_
    refine LA.M.trans ?_ (led_M j).symm
    have := dt_un (n := n) (x := fun i => S i j) (List.mem_range.mp hk)
    unfold LA.dt at this
    rw [← sm_sumN] at this
    rw [show (fun i => un k i * S i j) = fun i => S i j * un k i from funext fun i => Int.mul_comm _ _, this]
    exact LA.M.refl _
  obtain ⟨y, _, e⟩ := (led_lin S).image.mp (a z)
  exact ⟨y, e⟩
theorem bil_M {x x' y y' : Vc} (hx : LA.Eq' p n x x') (hy : LA.Eq' p n y y') : bil p n T x y = bil p n T x' y' := bil_mod (fun _ _ _ _ => rfl) (fun i hi => mod_M (hx i hi)) (fun i hi => mod_M (hy i hi))
theorem moved_far {S : Nat → Nat → Int} (hS : AllS p n ((List.range n).map S)) {A B E F' L : List (Nat × Vc)} (hB : ∀ x, Sp p n B x ↔ Span p n ((A.map Prod.snd).map fun f => led p n f S) x) (hE : ∀ y, Sp p n E y ↔ Fr p n (mvd p n T S) (Sp p n A) y) (hL : ∀ x, Sp p n L x ↔ Span p n ((E.map Prod.snd).map fun f => led p n f S) x)
    (hF : ∀ y, Sp p n F' y ↔ Fr p n T (Sp p n B) y) (z : Vc) : Sp p n L z ↔ Sp p n F' z := by
  rw [hL, hF, (led_lin S).image]
  constructor
  · rintro ⟨y, hy, e⟩ x hx
    obtain ⟨u, hu, e2⟩ := (led_lin S).image.mp ((hB x).mp hx)
    rw [bil_M e2 e, ← bil_mvd]
    exact (hE y).mp hy u hu
  · intro h
    obtain ⟨y, e⟩ := all_led hS z
    refine ⟨y, (hE y).mpr fun u hu => ?_, e⟩
    rw [bil_mvd, ← bil_M (LA.Eq'.refl _) e]
    exact h _ ((hB _).mpr ((led_lin S).span hu))
end
end K10

namespace K10
open PySem Fz Rw
open LA (Vc Red clr scl redF Gd Span)
def uns (n : Nat) : List Vc := (List.range n).map un
theorem uns_red {p : Int} (hp : 1 < p) {n : Nat} : ∀ f ∈ uns n, Red p n f := fun f hf => by
  obtain ⟨k, _, rfl⟩ := List.mem_map.mp hf
  exact un_red hp
theorem uns_len {n : Nat} : (uns n).length = n := by unfold uns; rw [List.length_map, List.length_range]
theorem unsq_ok {m : Nat} (h : 11 < m) {n : Nat} (hn : n ≤ 50) (g : List (List Fz.D)) : F m 11 [.int n] g = .ok (spc n (uns n), g) := by
  rw [F11 h]
  have c : ∀ σ, σ = [some (.int n), none] → coL (asg (.nm 1)) (evC ⟨F 11, C⟩ .no) (evE ⟨F 11, C⟩ e11_0) (fun _ => true) [1] σ ((List.range n).map fun j : Nat => Fz.D.int j) ⟨σ, [], g⟩ [] = .ok ((uns n).map (rw_ n), ⟨σ, [], g⟩) := by
    intro σ hσ
    have := coL_mp (bind := asg (.nm 1)) (test := evC ⟨F 11, C⟩ .no) (elt := evE ⟨F 11, C⟩ e11_0) (ok := fun _ => true) (own := [1]) (σ := σ) (m := []) (g := g) (fun j : Nat => Fz.D.int j) (fun k => rw_ n (un k)) (List.range n) [] (by simp; exact Nat.le_trans hn (by decide)) (fun j hj rs acc ha => by
      have eu := unit_ok (m := 11) (by decide) (n := n) (by omega) j g
      subst hσ
      rw [coL_cons]
      simp [e11_0, eu, arrD, ha])
    rw [this]
    unfold uns
    rw [List.map_map]
    rfl
  have c := c _ rfl
  have ln : (uns n).length ≤ 1000 := by rw [uns_len]; omega
  have s1 : exS ⟨F 11, C⟩ (.ret (.bi .tuple 0 (.cons (.co 0 (.nm 1) (.rng (.cons (.v 0) .nil)) .no e11_0 [1]) .nil))) ⟨[some (.int n), none], [], g⟩ = .ok (.rt (spc n (uns n)), ⟨[some (.int n), none], [], g⟩) := by
    rw [exS_ret, evE_bi, evEs_cons, evE_co]
    simp only [evI_rng, evEs_cons, evEs_nil, evE_v, List.getElem?_cons_succ, List.getElem?_cons_zero, R.bd_ok, rng_n (n := n) (show n ≤ 1000000 by omega), R.of_some]
    rw [c]
    simp only [R.bd_ok, nlP ln, bq_tuple, lsp_seq, R.of_some, ntP ln]
  exact exD_rt (P := ⟨F 11, C⟩) (n := 2) (body := b11) (ds := [.int n]) (g := g) (d := spc n (uns n)) (w1 := ⟨[some (.int n), none], [], g⟩) (exB_rt s1) (rs_ok _ map_ret)
theorem lunit_ok {m : Nat} (h : 35 < m) {n : Nat} (hn : n ≤ 50) (g : List (List Fz.D)) : F m 35 [.int n] g = .ok (spc n (uns n), g) := by
  rw [F35 h]
  have ci : ∀ (i : Nat) (σ : List (Option Fz.D)), σ = [some (.int n), none, some (.int i)] → coL (asg (.nm 1)) (evC ⟨F 35, C⟩ .no) (evE ⟨F 35, C⟩ e35_0) (fun _ => true) [1] σ ((List.range n).map fun j : Nat => Fz.D.int j) ⟨σ, [], g⟩ [] = .ok (rl n (un i), ⟨σ, [], g⟩) := by
    intro i σ hσ
    have := coL_mp (bind := asg (.nm 1)) (test := evC ⟨F 35, C⟩ .no) (elt := evE ⟨F 35, C⟩ e35_0) (ok := fun _ => true) (own := [1]) (σ := σ) (m := []) (g := g) (fun j : Nat => Fz.D.int j) (fun j => Fz.D.int (un i j)) (List.range n) [] (by simp; exact Nat.le_trans hn (by decide)) (fun j hj rs acc ha => by
      subst hσ
      rw [coL_cons]
      by_cases z : j = i
      · have z3 : (i : Int) = j := by omega
        simp [e35_0, un, z, z3, ha]
      · have z2 : ¬ (j : Int) = i := by omega
        have z3 : ¬ (i : Int) = j := by omega
        have z4 : ¬ i = j := fun e => z e.symm
        simp [e35_0, un, z, z2, z3, z4, ha])
    rw [this, rl_map]
    rfl
  have c : ∀ σ, σ = [some (.int n), none, none] → coL (asg (.nm 2)) (evC ⟨F 35, C⟩ .no) (evE ⟨F 35, C⟩ e35_1) (fun _ => true) [2] σ ((List.range n).map fun j : Nat => Fz.D.int j) ⟨σ, [], g⟩ [] = .ok ((uns n).map (rw_ n), ⟨σ, [], g⟩) := by
    intro σ hσ
    have := coL_mp (bind := asg (.nm 2)) (test := evC ⟨F 35, C⟩ .no) (elt := evE ⟨F 35, C⟩ e35_1) (ok := fun _ => true) (own := [2]) (σ := σ) (m := []) (g := g) (fun j : Nat => Fz.D.int j) (fun k => rw_ n (un k)) (List.range n) [] (by simp; exact Nat.le_trans hn (by decide)) (fun i hi rs acc ha => by
      have c := ci i _ rfl
      subst hσ
      rw [coL_cons]
      simp [e35_1, rng_n (n := n) (show n ≤ 1000000 by omega)]
      rw [c]
      simp [nlRl (m := n) (show n ≤ 1000 by omega), ntR' (m := n) (show n ≤ 1000 by omega), ha])
    rw [this]
    unfold uns
    rw [List.map_map]
    rfl
  have c := c _ rfl
  have ln : (uns n).length ≤ 1000 := by rw [uns_len]; omega
  have s1 : exS ⟨F 35, C⟩ (.ret (.bi .tuple 0 (.cons (.co 0 (.nm 2) (.rng (.cons (.v 0) .nil)) .no e35_1 [2]) .nil))) ⟨[some (.int n), none, none], [], g⟩ = .ok (.rt (spc n (uns n)), ⟨[some (.int n), none, none], [], g⟩) := by
    rw [exS_ret, evE_bi, evEs_cons, evE_co]
    simp only [evI_rng, evEs_cons, evEs_nil, evE_v, List.getElem?_cons_succ, List.getElem?_cons_zero, R.bd_ok, rng_n (n := n) (show n ≤ 1000000 by omega), R.of_some]
    rw [c]
    simp only [R.bd_ok, nlP ln, bq_tuple, lsp_seq, R.of_some, ntP ln]
  exact exD_rt (P := ⟨F 35, C⟩) (n := 3) (body := b35) (ds := [.int n]) (g := g) (d := spc n (uns n)) (w1 := ⟨[some (.int n), none, none], [], g⟩) (exB_rt s1) (rs_ok _ map_ret)
section
variable {p : Int} (hp : Pp p) {n : Nat} (h1 : 1 ≤ n) (hn : n ≤ 50) {T : Nat → Nat → Int}
theorem red_sm {f : Vc} (hp : p ≤ 10) (h : Red p n f) : Sm f n := fun i hi => by have := h i hi; omega
include hp h1 hn in
theorem far_ok {m : Nat} (h : 15 < m) {fs : List Vc} (hf : ∀ f ∈ fs, Red p n f) (hl : fs.length ≤ 50) :
    ∃ L : List (Nat × Vc), Ok p n L ∧ (∀ y, Sp p n L y ↔ Fr p n T (Span p n fs) y) ∧ ∀ g, F m 15 [.int p, tb n T, spc n fs] g = .ok (dS n L, g) := by
  have lo := hp.lo
  have hi := hp.hi
  obtain ⟨L1, O1, hs1, e7⟩ := space_ok (m := 15) (by decide) hp hn (fs := fs.map fun f => led p n f T) (fun f hf => by
    obtain ⟨x, _, rfl⟩ := List.mem_map.mp hf
    exact led_red (by omega)) (S := spc n (fs.map fun f => led p n f T)) (.inl rfl)
  obtain ⟨L, O, hs, e10⟩ := dot_ok (m := 15) (by decide) hp hn O1
  refine ⟨L, O, fun y => (hs y).trans ((perp_ext hs1 y).trans far_span), fun g => ?_⟩
  have e7 := e7 g
  have e10 := e10 g
  rw [F15 h]
  have c : ∀ σ, σ = [some (.int p), some (tb n T), some (spc n fs), some (.int n), none] → coL (asg (.nm 4)) (evC ⟨F 15, C⟩ .no) (evE ⟨F 15, C⟩ e15_0) (fun _ => true) [4] σ (fs.map (rw_ n)) ⟨σ, [], g⟩ [] = .ok ((fs.map fun f => led p n f T).map (rw_ n), ⟨σ, [], g⟩) := by
    intro σ hσ
    have := coL_mp (bind := asg (.nm 4)) (test := evC ⟨F 15, C⟩ .no) (elt := evE ⟨F 15, C⟩ e15_0) (ok := fun _ => true) (own := [4]) (σ := σ) (m := []) (g := g) (rw_ n) (fun f => rw_ n (led p n f T)) fs [] (by simp; exact Nat.le_trans hl (by decide)) (fun f hfm rs acc ha => by
      have e := led_ok (m := 15) (by decide) (p := p) (by omega) (n := n) h1 (by omega) (x := f) (fun i hi => by have := hf f hfm i hi; omega) T g
      subst hσ
      rw [coL_cons]
      simp [e15_0, e, arrD, ha])
    rw [this, List.map_map]
    rfl
  have c := c _ rfl
  have ln : (fs.map fun f => led p n f T).length ≤ 1000 := by rw [List.length_map]; omega
  have s1 : exS ⟨F 15, C⟩ (.set (.nm 3) (.bi .len 0 (.cons (.v 1) .nil))) ⟨[some (.int p), some (tb n T), some (spc n fs), none, none], [], g⟩ = .ok (.nx, ⟨[some (.int p), some (tb n T), some (spc n fs), some (.int n), none], [], g⟩) := by
    simp
  have s2 : exS ⟨F 15, C⟩ (.ret (.call 10 none (.cons (.v 0) (.cons (.v 3) (.cons (.call 7 none (.cons (.v 0) (.cons (.v 3) (.cons (.bi .tuple 0 (.cons (.co 0 (.nm 4) (.seq (.v 2)) .no e15_0 [4]) .nil)) .nil))) .nil) .nil))) .nil)) ⟨[some (.int p), some (tb n T), some (spc n fs), some (.int n), none], [], g⟩ = .ok (.rt (dS n L), ⟨[some (.int p), some (tb n T), some (spc n fs), some (.int n), none], [], g⟩) := by
    have a1 : evE ⟨F 15, C⟩ (.bi .tuple 0 (.cons (.co 0 (.nm 4) (.seq (.v 2)) .no e15_0 [4]) .nil)) ⟨[some (.int p), some (tb n T), some (spc n fs), some (.int n), none], [], g⟩ = .ok (spc n (fs.map fun f => led p n f T), ⟨[some (.int p), some (tb n T), some (spc n fs), some (.int n), none], [], g⟩) := by
      rw [evE_bi, evEs_cons, evE_co]
      simp only [evI_seq, evE_v, List.getElem?_cons_succ, List.getElem?_cons_zero, R.bd_ok, spc_seq, R.of_some]
      have c' : coL (asg (.nm 4)) (evC ⟨F 15, C⟩ .no) (evE ⟨F 15, C⟩ e15_0) (Src.ok (srcOf (spc n fs)) (fs.map (rw_ n))) [4] [some (.int p), some (tb n T), some (spc n fs), some (.int n), none] (fs.map (rw_ n)) ⟨[some (.int p), some (tb n T), some (spc n fs), some (.int n), none], [], g⟩ [] = _ := c
      rw [c']
      simp only [R.bd_ok, nlP ln, evEs_nil, bq_tuple, lsp_seq, R.of_some, ntP ln]
    simp [a1, e7, e10, arrD, -evE_bi, -List.map_map]
  have fin := exB_step (r := [.ret (.call 10 none (.cons (.v 0) (.cons (.v 3) (.cons (.call 7 none (.cons (.v 0) (.cons (.v 3) (.cons (.bi .tuple 0 (.cons (.co 0 (.nm 4) (.seq (.v 2)) .no e15_0 [4]) .nil)) .nil))) .nil) .nil))) .nil)]) s1 |>.trans (exB_rt s2)
  exact exD_rt (P := ⟨F 15, C⟩) (n := 5) (body := b15) (ds := [.int p, tb n T, spc n fs]) (g := g) (d := dS n L) fin (rs_ok _ map_ret)
include hp h1 hn in
theorem bare_ok {m : Nat} (h : 16 < m) : ∃ L : List (Nat × Vc), Ok p n L ∧ (∀ y, Sp p n L y ↔ Ba p n T y) ∧ ∀ g, F m 16 [.int p, tb n T] g = .ok (dS n L, g) := by
  have lo := hp.lo
  obtain ⟨L, O, hL, e⟩ := far_ok hp h1 hn (T := T) (m := 16) (by decide) (uns_red (by omega)) (by rw [uns_len]; exact hn)
  refine ⟨L, O, fun y => (hL y).trans (Fr.ext (fun x => ⟨fun _ => trivial, fun _ => all_units x⟩) y), fun g => ?_⟩
  rw [F16 h]
  have e11 := unsq_ok (m := 16) (by decide) hn g
  have e := e g
  have s1 : exS ⟨F 16, C⟩ (.ret (.call 15 none (.cons (.v 0) (.cons (.v 1) (.cons (.call 11 none (.cons (.bi .len 0 (.cons (.v 1) .nil)) .nil) .nil) .nil))) .nil)) ⟨[some (.int p), some (tb n T)], [], g⟩ = .ok (.rt (dS n L), ⟨[some (.int p), some (tb n T)], [], g⟩) := by
    simp [e11, e, arrD, -List.map_map]
  exact exD_rt (P := ⟨F 16, C⟩) (n := 2) (body := b16) (ds := [.int p, tb n T]) (g := g) (d := dS n L) (w1 := ⟨[some (.int p), some (tb n T)], [], g⟩) (exB_rt s1) (rs_ok _ map_ret)
include hp h1 hn in
theorem lfar_ok {m : Nat} (h : 34 < m) {fs : List Vc} (hf : ∀ f ∈ fs, Red p n f) (hl : fs.length ≤ 50) :
    ∃ L : List (Nat × Vc), Ok p n L ∧ (∀ y, Sp p n L y ↔ Fr p n T (Span p n fs) y) ∧ ∀ g, F m 34 [.int p, tb n T, spc n fs, .int n] g = .ok (dS n L, g) := by
  have lo := hp.lo
  have hi := hp.hi
  obtain ⟨L, O, hs, e28⟩ := dots_ok (m := 34) (by decide) hp hn (fs := fs.map fun f => led p n f T) (fun f hf => by
    obtain ⟨x, _, rfl⟩ := List.mem_map.mp hf
    exact led_red (by omega)) (by rw [List.length_map]; omega) (S := lsp n (fs.map fun f => led p n f T)) (.inr (.inl rfl)) (.inl rfl)
  refine ⟨L, O, fun y => (hs y).trans far_span, fun g => ?_⟩
  have e28 := e28 g
  rw [F34 h]
  have c : ∀ σ, σ = [some (.int p), some (tb n T), some (spc n fs), some (.int n), none] → coL (asg (.nm 4)) (evC ⟨F 34, C⟩ .no) (evE ⟨F 34, C⟩ e34_0) (fun _ => true) [4] σ (fs.map (rw_ n)) ⟨σ, [], g⟩ [] = .ok ((fs.map fun f => led p n f T).map (rw_ n), ⟨σ, [], g⟩) := by
    intro σ hσ
    have := coL_mp (bind := asg (.nm 4)) (test := evC ⟨F 34, C⟩ .no) (elt := evE ⟨F 34, C⟩ e34_0) (ok := fun _ => true) (own := [4]) (σ := σ) (m := []) (g := g) (rw_ n) (fun f => rw_ n (led p n f T)) fs [] (by simp; exact Nat.le_trans hl (by decide)) (fun f hfm rs acc ha => by
      have e := lled_ok (m := 34) (p := p) (by omega) (n := n) h1 (by omega) (by decide) (x := f) (red_sm hi (hf f hfm)) (S := T) g
      subst hσ
      rw [coL_cons]
      simp [e34_0, e, arrD, ha])
    rw [this, List.map_map]
    rfl
  have c := c _ rfl
  have ln : (fs.map fun f => led p n f T).length ≤ 1000 := by rw [List.length_map]; omega
  have s1 : exS ⟨F 34, C⟩ (.ret (.call 28 none (.cons (.v 0) (.cons (.co 0 (.nm 4) (.seq (.v 2)) .no e34_0 [4]) (.cons (.v 3) .nil))) .nil)) ⟨[some (.int p), some (tb n T), some (spc n fs), some (.int n), none], [], g⟩ = .ok (.rt (dS n L), ⟨[some (.int p), some (tb n T), some (spc n fs), some (.int n), none], [], g⟩) := by
    have a1 : evE ⟨F 34, C⟩ (.co 0 (.nm 4) (.seq (.v 2)) .no e34_0 [4]) ⟨[some (.int p), some (tb n T), some (spc n fs), some (.int n), none], [], g⟩ = .ok (lsp n (fs.map fun f => led p n f T), ⟨[some (.int p), some (tb n T), some (spc n fs), some (.int n), none], [], g⟩) := by
      rw [evE_co]
      simp only [evI_seq, evE_v, List.getElem?_cons_succ, List.getElem?_cons_zero, R.bd_ok, spc_seq, R.of_some]
      have c' : coL (asg (.nm 4)) (evC ⟨F 34, C⟩ .no) (evE ⟨F 34, C⟩ e34_0) (Src.ok (srcOf (spc n fs)) (fs.map (rw_ n))) [4] [some (.int p), some (tb n T), some (spc n fs), some (.int n), none] (fs.map (rw_ n)) ⟨[some (.int p), some (tb n T), some (spc n fs), some (.int n), none], [], g⟩ [] = _ := c
      rw [c']
      simp only [R.bd_ok, nlP ln]
    have rf := fun (ρ : Nat → Option Fz.D) (φ : Bool) => lsp_rs (ρ := ρ) (φ := φ) (n := n) (fs := fs.map fun f => led p n f T)
    simp [a1, e28, arrD, -evE_co, -List.map_map]
  exact exD_rt (P := ⟨F 34, C⟩) (n := 5) (body := b34) (ds := [.int p, tb n T, spc n fs, .int n]) (g := g) (d := dS n L) (w1 := ⟨[some (.int p), some (tb n T), some (spc n fs), some (.int n), none], [], g⟩) (exB_rt s1) (rs_ok _ map_ret)
end
end K10

namespace K10
open PySem Fz Rw
open LA (Vc Red clr scl redF Gd Span)
theorem rp3 {p : Int} (hp : p ≤ 10) {n : Nat} (hn : n ≤ 6) {T : Nat → Nat → Int} (hT : Md p n T) {A B : List (Nat × Vc)} (OA : Ok p n A) (OB : Ok p n B) {w : Wd} : biF .repr 0 [.lst [tb n T, dS n A, dS n B]] w = .ok (.str (pd (.lst [tb n T, dS n A, dS n B])).shown, w) := by
  have h := It.lst (L := 3) (mm_cons (tb_it hp hn hT) (mm_cons ((dS_it hp hn OA).mono (show 321 ≤ 400 by decide) (Nat.le_refl 2)) (mm_cons ((dS_it hp hn OB).mono (show 321 ≤ 400 by decide) (Nat.le_refl 2)) mm_nil))) (show 3 ≤ 3 by decide)
  exact repr_of (k := 5) (n := 3) h.pl (by decide) (by decide) (by decide) (Nat.le_trans h.sz (by decide))
theorem rpp {p : Int} (hp : p ≤ 10) {n : Nat} (hn : n ≤ 6) {A : List (Nat × Vc)} (OA : Ok p n A) {w : Wd} : biF .repr 0 [.lst [dS n A, dS n A]] w = .ok (.str (pd (.lst [dS n A, dS n A])).shown, w) := by
  have h := It.lst (L := 2) (mm_cons (dS_it hp hn OA) (mm_cons (dS_it hp hn OA) mm_nil)) (show 2 ≤ 2 by decide)
  exact repr_of (k := 5) (n := 3) h.pl (by decide) (by decide) (by decide) (Nat.le_trans h.sz (by decide))
theorem addSS {n : Nat} {A B : List Vc} (h : A.length + B.length ≤ 1000) {w : Wd} : opF .add 0 (lsp n A) (lsp n B) w = .ok (lsp n (A ++ B), w) := by
  unfold lsp
  rw [addL, ← List.map_append]
  exact nlP (by rw [List.length_append]; exact h)
theorem nlA {p : Int} {n : Nat} (hn : n ≤ 6) {A : List (Nat × Vc)} (OA : Ok p n A) (w : Wd) : newL 0 ((A.map Prod.snd).map (rw_ n)) w = .ok (lsp n (A.map Prod.snd), w) := nlP (by have := OA.len; rw [List.length_map]; omega)
/-- the space of the rows of both -/
theorem two_ok {p : Int} (hp : Pp p) {n : Nat} (hn : n ≤ 6) {A B : List (Nat × Vc)} (OA : Ok p n A) (OB : Ok p n B) : ∃ J : List (Nat × Vc), Ok p n J ∧ (∀ x, Sp p n J x ↔ Span p n (A.map Prod.snd ++ B.map Prod.snd) x) ∧ ∀ g, F 38 26 [.int p, lsp n (A.map Prod.snd ++ B.map Prod.snd)] g = .ok (dS n J, g) := by
  have la := OA.len
  have lb := OB.len
  obtain ⟨J, OJ, hJ, eJ⟩ := spaceL_ok (m := 38) (by decide) hp (n := n) (by omega) (mm_app (red_all OA) (red_all OB)) (by rw [List.length_append, List.length_map, List.length_map]; omega) (S := lsp n (A.map Prod.snd ++ B.map Prod.snd)) (.inr (.inl rfl)) (.inl rfl)
  exact ⟨J, OJ, hJ, eJ⟩
section
variable {p : Int} (hp : Pp p) {n : Nat} (h1 : 1 ≤ n) (hn : n ≤ 6) {T : Nat → Nat → Int} (hT : Md p n T)
variable {sc : List Int} {x2 : Fz.D}

omit hp h1 hn hT in
theorem t1 {A O : List (Nat × Vc)} {g g1 g2 g3 : List (List Fz.D)} (e1 : F 38 37 [.g 1, .int p, .int n] g = .ok (tb n T, g1)) (e2 : F 38 30 [.g 1, .int p, .int n] g1 = .ok (dS n A, g2)) (e3 : F 38 30 [.g 1, .int p, .int n] g2 = .ok (dS n O, g3)) : exS ⟨F 38, C⟩ (.set (.tu [.nm 5, .nm 6, .nm 7]) (.tup (.cons (.call 37 none (.cons (.v 1) (.cons (.v 3) (.cons (.v 4) .nil))) .nil) (.cons (.call 30 none (.cons (.v 1) (.cons (.v 3) (.cons (.v 4) .nil))) .nil) (.cons (.call 30 none (.cons (.v 1) (.cons (.v 3) (.cons (.v 4) .nil))) .nil) .nil))))) ⟨[some (.sc (sc.map Fz.D.int)), some (.g 1), some x2, some (.int p), some (.int n), none, none, none, none, none, none, none, none, none, none, none, none, none, none, none, none], [], g⟩ = .ok (.nx, ⟨[some (.sc (sc.map Fz.D.int)), some (.g 1), some x2, some (.int p), some (.int n), some (tb n T), some (dS n A), some (dS n O), none, none, none, none, none, none, none, none, none, none, none, none, none], [], g3⟩) := by
  simp [e1, e2, e3, arrD]
include hp hn hT in
theorem t2 {A O E : List (Nat × Vc)} (OA : Ok p n A) (OO : Ok p n O) {g : List (List Fz.D)} (e : F 38 34 [.int p, tb n T, dS n A, .int n] g = .ok (dS n E, g)) : exS ⟨F 38, C⟩ (.set (.tu [.nm 8, .nm 9]) (.tup (.cons (.bi .repr 0 (.cons (.lst 0 (.cons (.v 5) (.cons (.v 6) (.cons (.v 7) .nil)))) .nil)) (.cons (.call 34 none (.cons (.v 3) (.cons (.v 5) (.cons (.v 6) (.cons (.v 4) .nil)))) .nil) .nil)))) ⟨[some (.sc (sc.map Fz.D.int)), some (.g 1), some x2, some (.int p), some (.int n), some (tb n T), some (dS n A), some (dS n O), none, none, none, none, none, none, none, none, none, none, none, none, none], [], g⟩ = .ok (.nx, ⟨[some (.sc (sc.map Fz.D.int)), some (.g 1), some x2, some (.int p), some (.int n), some (tb n T), some (dS n A), some (dS n O), some (.str (pd (.lst [tb n T, dS n A, dS n O])).shown), some (dS n E), none, none, none, none, none, none, none, none, none, none, none], [], g⟩) := by
  have r := fun {w : Wd} => rp3 hp.hi hn hT OA OO (w := w)
  simp [nl3, r, e, arrD, -List.map_map]
theorem t3 {A O E Bd : List (Nat × Vc)} {g : List (List Fz.D)} {x8 : Option Fz.D} (e1 : F 38 35 [.int n] g = .ok (spc n (uns n), g)) (e : F 38 34 [.int p, tb n T, spc n (uns n), .int n] g = .ok (dS n Bd, g)) : exS ⟨F 38, C⟩ (.set (.nm 10) (.call 34 none (.cons (.v 3) (.cons (.v 5) (.cons (.call 35 none (.cons (.v 4) .nil) .nil) (.cons (.v 4) .nil)))) .nil)) ⟨[some (.sc (sc.map Fz.D.int)), some (.g 1), some x2, some (.int p), some (.int n), some (tb n T), some (dS n A), some (dS n O), x8, some (dS n E), none, none, none, none, none, none, none, none, none, none, none], [], g⟩ = .ok (.nx, ⟨[some (.sc (sc.map Fz.D.int)), some (.g 1), some x2, some (.int p), some (.int n), some (tb n T), some (dS n A), some (dS n O), x8, some (dS n E), some (dS n Bd), none, none, none, none, none, none, none, none, none, none], [], g⟩) := by
  simp [e, e1, arrD, -List.map_map]
include hp hn in
theorem t4 {A O E Bd : List (Nat × Vc)} (OE : Ok p n E) {g : List (List Fz.D)} {x8 : Option Fz.D} (e : F 38 15 [.int p, tb n T, dS n A] g = .ok (dS n E, g)) : exS ⟨F 38, C⟩ (.ite (.cm .ne (.bi .repr 0 (.cons (.lst 0 (.cons (.call 15 none (.cons (.v 3) (.cons (.v 5) (.cons (.v 6) .nil))) .nil) (.cons (.call 15 (some [2, 1, 0]) .nil (.cons (.v 6) (.cons (.v 5) (.cons (.v 3) .nil)))) .nil))) .nil)) (.bi .repr 0 (.cons (.lst 0 (.cons (.v 9) (.cons (.v 9) .nil))) .nil))) [ .ret (.k (.bl false))] []) ⟨[some (.sc (sc.map Fz.D.int)), some (.g 1), some x2, some (.int p), some (.int n), some (tb n T), some (dS n A), some (dS n O), x8, some (dS n E), some (dS n Bd), none, none, none, none, none, none, none, none, none, none], [], g⟩ = .ok (.nx, ⟨[some (.sc (sc.map Fz.D.int)), some (.g 1), some x2, some (.int p), some (.int n), some (tb n T), some (dS n A), some (dS n O), x8, some (dS n E), some (dS n Bd), none, none, none, none, none, none, none, none, none, none], [], g⟩) := by
  have r := fun {w : Wd} => rpp hp.hi hn OE (w := w)
  generalize (pd (.lst [dS n E, dS n E])).shown = s at r
  simp [e, arrD, arr, nl2, r, -List.map_map]
include hp hn in
theorem t5 {A O E Bd : List (Nat × Vc)} (OB : Ok p n Bd) {g : List (List Fz.D)} {x8 : Option Fz.D} (e : F 38 16 [.int p, tb n T] g = .ok (dS n Bd, g)) : exS ⟨F 38, C⟩ (.ite (.cm .ne (.bi .repr 0 (.cons (.lst 0 (.cons (.call 16 none (.cons (.v 3) (.cons (.v 5) .nil)) .nil) (.cons (.call 16 (some [1, 0]) .nil (.cons (.v 5) (.cons (.v 3) .nil))) .nil))) .nil)) (.bi .repr 0 (.cons (.lst 0 (.cons (.v 10) (.cons (.v 10) .nil))) .nil))) [ .ret (.k (.bl false))] []) ⟨[some (.sc (sc.map Fz.D.int)), some (.g 1), some x2, some (.int p), some (.int n), some (tb n T), some (dS n A), some (dS n O), x8, some (dS n E), some (dS n Bd), none, none, none, none, none, none, none, none, none, none], [], g⟩ = .ok (.nx, ⟨[some (.sc (sc.map Fz.D.int)), some (.g 1), some x2, some (.int p), some (.int n), some (tb n T), some (dS n A), some (dS n O), x8, some (dS n E), some (dS n Bd), none, none, none, none, none, none, none, none, none, none], [], g⟩) := by
  have r := fun {w : Wd} => rpp hp.hi hn OB (w := w)
  generalize (pd (.lst [dS n Bd, dS n Bd])).shown = s at r
  simp [e, arrD, arr, nl2, r, -List.map_map]
include hp hn in
theorem t6 {A O E Bd J : List (Nat × Vc)} (OA : Ok p n A) (OB : Ok p n Bd) {g : List (List Fz.D)} {x8 : Option Fz.D} (e : F 38 26 [.int p, lsp n (A.map Prod.snd ++ Bd.map Prod.snd)] g = .ok (dS n J, g)) : exS ⟨F 38, C⟩ (.set (.nm 11) (.call 26 none (.cons (.v 3) (.cons (.op .add 0 (.bi .list 0 (.cons (.v 6) .nil)) (.bi .list 0 (.cons (.v 10) .nil))) .nil)) .nil)) ⟨[some (.sc (sc.map Fz.D.int)), some (.g 1), some x2, some (.int p), some (.int n), some (tb n T), some (dS n A), some (dS n O), x8, some (dS n E), some (dS n Bd), none, none, none, none, none, none, none, none, none, none], [], g⟩ = .ok (.nx, ⟨[some (.sc (sc.map Fz.D.int)), some (.g 1), some x2, some (.int p), some (.int n), some (tb n T), some (dS n A), some (dS n O), x8, some (dS n E), some (dS n Bd), some (dS n J), none, none, none, none, none, none, none, none, none], [], g⟩) := by
  have la := OA.len
  have lb := OB.len
  have ad := fun {w : Wd} => addSS (n := n) (A := A.map Prod.snd) (B := Bd.map Prod.snd) (by rw [List.length_map, List.length_map]; omega) (w := w)
  simp [nlA hn OA, nlA hn OB, ad, e, arrD, -List.map_map]
include hp hn in
theorem t7 {A O E Bd J : List (Nat × Vc)} (OJ : Ok p n J) (h : E.length + J.length = n + Bd.length) {g : List (List Fz.D)} {x8 : Option Fz.D} (e : F 38 15 [.int p, tb n T, dS n E] g = .ok (dS n J, g)) : exS ⟨F 38, C⟩ (.ite (.or (.cm .ne (.bi .len 0 (.cons (.v 9) .nil)) (.op .sub 0 (.op .add 0 (.op .add 0 (.op .sub 0 (.v 4) (.bi .len 0 (.cons (.v 6) .nil))) (.bi .len 0 (.cons (.v 6) .nil))) (.bi .len 0 (.cons (.v 10) .nil))) (.bi .len 0 (.cons (.v 11) .nil)))) (.cm .ne (.call 15 none (.cons (.v 3) (.cons (.v 5) (.cons (.v 9) .nil))) .nil) (.v 11))) [ .ret (.k (.bl false))] []) ⟨[some (.sc (sc.map Fz.D.int)), some (.g 1), some x2, some (.int p), some (.int n), some (tb n T), some (dS n A), some (dS n O), x8, some (dS n E), some (dS n Bd), some (dS n J), none, none, none, none, none, none, none, none, none], [], g⟩ = .ok (.nx, ⟨[some (.sc (sc.map Fz.D.int)), some (.g 1), some x2, some (.int p), some (.int n), some (tb n T), some (dS n A), some (dS n O), x8, some (dS n E), some (dS n Bd), some (dS n J), none, none, none, none, none, none, none, none, none], [], g⟩) := by
  have ne := fun {w : Wd} => same_ne (by decide) (dS_it hp.hi hn OJ) (w := w)
  have h : ((n : Int) - A.length + A.length + Bd.length - J.length) = E.length := by omega
  have h2 : ((n : Int) + Bd.length - J.length) = E.length := by omega
  simp [h, h2, e, arrD, ne, -List.map_map]
include hp hn in
theorem t8 {A O E N : List (Nat × Vc)} (OA : Ok p n A) (OO : Ok p n O) {g : List (List Fz.D)} {x8 x10 x11 : Option Fz.D} (e : F 38 26 [.int p, lsp n (A.map Prod.snd ++ O.map Prod.snd)] g = .ok (dS n N, g)) : exS ⟨F 38, C⟩ (.set (.nm 12) (.call 26 none (.cons (.v 3) (.cons (.op .add 0 (.bi .list 0 (.cons (.v 6) .nil)) (.bi .list 0 (.cons (.v 7) .nil))) .nil)) .nil)) ⟨[some (.sc (sc.map Fz.D.int)), some (.g 1), some x2, some (.int p), some (.int n), some (tb n T), some (dS n A), some (dS n O), x8, some (dS n E), x10, x11, none, none, none, none, none, none, none, none, none], [], g⟩ = .ok (.nx, ⟨[some (.sc (sc.map Fz.D.int)), some (.g 1), some x2, some (.int p), some (.int n), some (tb n T), some (dS n A), some (dS n O), x8, some (dS n E), x10, x11, some (dS n N), none, none, none, none, none, none, none, none], [], g⟩) := by
  have la := OA.len
  have lb := OO.len
  have ad := fun {w : Wd} => addSS (n := n) (A := A.map Prod.snd) (B := O.map Prod.snd) (by rw [List.length_map, List.length_map]; omega) (w := w)
  simp [nlA hn OA, nlA hn OO, ad, e, arrD, -List.map_map]
theorem t9 {A O E N Ls Se : List (Nat × Vc)} {g : List (List Fz.D)} {x8 x10 x11 : Option Fz.D} (e : F 38 15 [.int p, tb n T, dS n N] g = .ok (dS n Ls, g)) (e2 : F 38 15 [.int p, tb n T, dS n O] g = .ok (dS n Se, g)) : exS ⟨F 38, C⟩ (.set (.tu [.nm 13, .nm 14]) (.tup (.cons (.call 15 none (.cons (.v 3) (.cons (.v 5) (.cons (.v 12) .nil))) .nil) (.cons (.call 15 none (.cons (.v 3) (.cons (.v 5) (.cons (.v 7) .nil))) .nil) .nil)))) ⟨[some (.sc (sc.map Fz.D.int)), some (.g 1), some x2, some (.int p), some (.int n), some (tb n T), some (dS n A), some (dS n O), x8, some (dS n E), x10, x11, some (dS n N), none, none, none, none, none, none, none, none], [], g⟩ = .ok (.nx, ⟨[some (.sc (sc.map Fz.D.int)), some (.g 1), some x2, some (.int p), some (.int n), some (tb n T), some (dS n A), some (dS n O), x8, some (dS n E), x10, x11, some (dS n N), some (dS n Ls), some (dS n Se), none, none, none, none, none, none], [], g⟩) := by
  simp [e, e2, arrD, -List.map_map]
include hp hn in
theorem t10 {A O E N Ls Se K : List (Nat × Vc)} (OL : Ok p n Ls) (OE : Ok p n E) (h : K.length = E.length) {g : List (List Fz.D)} {x8 x10 x11 : Option Fz.D} (e : F 38 26 [.int p, lsp n (Ls.map Prod.snd ++ E.map Prod.snd)] g = .ok (dS n K, g)) : exS ⟨F 38, C⟩ (.ite (.cm .ne (.bi .len 0 (.cons (.call 26 none (.cons (.v 3) (.cons (.op .add 0 (.bi .list 0 (.cons (.v 13) .nil)) (.bi .list 0 (.cons (.v 9) .nil))) .nil)) .nil) .nil)) (.bi .len 0 (.cons (.v 9) .nil))) [ .ret (.k (.bl false))] []) ⟨[some (.sc (sc.map Fz.D.int)), some (.g 1), some x2, some (.int p), some (.int n), some (tb n T), some (dS n A), some (dS n O), x8, some (dS n E), x10, x11, some (dS n N), some (dS n Ls), some (dS n Se), none, none, none, none, none, none], [], g⟩ = .ok (.nx, ⟨[some (.sc (sc.map Fz.D.int)), some (.g 1), some x2, some (.int p), some (.int n), some (tb n T), some (dS n A), some (dS n O), x8, some (dS n E), x10, x11, some (dS n N), some (dS n Ls), some (dS n Se), none, none, none, none, none, none], [], g⟩) := by
  have la := OL.len
  have lb := OE.len
  have ad := fun {w : Wd} => addSS (n := n) (A := Ls.map Prod.snd) (B := E.map Prod.snd) (by rw [List.length_map, List.length_map]; omega) (w := w)
  simp [nlA hn OL, nlA hn OE, ad, e, h, arrD, -List.map_map]
include hp hn in
theorem t11 {A O E N Ls Se M1 M2 : List (Nat × Vc)} (O1 : Ok p n M1) (O2 : Ok p n M2) {g : List (List Fz.D)} {x8 x10 x11 : Option Fz.D} (e1 : F 38 28 [.int p, dS n E, .int n] g = .ok (dS n M1, g)) (e2 : F 38 28 [.int p, dS n Se, .int n] g = .ok (dS n M2, g)) : exS ⟨F 38, C⟩ (.set (.nm 15) (.op .add 0 (.bi .list 0 (.cons (.call 28 none (.cons (.v 3) (.cons (.v 9) (.cons (.v 4) .nil))) .nil) .nil)) (.bi .list 0 (.cons (.call 28 none (.cons (.v 3) (.cons (.v 14) (.cons (.v 4) .nil))) .nil) .nil)))) ⟨[some (.sc (sc.map Fz.D.int)), some (.g 1), some x2, some (.int p), some (.int n), some (tb n T), some (dS n A), some (dS n O), x8, some (dS n E), x10, x11, some (dS n N), some (dS n Ls), some (dS n Se), none, none, none, none, none, none], [], g⟩ = .ok (.nx, ⟨[some (.sc (sc.map Fz.D.int)), some (.g 1), some x2, some (.int p), some (.int n), some (tb n T), some (dS n A), some (dS n O), x8, some (dS n E), x10, x11, some (dS n N), some (dS n Ls), some (dS n Se), some (lsp n (M1.map Prod.snd ++ M2.map Prod.snd)), none, none, none, none, none], [], g⟩) := by
  have la := O1.len
  have lb := O2.len
  have ad := fun {w : Wd} => addSS (n := n) (A := M1.map Prod.snd) (B := M2.map Prod.snd) (by rw [List.length_map, List.length_map]; omega) (w := w)
  simp [nlA hn O1, nlA hn O2, ad, e1, e2, arrD, -List.map_map]
include hp hn in
theorem t12 {A O E N Ls Se M1 M2 : List (Nat × Vc)} (OL : Ok p n Ls) {g : List (List Fz.D)} {x8 x10 x11 : Option Fz.D} (e : F 38 28 [.int p, lsp n (M1.map Prod.snd ++ M2.map Prod.snd), .int n] g = .ok (dS n Ls, g)) : exS ⟨F 38, C⟩ (.ite (.cm .ne (.v 13) (.call 28 none (.cons (.v 3) (.cons (.v 15) (.cons (.v 4) .nil))) .nil)) [ .ret (.k (.bl false))] []) ⟨[some (.sc (sc.map Fz.D.int)), some (.g 1), some x2, some (.int p), some (.int n), some (tb n T), some (dS n A), some (dS n O), x8, some (dS n E), x10, x11, some (dS n N), some (dS n Ls), some (dS n Se), some (lsp n (M1.map Prod.snd ++ M2.map Prod.snd)), none, none, none, none, none], [], g⟩ = .ok (.nx, ⟨[some (.sc (sc.map Fz.D.int)), some (.g 1), some x2, some (.int p), some (.int n), some (tb n T), some (dS n A), some (dS n O), x8, some (dS n E), x10, x11, some (dS n N), some (dS n Ls), some (dS n Se), some (lsp n (M1.map Prod.snd ++ M2.map Prod.snd)), none, none, none, none, none], [], g⟩) := by
  have ne := fun {w : Wd} => same_ne (by decide) (dS_it hp.hi hn OL) (w := w)
  simp [e, ne, arrD, -List.map_map]
theorem t13 {A : List (Nat × Vc)} {S : Nat → Nat → Int} {g g' : List (List Fz.D)} {x7 x8 x9 x10 x11 x12 x13 x14 x15 : Option Fz.D} (e : F 38 32 [.g 1, .int p, .int n] g = .ok (tb n S, g')) : exS ⟨F 38, C⟩ (.set (.nm 16) (.call 32 none (.cons (.v 1) (.cons (.v 3) (.cons (.v 4) .nil))) .nil)) ⟨[some (.sc (sc.map Fz.D.int)), some (.g 1), some x2, some (.int p), some (.int n), some (tb n T), some (dS n A), x7, x8, x9, x10, x11, x12, x13, x14, x15, none, none, none, none, none], [], g⟩ = .ok (.nx, ⟨[some (.sc (sc.map Fz.D.int)), some (.g 1), some x2, some (.int p), some (.int n), some (tb n T), some (dS n A), x7, x8, x9, x10, x11, x12, x13, x14, x15, some (tb n S), none, none, none, none], [], g'⟩) := by
  simp [e, arrD]
theorem t14 {A : List (Nat × Vc)} {S U : Nat → Nat → Int} {g : List (List Fz.D)} {x7 x8 x9 x10 x11 x12 x13 x14 x15 : Option Fz.D} (e : F 38 14 [.int p, tb n T, tb n S] g = .ok (tb n U, g)) : exS ⟨F 38, C⟩ (.set (.nm 17) (.call 14 none (.cons (.v 3) (.cons (.v 5) (.cons (.v 16) .nil))) .nil)) ⟨[some (.sc (sc.map Fz.D.int)), some (.g 1), some x2, some (.int p), some (.int n), some (tb n T), some (dS n A), x7, x8, x9, x10, x11, x12, x13, x14, x15, some (tb n S), none, none, none, none], [], g⟩ = .ok (.nx, ⟨[some (.sc (sc.map Fz.D.int)), some (.g 1), some x2, some (.int p), some (.int n), some (tb n T), some (dS n A), x7, x8, x9, x10, x11, x12, x13, x14, x15, some (tb n S), some (tb n U), none, none, none], [], g⟩) := by
  simp [e, arrD]
include hp h1 hn in
theorem led0 {X : List (Nat × Vc)} (OX : Ok p n X) {S : Nat → Nat → Int} {g : List (List Fz.D)} (σ : List (Option Fz.D)) (h3 : σ[3]? = some (some (.int p))) (h16 : σ[16]? = some (some (tb n S))) (hx : σ[6]? = some (some (dS n X))) (hw : σ.set 19 none = σ) (hl : 19 < σ.length) : evE ⟨F 38, C⟩ (.co 0 (.nm 19) (.seq (.v 6)) .no e38_0 [19]) ⟨σ, [], g⟩ = .ok (lsp n ((X.map Prod.snd).map fun f => led p n f S), ⟨σ, [], g⟩) := by
  have lo := hp.lo
  have hi := hp.hi
  have lx := OX.len
  have c : coL (asg (.nm 19)) (evC ⟨F 38, C⟩ .no) (evE ⟨F 38, C⟩ e38_0) (fun _ => true) [19] σ ((X.map Prod.snd).map (rw_ n)) ⟨σ, [], g⟩ [] = .ok (((X.map Prod.snd).map fun f => led p n f S).map (rw_ n), ⟨σ, [], g⟩) := by
    have := coL_mp (bind := asg (.nm 19)) (test := evC ⟨F 38, C⟩ .no) (elt := evE ⟨F 38, C⟩ e38_0) (ok := fun _ => true) (own := [19]) (σ := σ) (m := []) (g := g) (rw_ n) (fun f => rw_ n (led p n f S)) (X.map Prod.snd) [] (by simp; exact Nat.le_trans (show X.length ≤ 6 by omega) (by decide)) (fun f hfm rs acc ha => by
      have e := lled_ok (m := 38) (p := p) (by omega) (n := n) h1 (by omega) (by decide) (x := f) (red_sm hi (red_all OX f hfm)) (S := S) g
      have a1 : asg (.nm 19) (rw_ n f) ⟨wipeD σ [19], [], g⟩ = some ⟨σ.set 19 (some (rw_ n f)), [], g⟩ := by
        show some (⟨(σ.set 19 none).set 19 (some (rw_ n f)), [], g⟩ : Wd) = _
        rw [hw]
      have q3 : (σ.set 19 (some (rw_ n f)))[3]? = some (some (.int p)) := by rw [List.getElem?_set_ne (by decide)]; exact h3
      have q16 : (σ.set 19 (some (rw_ n f)))[16]? = some (some (tb n S)) := by rw [List.getElem?_set_ne (by decide)]; exact h16
      have q19 : (σ.set 19 (some (rw_ n f)))[19]? = some (some (rw_ n f)) := by rw [List.getElem?_set_self hl]
      have t1 : ∀ w, evC ⟨F 38, C⟩ .no w = .ok (true, w) := fun w => by simp
      have ev : evE ⟨F 38, C⟩ e38_0 ⟨σ.set 19 (some (rw_ n f)), [], g⟩ = .ok (rw_ n (led p n f S), ⟨σ.set 19 (some (rw_ n f)), [], g⟩) := by
        generalize σ.set 19 (some (rw_ n f)) = σ' at q3 q16 q19
        simp [e38_0, q3, q16, q19, e, arrD]
      rw [coL_cons, a1]
      simp only [R.of_some, R.bd_ok, t1, ev, if_true, Bool.true_and, decide_eq_true ha])
    rw [this]
    simp only [List.nil_append, List.map_map]
    rfl
  have ln : ((X.map Prod.snd).map fun f => led p n f S).length ≤ 1000 := by rw [List.length_map, List.length_map]; omega
  rw [evE_co]
  simp only [evI_seq, evE_v, hx, R.bd_ok, spc_seq, R.of_some]
  have c' : coL (asg (.nm 19)) (evC ⟨F 38, C⟩ .no) (evE ⟨F 38, C⟩ e38_0) (Src.ok (srcOf (dS n X)) ((X.map Prod.snd).map (rw_ n))) [19] σ ((X.map Prod.snd).map (rw_ n)) ⟨σ, [], g⟩ [] = _ := c
  rw [c']
  simp only [R.bd_ok, nlP ln]
include hp h1 hn in
theorem led1 {X : List (Nat × Vc)} (OX : Ok p n X) {S : Nat → Nat → Int} {g : List (List Fz.D)} (σ : List (Option Fz.D)) (h3 : σ[3]? = some (some (.int p))) (h16 : σ[16]? = some (some (tb n S))) (hx : σ[20]? = some (some (dS n X))) (hw : σ.set 19 none = σ) (hl : 19 < σ.length) : evE ⟨F 38, C⟩ (.co 0 (.nm 19) (.seq (.v 20)) .no e38_1 [19]) ⟨σ, [], g⟩ = .ok (lsp n ((X.map Prod.snd).map fun f => led p n f S), ⟨σ, [], g⟩) := by
  have lo := hp.lo
  have hi := hp.hi
  have lx := OX.len
  have c : coL (asg (.nm 19)) (evC ⟨F 38, C⟩ .no) (evE ⟨F 38, C⟩ e38_1) (fun _ => true) [19] σ ((X.map Prod.snd).map (rw_ n)) ⟨σ, [], g⟩ [] = .ok (((X.map Prod.snd).map fun f => led p n f S).map (rw_ n), ⟨σ, [], g⟩) := by
    have := coL_mp (bind := asg (.nm 19)) (test := evC ⟨F 38, C⟩ .no) (elt := evE ⟨F 38, C⟩ e38_1) (ok := fun _ => true) (own := [19]) (σ := σ) (m := []) (g := g) (rw_ n) (fun f => rw_ n (led p n f S)) (X.map Prod.snd) [] (by simp; exact Nat.le_trans (show X.length ≤ 6 by omega) (by decide)) (fun f hfm rs acc ha => by
      have e := lled_ok (m := 38) (p := p) (by omega) (n := n) h1 (by omega) (by decide) (x := f) (red_sm hi (red_all OX f hfm)) (S := S) g
      have a1 : asg (.nm 19) (rw_ n f) ⟨wipeD σ [19], [], g⟩ = some ⟨σ.set 19 (some (rw_ n f)), [], g⟩ := by
        show some (⟨(σ.set 19 none).set 19 (some (rw_ n f)), [], g⟩ : Wd) = _
        rw [hw]
      have q3 : (σ.set 19 (some (rw_ n f)))[3]? = some (some (.int p)) := by rw [List.getElem?_set_ne (by decide)]; exact h3
      have q16 : (σ.set 19 (some (rw_ n f)))[16]? = some (some (tb n S)) := by rw [List.getElem?_set_ne (by decide)]; exact h16
      have q19 : (σ.set 19 (some (rw_ n f)))[19]? = some (some (rw_ n f)) := by rw [List.getElem?_set_self hl]
      have t1 : ∀ w, evC ⟨F 38, C⟩ .no w = .ok (true, w) := fun w => by simp
      have ev : evE ⟨F 38, C⟩ e38_1 ⟨σ.set 19 (some (rw_ n f)), [], g⟩ = .ok (rw_ n (led p n f S), ⟨σ.set 19 (some (rw_ n f)), [], g⟩) := by
        generalize σ.set 19 (some (rw_ n f)) = σ' at q3 q16 q19
        simp [e38_1, q3, q16, q19, e, arrD]
      rw [coL_cons, a1]
      simp only [R.of_some, R.bd_ok, t1, ev, if_true, Bool.true_and, decide_eq_true ha])
    rw [this]
    simp only [List.nil_append, List.map_map]
    rfl
  have ln : ((X.map Prod.snd).map fun f => led p n f S).length ≤ 1000 := by rw [List.length_map, List.length_map]; omega
  rw [evE_co]
  simp only [evI_seq, evE_v, hx, R.bd_ok, spc_seq, R.of_some]
  have c' : coL (asg (.nm 19)) (evC ⟨F 38, C⟩ .no) (evE ⟨F 38, C⟩ e38_1) (Src.ok (srcOf (dS n X)) ((X.map Prod.snd).map (rw_ n))) [19] σ ((X.map Prod.snd).map (rw_ n)) ⟨σ, [], g⟩ [] = _ := c
  rw [c']
  simp only [R.bd_ok, nlP ln]
include hp h1 hn in
theorem t15 {A V : List (Nat × Vc)} (OA : Ok p n A) {S U : Nat → Nat → Int} {g : List (List Fz.D)} {x7 x8 x9 x10 x11 x12 x13 x14 x15 : Option Fz.D} (e : F 38 26 [.int p, lsp n ((A.map Prod.snd).map fun f => led p n f S)] g = .ok (dS n V, g)) : exS ⟨F 38, C⟩ (.set (.nm 18) (.call 26 none (.cons (.v 3) (.cons (.co 0 (.nm 19) (.seq (.v 6)) .no e38_0 [19]) .nil)) .nil)) ⟨[some (.sc (sc.map Fz.D.int)), some (.g 1), some x2, some (.int p), some (.int n), some (tb n T), some (dS n A), x7, x8, x9, x10, x11, x12, x13, x14, x15, some (tb n S), some (tb n U), none, none, none], [], g⟩ = .ok (.nx, ⟨[some (.sc (sc.map Fz.D.int)), some (.g 1), some x2, some (.int p), some (.int n), some (tb n T), some (dS n A), x7, x8, x9, x10, x11, x12, x13, x14, x15, some (tb n S), some (tb n U), some (dS n V), none, none], [], g⟩) := by
  have a := led0 hp h1 hn OA (S := S) (g := g) [some (.sc (sc.map Fz.D.int)), some (.g 1), some x2, some (.int p), some (.int n), some (tb n T), some (dS n A), x7, x8, x9, x10, x11, x12, x13, x14, x15, some (tb n S), some (tb n U), none, none, none] rfl rfl rfl rfl (show 19 < 21 by decide)
  simp [a, e, arrD, -evE_co, -List.map_map]
theorem t16 {A V G : List (Nat × Vc)} {S U : Nat → Nat → Int} {g : List (List Fz.D)} {x7 x8 x9 x10 x11 x12 x13 x14 x15 : Option Fz.D} (e : F 38 15 [.int p, tb n U, dS n A] g = .ok (dS n G, g)) : exS ⟨F 38, C⟩ (.set (.nm 20) (.call 15 none (.cons (.v 3) (.cons (.v 17) (.cons (.v 6) .nil))) .nil)) ⟨[some (.sc (sc.map Fz.D.int)), some (.g 1), some x2, some (.int p), some (.int n), some (tb n T), some (dS n A), x7, x8, x9, x10, x11, x12, x13, x14, x15, some (tb n S), some (tb n U), some (dS n V), none, none], [], g⟩ = .ok (.nx, ⟨[some (.sc (sc.map Fz.D.int)), some (.g 1), some x2, some (.int p), some (.int n), some (tb n T), some (dS n A), x7, x8, x9, x10, x11, x12, x13, x14, x15, some (tb n S), some (tb n U), some (dS n V), none, some (dS n G)], [], g⟩) := by
  simp [e, arrD, -List.map_map]
include hp h1 hn in
theorem t17 {A V G R : List (Nat × Vc)} (OG : Ok p n G) (OR : Ok p n R) {S U : Nat → Nat → Int} {g : List (List Fz.D)} {x7 x8 x9 x10 x11 x12 x13 x14 x15 : Option Fz.D} (e : F 38 26 [.int p, lsp n ((G.map Prod.snd).map fun f => led p n f S)] g = .ok (dS n R, g)) (e2 : F 38 15 [.int p, tb n T, dS n V] g = .ok (dS n R, g)) : exS ⟨F 38, C⟩ (.ite (.cm .ne (.call 26 none (.cons (.v 3) (.cons (.co 0 (.nm 19) (.seq (.v 20)) .no e38_1 [19]) .nil)) .nil) (.call 15 none (.cons (.v 3) (.cons (.v 5) (.cons (.v 18) .nil))) .nil)) [ .ret (.k (.bl false))] []) ⟨[some (.sc (sc.map Fz.D.int)), some (.g 1), some x2, some (.int p), some (.int n), some (tb n T), some (dS n A), x7, x8, x9, x10, x11, x12, x13, x14, x15, some (tb n S), some (tb n U), some (dS n V), none, some (dS n G)], [], g⟩ = .ok (.nx, ⟨[some (.sc (sc.map Fz.D.int)), some (.g 1), some x2, some (.int p), some (.int n), some (tb n T), some (dS n A), x7, x8, x9, x10, x11, x12, x13, x14, x15, some (tb n S), some (tb n U), some (dS n V), none, some (dS n G)], [], g⟩) := by
  have a := led1 hp h1 hn OG (S := S) (g := g) [some (.sc (sc.map Fz.D.int)), some (.g 1), some x2, some (.int p), some (.int n), some (tb n T), some (dS n A), x7, x8, x9, x10, x11, x12, x13, x14, x15, some (tb n S), some (tb n U), some (dS n V), none, some (dS n G)] rfl rfl rfl rfl (show 19 < 21 by decide)
  have ne := fun {w : Wd} => same_ne (by decide) (dS_it hp.hi hn OR) (w := w)
  simp [a, e, e2, ne, arrD, -evE_co, -List.map_map]
include hp hn hT in
theorem t18 {A O V G : List (Nat × Vc)} (OA : Ok p n A) (OO : Ok p n O) {S U : Nat → Nat → Int} {g : List (List Fz.D)} {x9 x10 x11 x12 x13 x14 x15 : Option Fz.D} : exS ⟨F 38, C⟩ (.ite (.cm .ne (.bi .repr 0 (.cons (.lst 0 (.cons (.v 5) (.cons (.v 6) (.cons (.v 7) .nil)))) .nil)) (.v 8)) [ .ret (.k (.bl false))] []) ⟨[some (.sc (sc.map Fz.D.int)), some (.g 1), some x2, some (.int p), some (.int n), some (tb n T), some (dS n A), some (dS n O), some (.str (pd (.lst [tb n T, dS n A, dS n O])).shown), x9, x10, x11, x12, x13, x14, x15, some (tb n S), some (tb n U), some (dS n V), none, some (dS n G)], [], g⟩ = .ok (.nx, ⟨[some (.sc (sc.map Fz.D.int)), some (.g 1), some x2, some (.int p), some (.int n), some (tb n T), some (dS n A), some (dS n O), some (.str (pd (.lst [tb n T, dS n A, dS n O])).shown), x9, x10, x11, x12, x13, x14, x15, some (tb n S), some (tb n U), some (dS n V), none, some (dS n G)], [], g⟩) := by
  have r := fun {w : Wd} => rp3 hp.hi hn hT OA OO (w := w)
  generalize (pd (.lst [tb n T, dS n A, dS n O])).shown = s at r
  simp [nl3, r, -List.map_map]
end
theorem turn {sc : List Int} {x2 : Fz.D} {g : List (List Fz.D)} (hg : Pot g) : ∃ σ g', Pot g' ∧ wipeD σ [2, 3, 4, 5, 6, 7, 8, 9, 10, 11, 12, 13, 14, 15, 16, 17, 18, 20] = [some (.sc (sc.map Fz.D.int)), some (.g 1), none, none, none, none, none, none, none, none, none, none, none, none, none, none, none, none, none, none, none] ∧ exB ⟨F 38, C⟩ b38_0 ⟨[some (.sc (sc.map Fz.D.int)), some (.g 1), some x2, none, none, none, none, none, none, none, none, none, none, none, none, none, none, none, none, none, none], [], g⟩ = .ok (.nx, ⟨σ, [], g'⟩) := by
  obtain ⟨pd0, g1, e1, p1, hpd⟩ := one19 (n := 38) (by decide) hg [.int 2, .int 3, .int 5, .int 7] (by decide) (by decide) rfl
  obtain ⟨p, rfl, hp⟩ : ∃ p : Int, pd0 = .int p ∧ Pp p := by
    simp only [List.mem_cons, List.not_mem_nil, or_false] at hpd
    rcases hpd with rfl | rfl | rfl | rfl
    · exact ⟨2, rfl, .inl rfl⟩
    · exact ⟨3, rfl, .inr (.inl rfl)⟩
    · exact ⟨5, rfl, .inr (.inr (.inl rfl))⟩
    · exact ⟨7, rfl, .inr (.inr (.inr rfl))⟩
  obtain ⟨r, g2, e2, p2, b2⟩ := of18 (n := 38) (by decide) p1 (m := 6) (by decide) (by decide)
  obtain ⟨n, hn'⟩ : ∃ n : Nat, n = 1 + r := ⟨_, rfl⟩
  have hn : n ≤ 6 := by omega
  have h1 : 1 ≤ n := by omega
  have lo := hp.lo
  have hi := hp.hi
  have s0 : exS ⟨F 38, C⟩ (.set (.tu [.nm 3, .nm 4]) (.tup (.cons (.call 19 none (.cons (.v 1) (.cons (.lst 0 (.cons (.k (.int 2)) (.cons (.k (.int 3)) (.cons (.k (.int 5)) (.cons (.k (.int 7)) .nil))))) .nil)) .nil) (.cons (.op .add 0 (.k (.int 1)) (.call 18 none (.cons (.v 1) (.cons (.k (.int 6)) .nil)) .nil)) .nil)))) ⟨[some (.sc (sc.map Fz.D.int)), some (.g 1), some x2, none, none, none, none, none, none, none, none, none, none, none, none, none, none, none, none, none, none], [], g⟩ = .ok (.nx, ⟨[some (.sc (sc.map Fz.D.int)), some (.g 1), some x2, some (.int p), some (.int n), none, none, none, none, none, none, none, none, none, none, none, none, none, none, none, none], [], g2⟩) := by
    have : (1 : Int) + r = n := by omega
    simp [nl4, e1, e2, this, arrD]
  obtain ⟨T, g3, e3, p3, hT, hR⟩ := pair23 hp h1 hn (m := 38) (by decide) p2
  obtain ⟨A, g4, e4, p4, OA⟩ := some_ok (m := 38) (by decide) p3 hp (n := n) (by omega)
  obtain ⟨O, g5, e5, p5, OO⟩ := some_ok (m := 38) (by decide) p4 hp (n := n) (by omega)
  have la := OA.len
  have lo2 := OO.len
  have s1 := t1 (sc := sc) (x2 := x2) e3 e4 e5
  -- far
  obtain ⟨E, OE, hE, eE⟩ := lfar_ok hp h1 (n := n) (by omega) (T := T) (m := 38) (by decide) (red_all OA) (by rw [List.length_map]; omega)
  have s2 := t2 hp hn hT (sc := sc) (x2 := x2) OA OO (eE g5)
  obtain ⟨Bd, OB, hB0, eB⟩ := lfar_ok hp h1 (n := n) (by omega) (T := T) (m := 38) (by decide) (uns_red (by omega)) (by rw [uns_len]; omega)
  have hB : ∀ y, Sp p n Bd y ↔ Ba p n T y := fun y => (hB0 y).trans (Fr.ext (fun x => ⟨fun _ => trivial, fun _ => all_units x⟩) y)
  have s3 := t3 (p := p) (n := n) (T := T) (sc := sc) (x2 := x2) (A := A) (O := O) (E := E) (g := g5) (x8 := some (.str (pd (.lst [tb n T, dS n A, dS n O])).shown)) (lunit_ok (by decide) (by omega) g5) (eB g5)
  obtain ⟨E1, OE1, hE1, eE1⟩ := far_ok hp h1 (n := n) (by omega) (T := T) (m := 38) (by decide) (red_all OA) (by rw [List.length_map]; omega)
  have q1 : F 38 15 [.int p, tb n T, dS n A] g5 = .ok (dS n E, g5) := by rw [← ok_eq (by omega) OE1 OE fun x => (hE1 x).trans (hE x).symm]; exact eE1 g5
  have s4 := t4 hp hn (sc := sc) (x2 := x2) (O := O) (Bd := Bd) OE (x8 := some (.str (pd (.lst [tb n T, dS n A, dS n O])).shown)) q1
  obtain ⟨B1, OB1, hB1, eB1⟩ := bare_ok hp h1 (n := n) (by omega) (T := T) (m := 38) (by decide)
  have q2 : F 38 16 [.int p, tb n T] g5 = .ok (dS n Bd, g5) := by rw [← ok_eq (by omega) OB1 OB fun x => (hB1 x).trans (hB x).symm]; exact eB1 g5
  have s5 := t5 hp hn (sc := sc) (x2 := x2) (A := A) (O := O) (E := E) OB (x8 := some (.str (pd (.lst [tb n T, dS n A, dS n O])).shown)) q2
  obtain ⟨J, OJ, hJ, eJ⟩ := two_ok hp hn OA OB
  have s6 := t6 hp hn (T := T) (sc := sc) (x2 := x2) (O := O) (E := E) OA OB (x8 := some (.str (pd (.lst [tb n T, dS n A, dS n O])).shown)) (eJ g5)
  have le := OE.len
  obtain ⟨G0, OG0, hG0, eG0⟩ := far_ok hp h1 (n := n) (by omega) (T := T) (m := 38) (by decide) (red_all OE) (by rw [List.length_map]; omega)
  have q3 : F 38 15 [.int p, tb n T, dS n E] g5 = .ok (dS n J, g5) := by rw [← ok_eq (by omega) OG0 OJ (far_far hR hp (by omega) OA OE hE OB hB OJ hJ OG0 hG0)]; exact eG0 g5
  have s7 := t7 hp hn (sc := sc) (x2 := x2) (A := A) (O := O) OJ (far_len hR hp (by omega) OA OE hE OB hB OJ hJ) (x8 := some (.str (pd (.lst [tb n T, dS n A, dS n O])).shown)) q3
  obtain ⟨N, ON, hN, eN⟩ := two_ok hp hn OA OO
  have s8 := t8 hp hn (T := T) (sc := sc) (x2 := x2) (E := E) OA OO (x8 := some (.str (pd (.lst [tb n T, dS n A, dS n O])).shown)) (x10 := some (dS n Bd)) (x11 := some (dS n J)) (eN g5)
  have ln := ON.len
  obtain ⟨Ls, OL, hL, eL⟩ := far_ok hp h1 (n := n) (by omega) (T := T) (m := 38) (by decide) (red_all ON) (by rw [List.length_map]; omega)
  obtain ⟨Se, OS, hSe, eS⟩ := far_ok hp h1 (n := n) (by omega) (T := T) (m := 38) (by decide) (red_all OO) (by rw [List.length_map]; omega)
  have s9 := t9 (sc := sc) (x2 := x2) (A := A) (E := E) (x8 := some (.str (pd (.lst [tb n T, dS n A, dS n O])).shown)) (x10 := some (dS n Bd)) (x11 := some (dS n J)) (eL g5) (eS g5)
  have hL2 : ∀ y, Sp p n Ls y ↔ Sp p n E y ∧ Sp p n Se y := fun y => (hL y).trans ((fr_join hN y).trans (and_congr (hE y).symm (hSe y).symm))
  obtain ⟨K, OK, hK, eK⟩ := two_ok hp hn OL OE
  have lK := len_eq (by omega) OK OE fun x => (hK x).trans ⟨fun h => (LA.span_sub _).span (fun d hd => by
    rcases List.mem_append.mp hd with hd | hd
    · exact ((hL2 d).mp (Span.mem hd)).1
    · exact Span.mem hd) h, fun h => sp_right h⟩
  have s10 := t10 hp hn (T := T) (sc := sc) (x2 := x2) (A := A) (O := O) (N := N) (Se := Se) OL OE lK (x8 := some (.str (pd (.lst [tb n T, dS n A, dS n O])).shown)) (x10 := some (dS n Bd)) (x11 := some (dS n J)) (eK g5)
  have lse := OS.len
  obtain ⟨M1, O1, hM1, eM1⟩ := dots_ok (m := 38) (by decide) hp (n := n) (by omega) (red_all OE) (by rw [List.length_map]; omega) (S := dS n E) (.inl rfl) (.inl rfl)
  obtain ⟨M2, O2, hM2, eM2⟩ := dots_ok (m := 38) (by decide) hp (n := n) (by omega) (red_all OS) (by rw [List.length_map]; omega) (S := dS n Se) (.inl rfl) (.inl rfl)
  have s11 := t11 hp hn (T := T) (sc := sc) (x2 := x2) (A := A) (O := O) (N := N) (Ls := Ls) O1 O2 (x8 := some (.str (pd (.lst [tb n T, dS n A, dS n O])).shown)) (x10 := some (dS n Bd)) (x11 := some (dS n J)) (eM1 g5) (eM2 g5)
  have lm1 := O1.len
  have lm2 := O2.len
  obtain ⟨L3, O3, hL3, e12⟩ := dots_ok (m := 38) (by decide) hp (n := n) (by omega) (fs := M1.map Prod.snd ++ M2.map Prod.snd) (mm_app (red_all O1) (red_all O2)) (by rw [List.length_append, List.length_map, List.length_map]; omega) (S := lsp n (M1.map Prod.snd ++ M2.map Prod.snd)) (.inr (.inl rfl)) (.inl rfl)
  have q4 : F 38 28 [.int p, lsp n (M1.map Prod.snd ++ M2.map Prod.snd), .int n] g5 = .ok (dS n Ls, g5) := by
    rw [← ok_eq (by omega) O3 OL fun x => by
      rw [hL3, perp_app, perp_ext hM1, perp_ext hM2, hL2]
      exact and_congr (LA.perp_perp OE.rref.toPiv) (LA.perp_perp OS.rref.toPiv)]
    exact e12 g5
  have s12 := t12 hp hn (T := T) (sc := sc) (x2 := x2) (A := A) (O := O) (E := E) (N := N) (Se := Se) OL (x8 := some (.str (pd (.lst [tb n T, dS n A, dS n O])).shown)) (x10 := some (dS n Bd)) (x11 := some (dS n J)) q4
  obtain ⟨S, g6, e6, p6, hS, aS⟩ := square18 hp h1 (n := n) (by omega) (m := 38) (by decide) p5
  have s13 := t13 (T := T) (sc := sc) (x2 := x2) (A := A) e6 (x7 := some (dS n O)) (x8 := some (.str (pd (.lst [tb n T, dS n A, dS n O])).shown)) (x9 := some (dS n E)) (x10 := some (dS n Bd)) (x11 := some (dS n J)) (x12 := some (dS n N)) (x13 := some (dS n Ls)) (x14 := some (dS n Se)) (x15 := some (lsp n (M1.map Prod.snd ++ M2.map Prod.snd)))
  have s14 := t14 (sc := sc) (x2 := x2) (A := A) (mv_ok (m := 38) (p := p) (by omega) h1 (n := n) (by omega) (by decide) (hS.tm hi) T g6) (x7 := some (dS n O)) (x8 := some (.str (pd (.lst [tb n T, dS n A, dS n O])).shown)) (x9 := some (dS n E)) (x10 := some (dS n Bd)) (x11 := some (dS n J)) (x12 := some (dS n N)) (x13 := some (dS n Ls)) (x14 := some (dS n Se)) (x15 := some (lsp n (M1.map Prod.snd ++ M2.map Prod.snd)))
  obtain ⟨V, OV, hV, eV⟩ := spaceL_ok (m := 38) (by decide) hp (n := n) (by omega) (fs := (A.map Prod.snd).map fun f => led p n f S) (fun f hf => by
    obtain ⟨x, _, rfl⟩ := List.mem_map.mp hf
    exact led_red (by omega)) (by rw [List.length_map, List.length_map]; omega) (S := lsp n ((A.map Prod.snd).map fun f => led p n f S)) (.inr (.inl rfl)) (.inl rfl)
  have s15 := t15 hp h1 hn (T := T) (sc := sc) (x2 := x2) (U := mvd p n T S) OA (eV g6) (x7 := some (dS n O)) (x8 := some (.str (pd (.lst [tb n T, dS n A, dS n O])).shown)) (x9 := some (dS n E)) (x10 := some (dS n Bd)) (x11 := some (dS n J)) (x12 := some (dS n N)) (x13 := some (dS n Ls)) (x14 := some (dS n Se)) (x15 := some (lsp n (M1.map Prod.snd ++ M2.map Prod.snd)))
  obtain ⟨G, OG, hG, eG⟩ := far_ok hp h1 (n := n) (by omega) (T := mvd p n T S) (m := 38) (by decide) (red_all OA) (by rw [List.length_map]; omega)
  have s16 := t16 (T := T) (sc := sc) (x2 := x2) (V := V) (S := S) (eG g6) (x7 := some (dS n O)) (x8 := some (.str (pd (.lst [tb n T, dS n A, dS n O])).shown)) (x9 := some (dS n E)) (x10 := some (dS n Bd)) (x11 := some (dS n J)) (x12 := some (dS n N)) (x13 := some (dS n Ls)) (x14 := some (dS n Se)) (x15 := some (lsp n (M1.map Prod.snd ++ M2.map Prod.snd)))
  have lg := OG.len
  have lv := OV.len
  obtain ⟨R1, OR1, hR1, eR1⟩ := spaceL_ok (m := 38) (by decide) hp (n := n) (by omega) (fs := (G.map Prod.snd).map fun f => led p n f S) (fun f hf => by
    obtain ⟨x, _, rfl⟩ := List.mem_map.mp hf
    exact led_red (by omega)) (by rw [List.length_map, List.length_map]; omega) (S := lsp n ((G.map Prod.snd).map fun f => led p n f S)) (.inr (.inl rfl)) (.inl rfl)
  obtain ⟨R2, OR2, hR2, eR2⟩ := far_ok hp h1 (n := n) (by omega) (T := T) (m := 38) (by decide) (red_all OV) (by rw [List.length_map]; omega)
  have q5 : F 38 15 [.int p, tb n T, dS n V] g6 = .ok (dS n R1, g6) := by
    rw [ok_eq (by omega) OR1 OR2 (moved_far aS hV hG hR1 hR2)]
    exact eR2 g6
  have s17 := t17 hp h1 hn (sc := sc) (x2 := x2) (A := A) (U := mvd p n T S) OG OR1 (eR1 g6) q5 (x7 := some (dS n O)) (x8 := some (.str (pd (.lst [tb n T, dS n A, dS n O])).shown)) (x9 := some (dS n E)) (x10 := some (dS n Bd)) (x11 := some (dS n J)) (x12 := some (dS n N)) (x13 := some (dS n Ls)) (x14 := some (dS n Se)) (x15 := some (lsp n (M1.map Prod.snd ++ M2.map Prod.snd)))
  have s18 := t18 hp hn hT (sc := sc) (x2 := x2) (V := V) (G := G) OA OO (S := S) (U := mvd p n T S) (g := g6) (x9 := some (dS n E)) (x10 := some (dS n Bd)) (x11 := some (dS n J)) (x12 := some (dS n N)) (x13 := some (dS n Ls)) (x14 := some (dS n Se)) (x15 := some (lsp n (M1.map Prod.snd ++ M2.map Prod.snd)))
  have e : exB ⟨F 38, C⟩ b38_0 ⟨[some (.sc (sc.map Fz.D.int)), some (.g 1), some x2, none, none, none, none, none, none, none, none, none, none, none, none, none, none, none, none, none, none], [], g⟩ = .ok (.nx, ⟨[some (.sc (sc.map Fz.D.int)), some (.g 1), some x2, some (.int p), some (.int n), some (tb n T), some (dS n A), some (dS n O), some (.str (pd (.lst [tb n T, dS n A, dS n O])).shown), some (dS n E), some (dS n Bd), some (dS n J), some (dS n N), some (dS n Ls), some (dS n Se), some (lsp n (M1.map Prod.snd ++ M2.map Prod.snd)), some (tb n S), some (tb n (mvd p n T S)), some (dS n V), none, some (dS n G)], [], g6⟩) := by
    unfold b38_0
    rw [exB_step s0, exB_step s1, exB_step s2, exB_step s3, exB_step s4, exB_step s5, exB_step s6, exB_step s7, exB_step s8, exB_step s9, exB_step s10, exB_step s11, exB_step s12, exB_step s13, exB_step s14, exB_step s15, exB_step s16, exB_step s17, exB_step s18]
    rfl
  exact ⟨_, g6, p6, rfl, e⟩
theorem main : ∀ ns : List Int, ns.length ≤ 63 → ∃ g', F 39 38 [.sc (ns.map Fz.D.int)] [] = .ok (.bl true, g') := by
  intro ns hn
  obtain ⟨g0, e0, p0⟩ := pot_ok (P := ⟨F 17, C⟩) (s0 := 17539) (s1 := 73) (by decide) hn
  have e0 : F 38 17 [.sc (ns.map Fz.D.int)] [] = .ok (.g 1, g0) := by rw [F17 (by decide)]; exact e0
  obtain ⟨w, ⟨g, rfl, p⟩, e⟩ := forL_mem (bind := asg (.nm 2)) (body := exB ⟨F 38, C⟩ b38_0) (post := postF [2, 3, 4, 5, 6, 7, 8, 9, 10, 11, 12, 13, 14, 15, 16, 17, 18, 20] false 0) (ok := fun _ => true)
    (fun w => ∃ g, w = ⟨[some (.sc (ns.map Fz.D.int)), some (.g 1), none, none, none, none, none, none, none, none, none, none, none, none, none, none, none, none, none, none, none], [], g⟩ ∧ Pot g) ((List.range 4).map fun j : Nat => .int j) ⟨[some (.sc (ns.map Fz.D.int)), some (.g 1), none, none, none, none, none, none, none, none, none, none, none, none, none, none, none, none, none, none, none], [], g0⟩ (by
      rintro x _ w rest ⟨g, rfl, p⟩
      obtain ⟨σ, g', p', hσ, e⟩ := turn (sc := ns) (x2 := x) p
      refine ⟨_, ⟨g', rfl, p'⟩, ?_⟩
      rw [forL_cons]
      show (R.of (some (⟨[some (.sc (ns.map Fz.D.int)), some (.g 1), some x, none, none, none, none, none, none, none, none, none, none, none, none, none, none, none, none, none, none], [], g⟩ : Wd))).bd _ = _
      simp only [R.of_some, R.bd_ok, e, postF, hσ]
      rfl) ⟨g0, rfl, p0⟩
  refine ⟨g, ?_⟩
  rw [F38 (by decide)]
  have r4 : rngF [.int 4] = some ((List.range 4).map fun t : Nat => Fz.D.int t) := rng_n (n := 4) (by decide)
  have s1 : exS ⟨F 38, C⟩ (.set (.nm 1) (.call 17 none (.cons (.v 0) .nil) .nil)) ⟨[some (.sc (ns.map Fz.D.int)), none, none, none, none, none, none, none, none, none, none, none, none, none, none, none, none, none, none, none, none], [], []⟩ = .ok (.nx, ⟨[some (.sc (ns.map Fz.D.int)), some (.g 1), none, none, none, none, none, none, none, none, none, none, none, none, none, none, none, none, none, none, none], [], g0⟩) := by
    simp [e0, arrD]
  have s2 : exS ⟨F 38, C⟩ (.for (.nm 2) (.rng (.cons (.k (.int 4)) .nil)) b38_0 [2, 3, 4, 5, 6, 7, 8, 9, 10, 11, 12, 13, 14, 15, 16, 17, 18, 20] false) ⟨[some (.sc (ns.map Fz.D.int)), some (.g 1), none, none, none, none, none, none, none, none, none, none, none, none, none, none, none, none, none, none, none], [], g0⟩ = .ok (.nx, ⟨[some (.sc (ns.map Fz.D.int)), some (.g 1), none, none, none, none, none, none, none, none, none, none, none, none, none, none, none, none, none, none, none], [], g⟩) := by
    rw [exS_for]
    simp only [evI_rng, evEs_cons, evEs_nil, evE_k, R.bd_ok, r4, R.of_some]
    exact e
  unfold b38
  refine exD_rt (w1 := ⟨[some (.sc (ns.map Fz.D.int)), some (.g 1), none, none, none, none, none, none, none, none, none, none, none, none, none, none, none, none, none, none, none], [], g⟩) (d := .bl true) ((exB_step s1).trans ((exB_step s2).trans ?_)) rfl
  simp
end K10

/-! the head of k10 (printed by wip/gen.py) -/
namespace K10
open PySem PySem.Spec PyProof.Rows L2 Fz
theorem ck : ckAll (tbOf ds fre cns bnd) 0 ds sts = true := by decide +kernel
theorem bn0 (kV doc pm : Value) (an : Option Addr) (cdv ct : Value) : ∀ (us ws zs : List Value), us.length = 3 → ws.length = 0 → arrD (none : Option (List Nat)) (us ++ ws) = some zs → bindArgs (PySem.W.fnOf (stName (topS 4)) (stName (topS 4)) (defArgs (topS 4)) (defBody (topS 4)) (defScope (topS 4)) .none kV doc pm an cdv ct) ⟨us, ([] : List Str).zip ws⟩ = pure (d0.ps.zip zs)
  | [_, _, _], [], _, _, _, e => by cases e; rfl
theorem bn1 (kV doc pm : Value) (an : Option Addr) (cdv ct : Value) : ∀ (us ws zs : List Value), us.length = 4 → ws.length = 0 → arrD (none : Option (List Nat)) (us ++ ws) = some zs → bindArgs (PySem.W.fnOf (stName (topS 5)) (stName (topS 5)) (defArgs (topS 5)) (defBody (topS 5)) (defScope (topS 5)) .none kV doc pm an cdv ct) ⟨us, ([] : List Str).zip ws⟩ = pure (d1.ps.zip zs)
  | [_, _, _, _], [], _, _, _, e => by cases e; rfl
theorem bn2 (kV doc pm : Value) (an : Option Addr) (cdv ct : Value) : ∀ (us ws zs : List Value), us.length = 3 → ws.length = 0 → arrD (none : Option (List Nat)) (us ++ ws) = some zs → bindArgs (PySem.W.fnOf (stName (topS 16)) (stName (topS 16)) (defArgs (topS 16)) (defBody (topS 16)) (defScope (topS 16)) .none kV doc pm an cdv ct) ⟨us, ([] : List Str).zip ws⟩ = pure (d10.ps.zip zs)
  | [_, _, _], [], _, _, _, e => by cases e; rfl
theorem bn3 (kV doc pm : Value) (an : Option Addr) (cdv ct : Value) : ∀ (us ws zs : List Value), us.length = 1 → ws.length = 0 → arrD (none : Option (List Nat)) (us ++ ws) = some zs → bindArgs (PySem.W.fnOf (stName (topS 18)) (stName (topS 18)) (defArgs (topS 18)) (defBody (topS 18)) (defScope (topS 18)) .none kV doc pm an cdv ct) ⟨us, ([] : List Str).zip ws⟩ = pure (d11.ps.zip zs)
  | [_], [], _, _, _, e => by cases e; rfl
theorem bn4 (kV doc pm : Value) (an : Option Addr) (cdv ct : Value) : ∀ (us ws zs : List Value), us.length = 3 → ws.length = 0 → arrD (none : Option (List Nat)) (us ++ ws) = some zs → bindArgs (PySem.W.fnOf (stName (topS 19)) (stName (topS 19)) (defArgs (topS 19)) (defBody (topS 19)) (defScope (topS 19)) .none kV doc pm an cdv ct) ⟨us, ([] : List Str).zip ws⟩ = pure (d12.ps.zip zs)
  | [_, _, _], [], _, _, _, e => by cases e; rfl
theorem bn5 (kV doc pm : Value) (an : Option Addr) (cdv ct : Value) : ∀ (us ws zs : List Value), us.length = 4 → ws.length = 0 → arrD (none : Option (List Nat)) (us ++ ws) = some zs → bindArgs (PySem.W.fnOf (stName (topS 21)) (stName (topS 21)) (defArgs (topS 21)) (defBody (topS 21)) (defScope (topS 21)) .none kV doc pm an cdv ct) ⟨us, ([] : List Str).zip ws⟩ = pure (d13.ps.zip zs)
  | [_, _, _, _], [], _, _, _, e => by cases e; rfl
theorem bn6 (kV doc pm : Value) (an : Option Addr) (cdv ct : Value) : ∀ (us ws zs : List Value), us.length = 3 → ws.length = 0 → arrD (none : Option (List Nat)) (us ++ ws) = some zs → bindArgs (PySem.W.fnOf (stName (topS 22)) (stName (topS 22)) (defArgs (topS 22)) (defBody (topS 22)) (defScope (topS 22)) .none kV doc pm an cdv ct) ⟨us, ([] : List Str).zip ws⟩ = pure (d14.ps.zip zs)
  | [_, _, _], [], _, _, _, e => by cases e; rfl
theorem bn7 (kV doc pm : Value) (an : Option Addr) (cdv ct : Value) : ∀ (us ws zs : List Value), us.length = 0 → ws.length = 3 → arrD (some [2, 1, 0]) (us ++ ws) = some zs → bindArgs (PySem.W.fnOf (stName (topS 23)) (stName (topS 23)) (defArgs (topS 23)) (defBody (topS 23)) (defScope (topS 23)) .none kV doc pm an cdv ct) ⟨us, (["space", "pairing", "p"] : List Str).zip ws⟩ = pure (d15.ps.zip zs)
  | [], [_, _, _], _, _, _, e => by cases e; rfl
theorem bn8 (kV doc pm : Value) (an : Option Addr) (cdv ct : Value) : ∀ (us ws zs : List Value), us.length = 3 → ws.length = 0 → arrD (none : Option (List Nat)) (us ++ ws) = some zs → bindArgs (PySem.W.fnOf (stName (topS 23)) (stName (topS 23)) (defArgs (topS 23)) (defBody (topS 23)) (defScope (topS 23)) .none kV doc pm an cdv ct) ⟨us, ([] : List Str).zip ws⟩ = pure (d15.ps.zip zs)
  | [_, _, _], [], _, _, _, e => by cases e; rfl
theorem bn9 (kV doc pm : Value) (an : Option Addr) (cdv ct : Value) : ∀ (us ws zs : List Value), us.length = 0 → ws.length = 2 → arrD (some [1, 0]) (us ++ ws) = some zs → bindArgs (PySem.W.fnOf (stName (topS 24)) (stName (topS 24)) (defArgs (topS 24)) (defBody (topS 24)) (defScope (topS 24)) .none kV doc pm an cdv ct) ⟨us, (["pairing", "p"] : List Str).zip ws⟩ = pure (d16.ps.zip zs)
  | [], [_, _], _, _, _, e => by cases e; rfl
theorem bn10 (kV doc pm : Value) (an : Option Addr) (cdv ct : Value) : ∀ (us ws zs : List Value), us.length = 2 → ws.length = 0 → arrD (none : Option (List Nat)) (us ++ ws) = some zs → bindArgs (PySem.W.fnOf (stName (topS 24)) (stName (topS 24)) (defArgs (topS 24)) (defBody (topS 24)) (defScope (topS 24)) .none kV doc pm an cdv ct) ⟨us, ([] : List Str).zip ws⟩ = pure (d16.ps.zip zs)
  | [_, _], [], _, _, _, e => by cases e; rfl
theorem bn11 (kV doc pm : Value) (an : Option Addr) (cdv ct : Value) : ∀ (us ws zs : List Value), us.length = 1 → ws.length = 0 → arrD (none : Option (List Nat)) (us ++ ws) = some zs → bindArgs (PySem.W.fnOf (stName (topS 26)) (stName (topS 26)) (defArgs (topS 26)) (defBody (topS 26)) (defScope (topS 26)) .none kV doc pm an cdv ct) ⟨us, ([] : List Str).zip ws⟩ = pure (d17.ps.zip zs)
  | [_], [], _, _, _, e => by cases e; rfl
theorem bn12 (kV doc pm : Value) (an : Option Addr) (cdv ct : Value) : ∀ (us ws zs : List Value), us.length = 2 → ws.length = 0 → arrD (none : Option (List Nat)) (us ++ ws) = some zs → bindArgs (PySem.W.fnOf (stName (topS 27)) (stName (topS 27)) (defArgs (topS 27)) (defBody (topS 27)) (defScope (topS 27)) .none kV doc pm an cdv ct) ⟨us, ([] : List Str).zip ws⟩ = pure (d18.ps.zip zs)
  | [_, _], [], _, _, _, e => by cases e; rfl
theorem bn13 (kV doc pm : Value) (an : Option Addr) (cdv ct : Value) : ∀ (us ws zs : List Value), us.length = 2 → ws.length = 0 → arrD (none : Option (List Nat)) (us ++ ws) = some zs → bindArgs (PySem.W.fnOf (stName (topS 28)) (stName (topS 28)) (defArgs (topS 28)) (defBody (topS 28)) (defScope (topS 28)) .none kV doc pm an cdv ct) ⟨us, ([] : List Str).zip ws⟩ = pure (d19.ps.zip zs)
  | [_, _], [], _, _, _, e => by cases e; rfl
theorem bn14 (kV doc pm : Value) (an : Option Addr) (cdv ct : Value) : ∀ (us ws zs : List Value), us.length = 2 → ws.length = 0 → arrD (none : Option (List Nat)) (us ++ ws) = some zs → bindArgs (PySem.W.fnOf (stName (topS 6)) (stName (topS 6)) (defArgs (topS 6)) (defBody (topS 6)) (defScope (topS 6)) .none kV doc pm an cdv ct) ⟨us, ([] : List Str).zip ws⟩ = pure (d2.ps.zip zs)
  | [_, _], [], _, _, _, e => by cases e; rfl
theorem bn15 (kV doc pm : Value) (an : Option Addr) (cdv ct : Value) : ∀ (us ws zs : List Value), us.length = 2 → ws.length = 0 → arrD (none : Option (List Nat)) (us ++ ws) = some zs → bindArgs (PySem.W.fnOf (stName (topS 29)) (stName (topS 29)) (defArgs (topS 29)) (defBody (topS 29)) (defScope (topS 29)) .none kV doc pm an cdv ct) ⟨us, ([] : List Str).zip ws⟩ = pure (d20.ps.zip zs)
  | [_, _], [], _, _, _, e => by cases e; rfl
theorem bn16 (kV doc pm : Value) (an : Option Addr) (cdv ct : Value) : ∀ (us ws zs : List Value), us.length = 1 → ws.length = 0 → arrD (none : Option (List Nat)) (us ++ ws) = some zs → bindArgs (PySem.W.fnOf (stName (topS 30)) (stName (topS 30)) (defArgs (topS 30)) (defBody (topS 30)) (defScope (topS 30)) .none kV doc pm an cdv ct) ⟨us, ([] : List Str).zip ws⟩ = pure (d21.ps.zip zs)
  | [_], [], _, _, _, e => by cases e; rfl
theorem bn17 (kV doc pm : Value) (an : Option Addr) (cdv ct : Value) : ∀ (us ws zs : List Value), us.length = 3 → ws.length = 0 → arrD (none : Option (List Nat)) (us ++ ws) = some zs → bindArgs (PySem.W.fnOf (stName (topS 31)) (stName (topS 31)) (defArgs (topS 31)) (defBody (topS 31)) (defScope (topS 31)) .none kV doc pm an cdv ct) ⟨us, ([] : List Str).zip ws⟩ = pure (d22.ps.zip zs)
  | [_, _, _], [], _, _, _, e => by cases e; rfl
theorem bn18 (kV doc pm : Value) (an : Option Addr) (cdv ct : Value) : ∀ (us ws zs : List Value), us.length = 4 → ws.length = 0 → arrD (none : Option (List Nat)) (us ++ ws) = some zs → bindArgs (PySem.W.fnOf (stName (topS 32)) (stName (topS 32)) (defArgs (topS 32)) (defBody (topS 32)) (defScope (topS 32)) .none kV doc pm an cdv ct) ⟨us, ([] : List Str).zip ws⟩ = pure (d23.ps.zip zs)
  | [_, _, _, _], [], _, _, _, e => by cases e; rfl
theorem bn19 (kV doc pm : Value) (an : Option Addr) (cdv ct : Value) : ∀ (us ws zs : List Value), us.length = 2 → ws.length = 0 → arrD (none : Option (List Nat)) (us ++ ws) = some zs → bindArgs (PySem.W.fnOf (stName (topS 33)) (stName (topS 33)) (defArgs (topS 33)) (defBody (topS 33)) (defScope (topS 33)) .none kV doc pm an cdv ct) ⟨us, ([] : List Str).zip ws⟩ = pure (d24.ps.zip zs)
  | [_, _], [], _, _, _, e => by cases e; rfl
theorem bn20 (kV doc pm : Value) (an : Option Addr) (cdv ct : Value) : ∀ (us ws zs : List Value), us.length = 2 → ws.length = 0 → arrD (none : Option (List Nat)) (us ++ ws) = some zs → bindArgs (PySem.W.fnOf (stName (topS 34)) (stName (topS 34)) (defArgs (topS 34)) (defBody (topS 34)) (defScope (topS 34)) .none kV doc pm an cdv ct) ⟨us, ([] : List Str).zip ws⟩ = pure (d25.ps.zip zs)
  | [_, _], [], _, _, _, e => by cases e; rfl
theorem bn21 (kV doc pm : Value) (an : Option Addr) (cdv ct : Value) : ∀ (us ws zs : List Value), us.length = 2 → ws.length = 0 → arrD (none : Option (List Nat)) (us ++ ws) = some zs → bindArgs (PySem.W.fnOf (stName (topS 35)) (stName (topS 35)) (defArgs (topS 35)) (defBody (topS 35)) (defScope (topS 35)) .none kV doc pm an cdv ct) ⟨us, ([] : List Str).zip ws⟩ = pure (d26.ps.zip zs)
  | [_, _], [], _, _, _, e => by cases e; rfl
theorem bn22 (kV doc pm : Value) (an : Option Addr) (cdv ct : Value) : ∀ (us ws zs : List Value), us.length = 1 → ws.length = 0 → arrD (none : Option (List Nat)) (us ++ ws) = some zs → bindArgs (PySem.W.fnOf (stName (topS 36)) (stName (topS 36)) (defArgs (topS 36)) (defBody (topS 36)) (defScope (topS 36)) .none kV doc pm an cdv ct) ⟨us, ([] : List Str).zip ws⟩ = pure (d27.ps.zip zs)
  | [_], [], _, _, _, e => by cases e; rfl
theorem bn23 (kV doc pm : Value) (an : Option Addr) (cdv ct : Value) : ∀ (us ws zs : List Value), us.length = 3 → ws.length = 0 → arrD (none : Option (List Nat)) (us ++ ws) = some zs → bindArgs (PySem.W.fnOf (stName (topS 37)) (stName (topS 37)) (defArgs (topS 37)) (defBody (topS 37)) (defScope (topS 37)) .none kV doc pm an cdv ct) ⟨us, ([] : List Str).zip ws⟩ = pure (d28.ps.zip zs)
  | [_, _, _], [], _, _, _, e => by cases e; rfl
theorem bn24 (kV doc pm : Value) (an : Option Addr) (cdv ct : Value) : ∀ (us ws zs : List Value), us.length = 3 → ws.length = 0 → arrD (none : Option (List Nat)) (us ++ ws) = some zs → bindArgs (PySem.W.fnOf (stName (topS 38)) (stName (topS 38)) (defArgs (topS 38)) (defBody (topS 38)) (defScope (topS 38)) .none kV doc pm an cdv ct) ⟨us, ([] : List Str).zip ws⟩ = pure (d29.ps.zip zs)
  | [_, _, _], [], _, _, _, e => by cases e; rfl
theorem bn25 (kV doc pm : Value) (an : Option Addr) (cdv ct : Value) : ∀ (us ws zs : List Value), us.length = 1 → ws.length = 0 → arrD (none : Option (List Nat)) (us ++ ws) = some zs → bindArgs (PySem.W.fnOf (stName (topS 7)) (stName (topS 7)) (defArgs (topS 7)) (defBody (topS 7)) (defScope (topS 7)) .none kV doc pm an cdv ct) ⟨us, ([] : List Str).zip ws⟩ = pure (d3.ps.zip zs)
  | [_], [], _, _, _, e => by cases e; rfl
theorem bn26 (kV doc pm : Value) (an : Option Addr) (cdv ct : Value) : ∀ (us ws zs : List Value), us.length = 3 → ws.length = 0 → arrD (none : Option (List Nat)) (us ++ ws) = some zs → bindArgs (PySem.W.fnOf (stName (topS 39)) (stName (topS 39)) (defArgs (topS 39)) (defBody (topS 39)) (defScope (topS 39)) .none kV doc pm an cdv ct) ⟨us, ([] : List Str).zip ws⟩ = pure (d30.ps.zip zs)
  | [_, _, _], [], _, _, _, e => by cases e; rfl
theorem bn27 (kV doc pm : Value) (an : Option Addr) (cdv ct : Value) : ∀ (us ws zs : List Value), us.length = 3 → ws.length = 0 → arrD (none : Option (List Nat)) (us ++ ws) = some zs → bindArgs (PySem.W.fnOf (stName (topS 40)) (stName (topS 40)) (defArgs (topS 40)) (defBody (topS 40)) (defScope (topS 40)) .none kV doc pm an cdv ct) ⟨us, ([] : List Str).zip ws⟩ = pure (d31.ps.zip zs)
  | [_, _, _], [], _, _, _, e => by cases e; rfl
theorem bn28 (kV doc pm : Value) (an : Option Addr) (cdv ct : Value) : ∀ (us ws zs : List Value), us.length = 3 → ws.length = 0 → arrD (none : Option (List Nat)) (us ++ ws) = some zs → bindArgs (PySem.W.fnOf (stName (topS 41)) (stName (topS 41)) (defArgs (topS 41)) (defBody (topS 41)) (defScope (topS 41)) .none kV doc pm an cdv ct) ⟨us, ([] : List Str).zip ws⟩ = pure (d32.ps.zip zs)
  | [_, _, _], [], _, _, _, e => by cases e; rfl
theorem bn29 (kV doc pm : Value) (an : Option Addr) (cdv ct : Value) : ∀ (us ws zs : List Value), us.length = 4 → ws.length = 0 → arrD (none : Option (List Nat)) (us ++ ws) = some zs → bindArgs (PySem.W.fnOf (stName (topS 42)) (stName (topS 42)) (defArgs (topS 42)) (defBody (topS 42)) (defScope (topS 42)) .none kV doc pm an cdv ct) ⟨us, ([] : List Str).zip ws⟩ = pure (d33.ps.zip zs)
  | [_, _, _, _], [], _, _, _, e => by cases e; rfl
theorem bn30 (kV doc pm : Value) (an : Option Addr) (cdv ct : Value) : ∀ (us ws zs : List Value), us.length = 4 → ws.length = 0 → arrD (none : Option (List Nat)) (us ++ ws) = some zs → bindArgs (PySem.W.fnOf (stName (topS 43)) (stName (topS 43)) (defArgs (topS 43)) (defBody (topS 43)) (defScope (topS 43)) .none kV doc pm an cdv ct) ⟨us, ([] : List Str).zip ws⟩ = pure (d34.ps.zip zs)
  | [_, _, _, _], [], _, _, _, e => by cases e; rfl
theorem bn31 (kV doc pm : Value) (an : Option Addr) (cdv ct : Value) : ∀ (us ws zs : List Value), us.length = 1 → ws.length = 0 → arrD (none : Option (List Nat)) (us ++ ws) = some zs → bindArgs (PySem.W.fnOf (stName (topS 44)) (stName (topS 44)) (defArgs (topS 44)) (defBody (topS 44)) (defScope (topS 44)) .none kV doc pm an cdv ct) ⟨us, ([] : List Str).zip ws⟩ = pure (d35.ps.zip zs)
  | [_], [], _, _, _, e => by cases e; rfl
theorem bn32 (kV doc pm : Value) (an : Option Addr) (cdv ct : Value) : ∀ (us ws zs : List Value), us.length = 3 → ws.length = 0 → arrD (none : Option (List Nat)) (us ++ ws) = some zs → bindArgs (PySem.W.fnOf (stName (topS 45)) (stName (topS 45)) (defArgs (topS 45)) (defBody (topS 45)) (defScope (topS 45)) .none kV doc pm an cdv ct) ⟨us, ([] : List Str).zip ws⟩ = pure (d36.ps.zip zs)
  | [_, _, _], [], _, _, _, e => by cases e; rfl
theorem bn33 (kV doc pm : Value) (an : Option Addr) (cdv ct : Value) : ∀ (us ws zs : List Value), us.length = 3 → ws.length = 0 → arrD (none : Option (List Nat)) (us ++ ws) = some zs → bindArgs (PySem.W.fnOf (stName (topS 46)) (stName (topS 46)) (defArgs (topS 46)) (defBody (topS 46)) (defScope (topS 46)) .none kV doc pm an cdv ct) ⟨us, ([] : List Str).zip ws⟩ = pure (d37.ps.zip zs)
  | [_, _, _], [], _, _, _, e => by cases e; rfl
theorem bn34 (kV doc pm : Value) (an : Option Addr) (cdv ct : Value) : ∀ (us ws zs : List Value), us.length = 2 → ws.length = 0 → arrD (none : Option (List Nat)) (us ++ ws) = some zs → bindArgs (PySem.W.fnOf (stName (topS 8)) (stName (topS 8)) (defArgs (topS 8)) (defBody (topS 8)) (defScope (topS 8)) .none kV doc pm an cdv ct) ⟨us, ([] : List Str).zip ws⟩ = pure (d4.ps.zip zs)
  | [_, _], [], _, _, _, e => by cases e; rfl
theorem bn35 (kV doc pm : Value) (an : Option Addr) (cdv ct : Value) : ∀ (us ws zs : List Value), us.length = 3 → ws.length = 0 → arrD (none : Option (List Nat)) (us ++ ws) = some zs → bindArgs (PySem.W.fnOf (stName (topS 10)) (stName (topS 10)) (defArgs (topS 10)) (defBody (topS 10)) (defScope (topS 10)) .none kV doc pm an cdv ct) ⟨us, ([] : List Str).zip ws⟩ = pure (d5.ps.zip zs)
  | [_, _, _], [], _, _, _, e => by cases e; rfl
theorem bn36 (kV doc pm : Value) (an : Option Addr) (cdv ct : Value) : ∀ (us ws zs : List Value), us.length = 3 → ws.length = 0 → arrD (none : Option (List Nat)) (us ++ ws) = some zs → bindArgs (PySem.W.fnOf (stName (topS 11)) (stName (topS 11)) (defArgs (topS 11)) (defBody (topS 11)) (defScope (topS 11)) .none kV doc pm an cdv ct) ⟨us, ([] : List Str).zip ws⟩ = pure (d6.ps.zip zs)
  | [_, _, _], [], _, _, _, e => by cases e; rfl
theorem bn37 (kV doc pm : Value) (an : Option Addr) (cdv ct : Value) : ∀ (us ws zs : List Value), us.length = 3 → ws.length = 0 → arrD (none : Option (List Nat)) (us ++ ws) = some zs → bindArgs (PySem.W.fnOf (stName (topS 12)) (stName (topS 12)) (defArgs (topS 12)) (defBody (topS 12)) (defScope (topS 12)) .none kV doc pm an cdv ct) ⟨us, ([] : List Str).zip ws⟩ = pure (d7.ps.zip zs)
  | [_, _, _], [], _, _, _, e => by cases e; rfl
theorem bn38 (kV doc pm : Value) (an : Option Addr) (cdv ct : Value) : ∀ (us ws zs : List Value), us.length = 1 → ws.length = 0 → arrD (none : Option (List Nat)) (us ++ ws) = some zs → bindArgs (PySem.W.fnOf (stName (topS 13)) (stName (topS 13)) (defArgs (topS 13)) (defBody (topS 13)) (defScope (topS 13)) .none kV doc pm an cdv ct) ⟨us, ([] : List Str).zip ws⟩ = pure (d8.ps.zip zs)
  | [_], [], _, _, _, e => by cases e; rfl
theorem bn39 (kV doc pm : Value) (an : Option Addr) (cdv ct : Value) : ∀ (us ws zs : List Value), us.length = 2 → ws.length = 0 → arrD (none : Option (List Nat)) (us ++ ws) = some zs → bindArgs (PySem.W.fnOf (stName (topS 15)) (stName (topS 15)) (defArgs (topS 15)) (defBody (topS 15)) (defScope (topS 15)) .none kV doc pm an cdv ct) ⟨us, ([] : List Str).zip ws⟩ = pure (d9.ps.zip zs)
  | [_, _], [], _, _, _, e => by cases e; rfl
theorem bnds : BindsAll ds sts bnd := by
  intro b hb d st h1 h2
  have hb : b ∈ ([((0, 3, [], none) : Nat × Nat × List Str × Option (List Nat)), ((1, 4, [], none) : Nat × Nat × List Str × Option (List Nat)), ((10, 3, [], none) : Nat × Nat × List Str × Option (List Nat)), ((11, 1, [], none) : Nat × Nat × List Str × Option (List Nat)), ((12, 3, [], none) : Nat × Nat × List Str × Option (List Nat)), ((13, 4, [], none) : Nat × Nat × List Str × Option (List Nat)), ((14, 3, [], none) : Nat × Nat × List Str × Option (List Nat)), ((15, 0, ["space", "pairing", "p"], some [2, 1, 0]) : Nat × Nat × List Str × Option (List Nat)), ((15, 3, [], none) : Nat × Nat × List Str × Option (List Nat)), ((16, 0, ["pairing", "p"], some [1, 0]) : Nat × Nat × List Str × Option (List Nat)), ((16, 2, [], none) : Nat × Nat × List Str × Option (List Nat)), ((17, 1, [], none) : Nat × Nat × List Str × Option (List Nat)), ((18, 2, [], none) : Nat × Nat × List Str × Option (List Nat)), ((19, 2, [], none) : Nat × Nat × List Str × Option (List Nat)), ((2, 2, [], none) : Nat × Nat × List Str × Option (List Nat)), ((20, 2, [], none) : Nat × Nat × List Str × Option (List Nat)), ((21, 1, [], none) : Nat × Nat × List Str × Option (List Nat)), ((22, 3, [], none) : Nat × Nat × List Str × Option (List Nat)), ((23, 4, [], none) : Nat × Nat × List Str × Option (List Nat)), ((24, 2, [], none) : Nat × Nat × List Str × Option (List Nat)), ((25, 2, [], none) : Nat × Nat × List Str × Option (List Nat)), ((26, 2, [], none) : Nat × Nat × List Str × Option (List Nat)), ((27, 1, [], none) : Nat × Nat × List Str × Option (List Nat)), ((28, 3, [], none) : Nat × Nat × List Str × Option (List Nat)), ((29, 3, [], none) : Nat × Nat × List Str × Option (List Nat)), ((3, 1, [], none) : Nat × Nat × List Str × Option (List Nat)), ((30, 3, [], none) : Nat × Nat × List Str × Option (List Nat)), ((31, 3, [], none) : Nat × Nat × List Str × Option (List Nat)), ((32, 3, [], none) : Nat × Nat × List Str × Option (List Nat)), ((33, 4, [], none) : Nat × Nat × List Str × Option (List Nat)), ((34, 4, [], none) : Nat × Nat × List Str × Option (List Nat)), ((35, 1, [], none) : Nat × Nat × List Str × Option (List Nat)), ((36, 3, [], none) : Nat × Nat × List Str × Option (List Nat)), ((37, 3, [], none) : Nat × Nat × List Str × Option (List Nat)), ((4, 2, [], none) : Nat × Nat × List Str × Option (List Nat)), ((5, 3, [], none) : Nat × Nat × List Str × Option (List Nat)), ((6, 3, [], none) : Nat × Nat × List Str × Option (List Nat)), ((7, 3, [], none) : Nat × Nat × List Str × Option (List Nat)), ((8, 1, [], none) : Nat × Nat × List Str × Option (List Nat)), ((9, 2, [], none) : Nat × Nat × List Str × Option (List Nat))] : List (Nat × Nat × List Str × Option (List Nat))) := hb
  simp only [List.mem_cons, List.not_mem_nil, or_false] at hb
  rcases hb with rfl | rfl | rfl | rfl | rfl | rfl | rfl | rfl | rfl | rfl | rfl | rfl | rfl | rfl | rfl | rfl | rfl | rfl | rfl | rfl | rfl | rfl | rfl | rfl | rfl | rfl | rfl | rfl | rfl | rfl | rfl | rfl | rfl | rfl | rfl | rfl | rfl | rfl | rfl | rfl
  · cases h1; cases h2; exact fun kV doc pm an cdv ct us ws zs l1 l2 e => bn0 kV doc pm an cdv ct us ws zs l1 l2 e
  · cases h1; cases h2; exact fun kV doc pm an cdv ct us ws zs l1 l2 e => bn1 kV doc pm an cdv ct us ws zs l1 l2 e
  · cases h1; cases h2; exact fun kV doc pm an cdv ct us ws zs l1 l2 e => bn2 kV doc pm an cdv ct us ws zs l1 l2 e
  · cases h1; cases h2; exact fun kV doc pm an cdv ct us ws zs l1 l2 e => bn3 kV doc pm an cdv ct us ws zs l1 l2 e
  · cases h1; cases h2; exact fun kV doc pm an cdv ct us ws zs l1 l2 e => bn4 kV doc pm an cdv ct us ws zs l1 l2 e
  · cases h1; cases h2; exact fun kV doc pm an cdv ct us ws zs l1 l2 e => bn5 kV doc pm an cdv ct us ws zs l1 l2 e
  · cases h1; cases h2; exact fun kV doc pm an cdv ct us ws zs l1 l2 e => bn6 kV doc pm an cdv ct us ws zs l1 l2 e
  · cases h1; cases h2; exact fun kV doc pm an cdv ct us ws zs l1 l2 e => bn7 kV doc pm an cdv ct us ws zs l1 l2 e
  · cases h1; cases h2; exact fun kV doc pm an cdv ct us ws zs l1 l2 e => bn8 kV doc pm an cdv ct us ws zs l1 l2 e
  · cases h1; cases h2; exact fun kV doc pm an cdv ct us ws zs l1 l2 e => bn9 kV doc pm an cdv ct us ws zs l1 l2 e
  · cases h1; cases h2; exact fun kV doc pm an cdv ct us ws zs l1 l2 e => bn10 kV doc pm an cdv ct us ws zs l1 l2 e
  · cases h1; cases h2; exact fun kV doc pm an cdv ct us ws zs l1 l2 e => bn11 kV doc pm an cdv ct us ws zs l1 l2 e
  · cases h1; cases h2; exact fun kV doc pm an cdv ct us ws zs l1 l2 e => bn12 kV doc pm an cdv ct us ws zs l1 l2 e
  · cases h1; cases h2; exact fun kV doc pm an cdv ct us ws zs l1 l2 e => bn13 kV doc pm an cdv ct us ws zs l1 l2 e
  · cases h1; cases h2; exact fun kV doc pm an cdv ct us ws zs l1 l2 e => bn14 kV doc pm an cdv ct us ws zs l1 l2 e
  · cases h1; cases h2; exact fun kV doc pm an cdv ct us ws zs l1 l2 e => bn15 kV doc pm an cdv ct us ws zs l1 l2 e
  · cases h1; cases h2; exact fun kV doc pm an cdv ct us ws zs l1 l2 e => bn16 kV doc pm an cdv ct us ws zs l1 l2 e
  · cases h1; cases h2; exact fun kV doc pm an cdv ct us ws zs l1 l2 e => bn17 kV doc pm an cdv ct us ws zs l1 l2 e
  · cases h1; cases h2; exact fun kV doc pm an cdv ct us ws zs l1 l2 e => bn18 kV doc pm an cdv ct us ws zs l1 l2 e
  · cases h1; cases h2; exact fun kV doc pm an cdv ct us ws zs l1 l2 e => bn19 kV doc pm an cdv ct us ws zs l1 l2 e
  · cases h1; cases h2; exact fun kV doc pm an cdv ct us ws zs l1 l2 e => bn20 kV doc pm an cdv ct us ws zs l1 l2 e
  · cases h1; cases h2; exact fun kV doc pm an cdv ct us ws zs l1 l2 e => bn21 kV doc pm an cdv ct us ws zs l1 l2 e
  · cases h1; cases h2; exact fun kV doc pm an cdv ct us ws zs l1 l2 e => bn22 kV doc pm an cdv ct us ws zs l1 l2 e
  · cases h1; cases h2; exact fun kV doc pm an cdv ct us ws zs l1 l2 e => bn23 kV doc pm an cdv ct us ws zs l1 l2 e
  · cases h1; cases h2; exact fun kV doc pm an cdv ct us ws zs l1 l2 e => bn24 kV doc pm an cdv ct us ws zs l1 l2 e
  · cases h1; cases h2; exact fun kV doc pm an cdv ct us ws zs l1 l2 e => bn25 kV doc pm an cdv ct us ws zs l1 l2 e
  · cases h1; cases h2; exact fun kV doc pm an cdv ct us ws zs l1 l2 e => bn26 kV doc pm an cdv ct us ws zs l1 l2 e
  · cases h1; cases h2; exact fun kV doc pm an cdv ct us ws zs l1 l2 e => bn27 kV doc pm an cdv ct us ws zs l1 l2 e
  · cases h1; cases h2; exact fun kV doc pm an cdv ct us ws zs l1 l2 e => bn28 kV doc pm an cdv ct us ws zs l1 l2 e
  · cases h1; cases h2; exact fun kV doc pm an cdv ct us ws zs l1 l2 e => bn29 kV doc pm an cdv ct us ws zs l1 l2 e
  · cases h1; cases h2; exact fun kV doc pm an cdv ct us ws zs l1 l2 e => bn30 kV doc pm an cdv ct us ws zs l1 l2 e
  · cases h1; cases h2; exact fun kV doc pm an cdv ct us ws zs l1 l2 e => bn31 kV doc pm an cdv ct us ws zs l1 l2 e
  · cases h1; cases h2; exact fun kV doc pm an cdv ct us ws zs l1 l2 e => bn32 kV doc pm an cdv ct us ws zs l1 l2 e
  · cases h1; cases h2; exact fun kV doc pm an cdv ct us ws zs l1 l2 e => bn33 kV doc pm an cdv ct us ws zs l1 l2 e
  · cases h1; cases h2; exact fun kV doc pm an cdv ct us ws zs l1 l2 e => bn34 kV doc pm an cdv ct us ws zs l1 l2 e
  · cases h1; cases h2; exact fun kV doc pm an cdv ct us ws zs l1 l2 e => bn35 kV doc pm an cdv ct us ws zs l1 l2 e
  · cases h1; cases h2; exact fun kV doc pm an cdv ct us ws zs l1 l2 e => bn36 kV doc pm an cdv ct us ws zs l1 l2 e
  · cases h1; cases h2; exact fun kV doc pm an cdv ct us ws zs l1 l2 e => bn37 kV doc pm an cdv ct us ws zs l1 l2 e
  · cases h1; cases h2; exact fun kV doc pm an cdv ct us ws zs l1 l2 e => bn38 kV doc pm an cdv ct us ws zs l1 l2 e
  · cases h1; cases h2; exact fun kV doc pm an cdv ct us ws zs l1 l2 e => bn39 kV doc pm an cdv ct us ws zs l1 l2 e
def fn : List He.DefD := sts.map dOf
def fa : List He.Fa := faOf ds fre cns
abbrev Rw : PySem.W.OpenRow := PySem.W.OpenLaw.row PySem.Challenge.rw_formspaces_k10_whole_main_far_rows
abbrev hk : PySem.W.Hook := He.hookD 4 fa fn
def ob (s : PySem.W.SharedT) : He.AlD := He.obsDG 4 fa fn (HandSHeadRun.getT s)
theorem ob_eq (s : PySem.W.SharedT) : ob s = hk.obs s.abs := He.obsDG_eq (HandSHeadRun.getT_eq s)
def loose_0 : List Str := ["row_times", "row_with", "turned_back", "head_of", "point_of", "reduced", "stepped_with", "space_of", "heads_of", "unit_row", "dot_space", "unit_square", "row_led", "pairing_at", "moved_pairing", "far_rows", "bare_rows", "_law_pot", "_law_of", "_law_one"]
def loose_1 : List Str := ["_law_order", "_law_flat", "_law_power", "_law_less", "_law_reduced", "_law_cells", "_law_space", "_law_head", "_law_dots", "_law_row", "_law_some_space", "_law_led", "_law_square", "_law_at", "_law_far", "_law_unit", "_law_moved", "_law_pairing", "SpaceError", "Unfit"]
def loose : List Str := loose_0 ++ loose_1
theorem run (w : World) : HandSHeadRun.RunEq Rw (PySem.W.view Rw.prog [47]) hk ob 3880 loose w := by
  intro os
  kernel_rfl
end K10
open PySem PySem.W PySem.Calls PyProof.Rows in
theorem PySem.Challenge.cw_formspaces_k10_whole_main_far_rows_holds : PySem.Challenge.rw_formspaces_k10_whole_main_far_rows.Holds := by
  w_on; o_law
  refine HandSHeadRun.head_any (r := K10.Rw) (q := view K10.Rw.prog [47]) (H := K10.hk) (ob := K10.ob) (M := 3880) (loose := K10.loose) (d := HandSHeadRun.topDef K10.Rw.prog 47) (kwd := []) K10.ob_eq
    (by kernel_rfl) (fun s => by kernel_rfl) K10.run (by kernel_rfl) (by kernel_rfl) (by kernel_rfl) (by rfl) (by first | assumption | decide +kernel) (by decide +kernel) ⟨rfl, rfl, rfl, rfl, rfl, by decide +kernel⟩ ?hw ?hc
  case hw => w_witness2
  case hc =>
    refine Fz.walk_ofG (l := PySem.Challenge.rw_formspaces_k10_whole_main_far_rows) (n := 63) (k := 39) (x := "script") (Fl := K10.F 39 38) rfl (by decide) (by kernel_rfl) ⟨rfl, by decide, by decide⟩ ?F (fun ns h => K10.main ns h)
    intro w mg fa h Y G hmg0
    obtain ⟨K, KX, c⟩ := Y
    have hmg : mg ("law" : PySem.Str) = some (.ref fa) := by
      have e : (HandSHeadRun.topDef K10.Rw.prog 47).name = ("law" : PySem.Str) := by kernel_rfl
      rw [← e]
      exact hmg0
    refine ⟨K, ?_⟩
    obtain ⟨fd, F, g, J, _⟩ := Fz.all_ok (P := (PySem.Challenge.rw_formspaces_k10_whole_main_far_rows).prog) (w := w) KX G c K10.ck K10.bnds 38 K10.d38 rfl
    exact Fz.end_ok (d := K10.d38) ⟨fd, F, g, J, fun _ _ _ _ => trivial⟩ rfl (fun f fd F s u => L2.FunD.bindsA (ps := ["script"]) F (fun _ _ _ _ _ _ us hl => match us, hl with | [_], _ => rfl) s [u] rfl) KX hmg
