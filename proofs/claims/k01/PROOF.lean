import PyProof.Rows.All
import HandS.ForMost
import HandS.Style
import HandS.Flow
import HandS.TupAny
import HandS.Wide
import HandS.Deep
import HandS.TupMul
import HandS.SortInts
import HandS.TupSets
import HandS.ExcIs
import HandS.ExcField
import HandS.ExcInit
import HandS.TryOnly
import HandS.Exc
import KE.KSuper
import HandS.Ends
import KE.KExcSuper
import KE.KUnpack
import KE.GoesEnum
import HandS.Zip
import PyProof.Rows.ChunkLeaf
import HandS.Conv
import HandS.IsInst
import HandS.Defaults
import HandS.More
import HandS.WordsExc
import HandS.Head0
import HandS.Head1
import HandS.Head2
import HandS.HeadEnd
import HandS.HeadHook1
import HandS.HeadHook2
import KE.DataEq
import PyProof.Rows.StrJoinMade
import PyProof.StrLawsRepr
import PyProof.Rows.ReprOcc
import PySem.Challenge.RW_formspaces_k01_rows_judged
set_option Elab.async false
set_option linter.all false
set_option maxRecDepth 100000
set_option maxHeartbeats 4000000
/-! Q1: data, own syntax, the pure evaluator. -/
namespace Fz
open PySem

inductive D where
  | non | bl (b : Bool) | int (i : Int) | str (s : Str)
  | tup (ds : List D) | lst (ds : List D) | fl (ds : List D) | sc (ds : List D)
  | ref (k : Nat) | g (k : Nat)
  /-- a dict with texts as keys, never changed -/
  | dic (ks : List Str) (ds : List D)
  deriving Inhabited

inductive R (α : Type) where
  | ok (a : α) | exc (c : Str) (ds : List D) (g : List (List D)) | err

def R.bd {α β : Type} (r : R α) (f : α → R β) : R β := match r with
  | .ok a => f a
  | .exc c ds g => .exc c ds g
  | .err => .err
@[simp] theorem R.bd_ok {α β : Type} (a : α) (f : α → R β) : (R.ok a).bd f = f a := .trans rfl rfl
@[simp] theorem R.bd_exc {α β : Type} (c ds g) (f : α → R β) : (R.exc c ds g : R α).bd f = .exc c ds g := .trans rfl rfl
@[simp] theorem R.bd_err {α β : Type} (f : α → R β) : (R.err : R α).bd f = .err := .trans rfl rfl
def R.of {α : Type} : Option α → R α
  | some a => .ok a
  | none => .err
@[simp] theorem R.of_some {α : Type} (a : α) : R.of (some a) = .ok a := .trans rfl rfl
@[simp] theorem R.of_none {α : Type} : R.of (none : Option α) = .err := .trans rfl rfl

structure Wd where
  σ : List (Option D)
  m : List (List D)
  g : List (List D)

/-! ### equality of data, by structure -/
mutual
def deq : D → D → Bool
  | .non, .non => true
  | .bl a, .bl b => a == b
  | .int a, .int b => decide (a = b)
  | .str a, .str b => decide (a = b)
  | .tup a, .tup b => deqL a b
  | .lst a, .lst b => deqL a b
  | .fl a, .fl b => deqL a b
  | .sc a, .sc b => deqL a b
  | .ref a, .ref b => a == b
  | .g a, .g b => a == b
  | .dic ks a, .dic js b => decide (ks = js) && deqL a b
  | _, _ => false
def deqL : List D → List D → Bool
  | [], [] => true
  | x :: xs, y :: ys => deq x y && deqL xs ys
  | _, _ => false
end
mutual
theorem deq_refl : ∀ d : D, deq d d = true
  | .non => rfl
  | .bl b => by simp [deq]
  | .int _ => by simp [deq]
  | .str _ => by simp [deq]
  | .tup ds => by simpa [deq] using deqL_refl ds
  | .lst ds => by simpa [deq] using deqL_refl ds
  | .fl ds => by simpa [deq] using deqL_refl ds
  | .sc ds => by simpa [deq] using deqL_refl ds
  | .ref _ => by simp [deq]
  | .g _ => by simp [deq]
  | .dic ks ds => by simpa [deq] using deqL_refl ds
theorem deqL_refl : ∀ ds : List D, deqL ds ds = true
  | [] => rfl
  | x :: xs => by simp [deqL, deq_refl x, deqL_refl xs]
end
mutual
theorem deq_eq : ∀ d e : D, deq d e = true → d = e
  | .non, e, h => by cases e <;> first | rfl | (simp [deq] at h)
  | .bl b, e, h => by cases e <;> simp_all [deq]
  | .int b, e, h => by cases e <;> simp_all [deq]
  | .str b, e, h => by cases e <;> simp_all [deq]
  | .tup ds, e, h => by
    cases e with
    | tup es => rw [deqL_eq ds es (by simpa [deq] using h)]
    | _ => simp [deq] at h
  | .lst ds, e, h => by
    cases e with
    | lst es => rw [deqL_eq ds es (by simpa [deq] using h)]
    | _ => simp [deq] at h
  | .fl ds, e, h => by
    cases e with
    | fl es => rw [deqL_eq ds es (by simpa [deq] using h)]
    | _ => simp [deq] at h
  | .sc ds, e, h => by
    cases e with
    | sc es => rw [deqL_eq ds es (by simpa [deq] using h)]
    | _ => simp [deq] at h
  | .ref k, e, h => by cases e <;> simp_all [deq]
  | .g k, e, h => by cases e <;> simp_all [deq]
  | .dic ks ds, e, h => by
    cases e with
    | dic js es =>
      have h := (Bool.and_eq_true_iff.mp (show (decide (ks = js) && deqL ds es) = true by simpa [deq] using h))
      rw [deqL_eq ds es h.2, of_decide_eq_true h.1]
    | _ => simp [deq] at h
theorem deqL_eq : ∀ ds es : List D, deqL ds es = true → ds = es
  | [], es, h => by cases es <;> simp_all [deqL]
  | x :: xs, es, h => by
    cases es with
    | nil => simp [deqL] at h
    | cons y ys =>
      simp only [deqL, Bool.and_eq_true] at h
      rw [deq_eq x y h.1, deqL_eq xs ys h.2]
end

/-! ### looking at data -/
/-- a cell that is an own dict: one item, a .dic whose keys are no keys; its pairs, key and value -/
def isDc : List D → Bool
  | .dic ks _ :: _ => !decide ks.Nodup
  | _ => false
def dcl (es : List D) : List D := [.dic ["", ""] es]
def lsq (xs : List D) : Option (List D) := if isDc xs then none else some xs
def Wd.seq (w : Wd) : D → Option (List D)
  | .tup ds => some ds
  | .lst ds => some ds
  | .fl ds => some ds
  | .sc ds => some ds
  | .ref k => (w.m[k]?).bind lsq
  | .g k => w.g[k]?
  | _ => none
def isT : D → Bool
  | .tup _ => true
  | _ => false
/-- a list that stands tracked (no tuple, no frozen script) -/
def isL : D → Bool
  | .lst _ => true
  | .fl _ => true
  | .ref _ => true
  | .g _ => true
  | _ => false
/-- a text's, a list's .. truth -/
def Wd.tru (w : Wd) : D → Option Bool
  | .non => some false
  | .bl b => some b
  | .int i => some (i != 0)
  | .str s => if s.length ≤ 1000000 then some (s.length != 0) else none
  | d => (w.seq d).map fun xs => !xs.isEmpty

-- refs turned by ρ; φ: borrowed lists may stand
mutual
def rs (ρ : Nat → Option D) (φ : Bool) : D → Option D
  | .non => some .non
  | .bl b => some (.bl b)
  | .int i => some (.int i)
  | .str s => some (.str s)
  | .tup ds => (rsL ρ φ ds).map D.tup
  | .lst ds => (rsL ρ φ ds).map D.lst
  | .fl ds => if φ then (rsL ρ φ ds).map D.fl else none
  | .sc ds => if φ then (rsL ρ φ ds).map D.sc else none
  | .ref k => ρ k
  | .g k => some (.g k)
  | .dic ks ds => (rsL ρ φ ds).map (D.dic ks)
def rsL (ρ : Nat → Option D) (φ : Bool) : List D → Option (List D)
  | [] => some []
  | x :: xs => (rs ρ φ x).bind fun y => (rsL ρ φ xs).map fun ys => y :: ys
end
/-- refs from L on turned into what they hold -/
def up (mk : List D → D) (L : Nat) (m : List (List D)) (φ : Bool) : Nat → Nat → Option D
  | 0, k => if k < L then some (.ref k) else none
  | n + 1, k => if k < L then some (.ref k) else ((m[k]?).bind lsq).bind fun ds => (rsL (up mk L m φ n) φ ds).map mk
def lend (w : Wd) (d : D) : Option D := rs (up D.fl 0 w.m true 4) true d
def give (w : Wd) (d : D) : Option D := rs (up D.lst 0 w.m false 4) false d
def lendL (w : Wd) (ds : List D) : Option (List D) := rsL (up D.fl 0 w.m true 4) true ds
def keep (L : Nat) (m : List (List D)) : Nat → Option D := up D.lst L m true 4
def keepO (L : Nat) (m : List (List D)) : List (Option D) → Option (List (Option D))
  | [] => some []
  | none :: r => (keepO L m r).map fun xs => none :: xs
  | some d :: r => (rs (keep L m) true d).bind fun y => (keepO L m r).map fun xs => some y :: xs
def keepM (L : Nat) (m : List (List D)) : List (List D) → Option (List (List D))
  | [] => some []
  | x :: r => (rsL (keep L m) true x).bind fun y => (keepM L m r).map fun xs => y :: xs
/-- all own lists from L on are frozen -/
def Wd.gc (w : Wd) (L : Nat) : Option Wd :=
  (keepO L w.m w.σ).bind fun σ => (keepM L w.m (w.m.take L)).map fun m => { w with σ := σ, m := m }

-- as the model's data
mutual
def py (ρ γ : Nat → Option PyData) : D → Option PyData
  | .non => some .none
  | .bl b => some (.bool b)
  | .int i => some (.int i)
  | .str s => some (.str s)
  | .tup ds => (pyL ρ γ ds).map PyData.tuple
  | .lst ds => (pyL ρ γ ds).map PyData.list
  | .fl ds => (pyL ρ γ ds).map PyData.list
  | .sc ds => (pyL ρ γ ds).map PyData.list
  | .ref k => ρ k
  | .g k => γ k
  | .dic ks ds => if ks.isEmpty && ds.isEmpty then some (.dict []) else none
def pyL (ρ γ : Nat → Option PyData) : List D → Option (List PyData)
  | [] => some []
  | x :: xs => (py ρ γ x).bind fun y => (pyL ρ γ xs).map fun ys => y :: ys
end
/-- own lists (b: true), shared ones (b: false), nested at most four deep -/
def pyR (w : Wd) : Nat → Bool → Nat → Option PyData
  | 0, _, _ => none
  | n + 1, b, k => ((if b then w.m[k]? else w.g[k]?).bind fun ds => (pyL (pyR w n true) (pyR w n false) ds).map PyData.list)
def Wd.py (w : Wd) (d : D) : Option PyData := Fz.py (pyR w 4 true) (pyR w 4 false) d

/-- what a shared list may hold -/
def gOk : D → Bool
  | .non => true
  | .bl _ => true
  | .int _ => true
  | .str _ => true
  | .g _ => true
  | _ => false
def mxLen : Nat := 1000000
def newL (md : Nat) (xs : List D) (w : Wd) : R (D × Wd) :=
  if xs.length ≤ mxLen then
    match md with
    | 0 => .ok (.lst xs, w)
    | 1 => .ok (.ref w.m.length, { w with m := w.m ++ [xs] })
    | _ => if xs.all gOk then .ok (.g w.g.length, { w with g := w.g ++ [xs] }) else .err
  else .err
def newT (xs : List D) (w : Wd) : R (D × Wd) := if xs.length ≤ mxLen then .ok (.tup xs, w) else .err
/-- a mutable list's items stored anew -/
def Wd.put (w : Wd) (d : D) (xs : List D) : Option Wd := match d with
  | .ref k => if k < w.m.length then some { w with m := w.m.set k xs } else none
  | .g k => if k < w.g.length ∧ xs.all gOk = true then some { w with g := w.g.set k xs } else none
  | _ => none

mutual
def okRet : D → Bool
  | .tup ds => okRets ds
  | .lst ds => okRets ds
  | .fl _ => false
  | .sc _ => false
  | .ref _ => false
  | .dic _ ds => okRets ds
  | _ => true
def okRets : List D → Bool
  | [] => true
  | d :: ds => okRet d && okRets ds
end

/-! ### syntax -/
inductive Op where | add | sub | mul | fdiv | mod | pow | band | bxor | shl
inductive Cm where | eq | ne | lt | le | gt | ge | is | isnot | isin | notin
inductive Bi where | len | abs | int | bool | repr | sum | max | min | tuple | list | sorted | all | any | str | isinst | dict
inductive Me where | append | extend | pop | insert | index | count | remove
/-- the built-in classes that isinstance asks for -/
inductive Ty where | int | bool | str | tup | lst | dct
  deriving DecidableEq
inductive Tg where
  | nm (i : Nat)
  | tu (ts : List Tg)
mutual
inductive E where
  | v (i : Nat)
  | k (d : D)
  | gl (i : Nat)
  | op (o : Op) (md : Nat) (a b : E)
  | neg (a : E)
  | no (a : E)
  | an (a b : E)
  | or (a b : E)
  | cm (c : Cm) (a b : E)
  | ch (a : E) (c : Cm) (b : E) (c2 : Cm) (d : E)
  | ite (c a b : E)
  | tup (es : Es)
  | lst (md : Nat) (es : Es)
  | ix (a i : E)
  /-- {k: e, ..}, keys texts -/
  | dis (ks : List Str) (es : Es)
  /-- list(range(..)), tuple(range(..)) -/
  | lrg (tp : Bool) (md : Nat) (es : Es)
  | sl (md : Nat) (a : E) (lo hi : Oe)
  | rev (md : Nat) (a : E)
  | call (f : Nat) (perm : Option (List Nat)) (es ks : Es)
  | bi (b : Bi) (md : Nat) (es : Es)
  | me (m : Me) (o : E) (es : Es)
  /-- isinstance(e, T) -/
  | isi (e : E) (t : Ty)
  /-- {}, an own dict; b: its keys are tuples of ints, otherwise ints -/
  | dnew (b : Bool)
  /-- o.get((..), constant) -/
  | dget (o : E) (es : Es) (x : D)
  /-- k in o, k not in o: an own dict of ints -/
  | din (n : Bool) (k o : E)
  | co (md : Nat) (t : Tg) (it : It) (c : Oe) (e : E) (own : List Nat)
inductive Es where
  | nil
  | cons (e : E) (r : Es)
inductive Oe where
  | no
  | so (e : E)
inductive It where
  | seq (e : E)
  | rng (es : Es)
  | enu (e : E)
  | zip (a b : E)
end
/-- an item of the list that an except clause returns: a text; the error's field; whether it is of the package -/
inductive HI where
  | str (s : Str)
  | fld
  | isi
inductive S where
  | set (t : Tg) (e : E)
  | put (o i e : E)
  /-- o[(..)] = e; o[k] = e of an own dict of ints -/
  | dput (o : E) (es : Es) (e : E)
  | dputI (o k e : E)
  | ex (e : E)
  | ret (e : E)
  | retn
  | brk
  | cnt
  | pas
  | dead
  | ite (c : E) (a b : List S)
  | for (t : Tg) (it : It) (body : List S) (kill : List Nat) (gc : Bool)
  | whl (c : E) (body : List S) (kill : List Nat) (gc : Bool)
  /-- raise c(es) -/
  | rai (c : Str) (es : Es)
  /-- try: body; except c as a: return [its] -/
  | tr (body : List S) (c : Str) (a : Option Nat) (its : List HI)
/-! ### own dicts -/
/-- kind of an own dict: 2: keys are tuples of ints; 3: ints -/
def Wd.dct (w : Wd) : D → Option (Nat × List D)
  | .ref k => (w.m[k]?).bind fun xs => match xs with
    | [.dic ks es] => if ks.Nodup then none else some (ks.length, es)
    | _ => none
  | _ => none
def dks (b : Bool) : List Str := if b then ["", ""] else ["", "", ""]
def getE : List D → D → Option D
  | .tup [k, v] :: r, x => if deq k x then some v else getE r x
  | _, _ => none
def isK (k : D) : D → Bool
  | .tup [j, _] => deq j k
  | _ => false
def setK (v : D) : D → D
  | .tup [j, _] => .tup [j, v]
  | e => e
def putE (es : List D) (k v : D) : List D := if es.any (isK k) then es.map (fun e => if isK k e then setK v e else e) else es ++ [.tup [k, v]]
def Wd.dset (w : Wd) (d : D) (ks : List Str) (es : List D) : Wd := match d with
  | .ref k => { w with m := w.m.set k [.dic ks es] }
  | _ => w
inductive Fl where
  | nx | rt (d : D) | bk | ct
end Fz

/-! Q2: the pure evaluator. -/
namespace Fz
open PySem

/-- what the defs are worth, the module's constants -/
structure Pg where
  F : Nat → List D → List (List D) → R (D × List (List D))
  C : List D

def mulOk (i j : Int) : Bool := decide ((-(2 ^ 64) < i ∧ i < 2 ^ 64) ∨ (-(2 ^ 64) < j ∧ j < 2 ^ 64) ∨ (i.natAbs < 2 ^ 400000 ∧ j.natAbs < 2 ^ 400000))
def divOk (i j : Int) : Bool := decide (j ≠ 0) && (decide (j.natAbs < 1073741824) || !Builtin.divisionGoesByPylong i j)
def powOk (i j : Int) : Bool := decide (0 ≤ j ∧ j ≤ 1000000 ∧ i.natAbs < 2 ^ 64)
def opF (o : Op) (md : Nat) (x y : D) (w : Wd) : R (D × Wd) :=
  match o, x, y with
  | .add, .int i, .int j => .ok (.int (i + j), w)
  | .sub, .int i, .int j => .ok (.int (i - j), w)
  | .mul, .int i, .int j => if mulOk i j then .ok (.int (i * j), w) else .err
  | .fdiv, .int i, .int j => if divOk i j then .ok (.int (i.fdiv j), w) else .err
  | .mod, .int i, .int j => if j = 0 then .err else .ok (.int (i.fmod j), w)
  | .pow, .int i, .int j => if powOk i j then .ok (.int (i ^ j.toNat), w) else .err
  | .shl, .int i, .int j => if powOk i j then .ok (.int (i * 2 ^ j.toNat), w) else .err
  | .band, .int i, .int j => .ok (.int (Builtin.bitAnd i j), w)
  | .bxor, .int i, .int j => .ok (.int (Builtin.bitXor i j), w)
  | .add, .str a, .str b => if a.length + b.length ≤ mxLen then .ok (.str (a ++ b), w) else .err
  | .add, .tup a, .tup b => newT (a ++ b) w
  | .mul, .tup a, .int j => if decide (1 ≤ j ∧ j ≤ 1000 ∧ a.length ≤ 1000 ∧ a ≠ []) then newT (List.replicate j.toNat a).flatten w else .err
  | .add, x, y => if isL x && isL y then (R.of (w.seq x)).bd fun a => (R.of (w.seq y)).bd fun b => newL md (a ++ b) w else .err
  | .mul, x, .int j => if isL x && decide (-(2 ^ 63) ≤ j ∧ j < 2 ^ 63) then (R.of (w.seq x)).bd fun a => if a.length * j.toNat ≤ mxLen then newL md (List.replicate j.toNat a).flatten w else .err else .err
  | _, _, _ => .err

def isFlat : D → Bool
  | .non => true
  | .bl _ => true
  | .int _ => true
  | .str _ => true
  | _ => false
def eqF (x y : D) (w : Wd) : Option Bool := match x, y with
  | .int i, .int j => some (decide (i = j))
  | .str i, .str j => some (decide (i = j))
  | x, y => (w.py x).bind fun a => (w.py y).bind fun b => if SeqAt.shaped a && SeqAt.shaped b then some (PyData.eqv a b) else none
def flatEq : D → D → Bool
  | .non, .non => true
  | .bl a, .bl b => a == b
  | .bl a, .int b => (if a then 1 else 0) == b
  | .int a, .bl b => a == (if b then 1 else 0)
  | .int a, .int b => a == b
  | .str a, .str b => a == b
  | _, _ => false
/-- x among y's items, by their values -/
def inD (x y : D) (w : Wd) : Option Bool := (w.py x).bind fun p => (w.py y).bind fun q => match q with
  | .list ps => if SeqAt.shaped p && SeqAt.shaped q then some (ps.any fun z => PyData.eqv z p) else none
  | .tuple ps => if SeqAt.shaped p && SeqAt.shaped q then some (ps.any fun z => PyData.eqv z p) else none
  | _ => none
def cmF (c : Cm) (x y : D) (w : Wd) : Option Bool := match c, x, y with
  | .eq, x, y => eqF x y w
  | .ne, x, y => (eqF x y w).map fun b => !b
  | .lt, .int i, .int j => some (decide (i < j))
  | .le, .int i, .int j => some (decide (i ≤ j))
  | .gt, .int i, .int j => some (decide (j < i))
  | .ge, .int i, .int j => some (decide (j ≤ i))
  | .is, x, .non => some (match x with | .non => true | _ => false)
  | .isnot, x, .non => some (match x with | .non => false | _ => true)
  | .is, .bl a, .bl b => some (decide (a = b))
  | .isnot, .bl a, .bl b => some (!decide (a = b))
  | .isin, x, y => if isFlat x then (w.seq y).bind fun ys => if ys.all isFlat then some (ys.any fun z => flatEq z x) else none else inD x y w
  | .notin, x, y => if isFlat x then (w.seq y).bind fun ys => if ys.all isFlat then some (!(ys.any fun z => flatEq z x)) else none else (inD x y w).map fun b => !b
  | _, _, _ => none

def stepL (lo c : Int) : Nat → List D
  | 0 => []
  | n + 1 => .int lo :: stepL (lo + c) c n
/-- an index, of any sign -/
def ixI (n : Nat) (i : Int) : Option Nat := if 0 ≤ i then (if i < n then some i.toNat else none) else if -(n : Int) ≤ i then some (i + n).toNat else none
def cut {α : Type} (xs : List α) (lo hi : Option Int) : List α := (xs.drop (HT.sIx xs.length 0 lo)).take (HT.sIx xs.length xs.length hi - HT.sIx xs.length 0 lo)

def intD : List D → Option (List Int)
  | [] => some []
  | .int i :: r => (intD r).map fun is => i :: is
  | _ => none
/-- pairs of a text and something -/
def prsD : List D → Option (List Str × List D)
  | [] => some ([], [])
  | .tup [.str k, d] :: r => (prsD r).map fun p => (k :: p.1, d :: p.2)
  | _ => none
/-- what stands at a key -/
def lkp : List Str → List D → Str → Option D
  | k :: ks, d :: ds, x => if k = x then some d else lkp ks ds x
  | _, _, _ => none
/-- d[k] of a dict -/
def dicL : D → Str → Option D
  | .dic ks ds, k => lkp ks ds k
  | _, _ => none
def boolD : List D → Option (List Bool)
  | [] => some []
  | .bl i :: r => (boolD r).map fun is => i :: is
  | _ => none
mutual
/-- what can be shown: no dict, ints below the limit -/
def canShow : PyData → Bool
  | .none => true
  | .bool _ => true
  | .int i => decide (i.natAbs < 10 ^ 4300)
  | .str _ => true
  | .list ps => canShows ps
  | .tuple ps => canShows ps
  | .dict kvs => kvs.isEmpty
def canShows : List PyData → Bool
  | [] => true
  | p :: ps => canShow p && canShows ps
end
/-- repr of data -/
def reprOk (p : PyData) : Bool := canShow p && decide (p.depth ≤ 60) && decide (p.shown.length ≤ mxLen)
def maxL : List Int → Int
  | [] => 0
  | [x] => x
  | x :: y :: r => let z := maxL (y :: r); if x < z then z else x
def minL : List Int → Int
  | [] => 0
  | [x] => x
  | x :: y :: r => let z := minL (y :: r); if z < x then z else x
/-- x ≤ y, by the first item that differs -/
def lexLe : List Int → List Int → Bool
  | [], _ => true
  | _ :: _, [] => false
  | x :: xs, y :: ys => if x < y then true else if y < x then false else lexLe xs ys
def insT (x : List Int) : List (List Int) → List (List Int)
  | [] => [x]
  | y :: ys => if lexLe x y then x :: y :: ys else y :: insT x ys
def sortT : List (List Int) → List (List Int)
  | [] => []
  | x :: xs => insT x (sortT xs)
def insI (x : Int) : List Int → List Int
  | [] => [x]
  | y :: ys => if x ≤ y then x :: y :: ys else y :: insI x ys
def sortI : List Int → List Int
  | [] => []
  | x :: xs => insI x (sortI xs)
/-- tuples of ints -/
def tupD : List D → Option (List (List Int))
  | [] => some []
  | .tup ds :: r => (intD ds).bind fun ns => (tupD r).map fun xs => ns :: xs
  | _ => none
def tupI (ns : List Int) : D := .tup (ns.map D.int)
/-- tuples of one length, few of them -/
def tupOk : List (List Int) → Bool
  | [] => true
  | x :: xs => decide (1 ≤ x.length ∧ (x :: xs).length < 64) && (x :: xs).all fun y => decide (y.length = x.length) && y.all fun i => decide (0 ≤ i ∧ i < 1000000000)
/-- pairs of a number and a tuple -/
def pairD : List D → Option (List (Int × List D))
  | [] => some []
  | .tup [.int k, .tup ds] :: r => (pairD r).map fun xs => (k, ds) :: xs
  | _ => none
def pairI (q : Int × List D) : D := .tup [.int q.1, .tup q.2]
def insP (x : Int × List D) : List (Int × List D) → List (Int × List D)
  | [] => [x]
  | y :: ys => if x.1 ≤ y.1 then x :: y :: ys else y :: insP x ys
def sortP : List (Int × List D) → List (Int × List D)
  | [] => []
  | x :: xs => insP x (sortP xs)
def biF (b : Bi) (md : Nat) (ds : List D) (w : Wd) : R (D × Wd) := match b, ds with
  | .len, [.str s] => if s.length ≤ mxLen then .ok (.int s.length, w) else .err
  | .len, [d] => (R.of (w.seq d)).bd fun xs => .ok (.int xs.length, w)
  | .abs, [.int i] => .ok (.int (if i < 0 then -i else i), w)
  | .int, [.int i] => .ok (.int i, w)
  | .int, [.bl k] => .ok (.int (if k then 1 else 0), w)
  | .bool, [.int i] => .ok (.bl (i != 0), w)
  | .bool, [.bl k] => .ok (.bl k, w)
  | .repr, [d] => (R.of (w.py d)).bd fun p => if reprOk p then .ok (.str p.shown, w) else .err
  | .sum, [d] => (R.of ((w.seq d).bind intD)).bd fun xs => .ok (.int xs.sum, w)
  | .sorted, [d] => (R.of (w.seq d)).bd fun xs => match intD xs with
    | some ns => newL md ((sortI ns).map D.int) w
    | none => match tupD xs with
      | some ts => if tupOk ts then newL md ((sortT ts).map tupI) w else .err
      | none => if isT d then .err else (R.of (pairD xs)).bd fun ps => if decide (ps.length < 64 ∧ (ps.map (·.1)).Nodup) then newL md ((sortP ps).map pairI) w else .err
  | .dict, [d] => if isT d then .err else (R.of ((w.seq d).bind prsD)).bd fun p => if p.1.Nodup ∧ p.1 ≠ [] ∧ p.1.length ≤ 15 then .ok (.dic p.1 p.2, w) else .err
  | .max, [.int i, .int j] => .ok (.int (if j > i then j else i), w)
  | .min, [.int i, .int j] => .ok (.int (if j < i then j else i), w)
  | .max, [d] => (R.of ((w.seq d).bind intD)).bd fun xs => if xs.isEmpty then .err else .ok (.int (maxL xs), w)
  | .min, [d] => (R.of ((w.seq d).bind intD)).bd fun xs => if xs.isEmpty then .err else .ok (.int (minL xs), w)
  | .tuple, [d] => (R.of (w.seq d)).bd fun xs => newT xs w
  | .list, [d] => (R.of (w.seq d)).bd fun xs => newL md xs w
  | .all, [d] => if isT d then .err else (R.of ((w.seq d).bind boolD)).bd fun xs => .ok (.bl (xs.all id), w)
  | .any, [d] => if isT d then .err else (R.of ((w.seq d).bind boolD)).bd fun xs => .ok (.bl (xs.any id), w)
  | _, _ => .err
def meF (m : Me) (o : D) (ds : List D) (w : Wd) : R (D × Wd) := match m, ds with
  | .append, [d] => (R.of (w.seq o)).bd fun xs => if xs.length < mxLen then (R.of (w.put o (xs ++ [d]))).bd fun w' => .ok (.non, w') else .err
  | .extend, [d] => if isL d && !deq d o then (R.of (w.seq o)).bd fun xs => (R.of (w.seq d)).bd fun ys => if xs.length + ys.length ≤ mxLen then (R.of (w.put o (xs ++ ys))).bd fun w' => .ok (.non, w') else .err else .err
  | .pop, [] => (R.of (w.seq o)).bd fun xs => (R.of xs[xs.length - 1]?).bd fun y => (R.of (w.put o xs.dropLast)).bd fun w' => .ok (y, w')
  | .pop, [.int i] => (R.of (w.seq o)).bd fun xs => (R.of (ixI xs.length i)).bd fun k => (R.of xs[k]?).bd fun y => (R.of (w.put o (xs.eraseIdx k))).bd fun w' => .ok (y, w')
  | _, _ => .err

def tyF (t : Ty) (w : Wd) : D → Option Bool
  | .non => some false
  | .bl _ => some (t == .bool || t == .int)
  | .int _ => some (t == .int)
  | .str _ => some (t == .str)
  | .tup _ => some (t == .tup)
  | .lst _ => some (t == .lst)
  | .fl _ => some (t == .lst)
  | .sc _ => some (t == .lst)
  | .ref k => ((w.m[k]?).bind lsq).map fun _ => t == .lst
  | .g _ => some (t == .lst)
  | .dic _ _ => some (t == .dct)
def wipeD (σ : List (Option D)) : List Nat → List (Option D)
  | [] => σ
  | v :: vs => (wipeD σ vs).set v none
mutual
def asg : Tg → D → Wd → Option Wd
  | .nm i, d, w => some { w with σ := w.σ.set i (some d) }
  | .tu ts, .tup ds, w => asgL ts ds w
  | .tu ts, .lst ds, w => asgL ts ds w
  | .tu _, _, _ => none
def asgL : List Tg → List D → Wd → Option Wd
  | [], [], w => some w
  | t :: ts, d :: ds, w => (asg t d w).bind fun w' => asgL ts ds w'
  | _, _, _ => none
end
/-- what a loop walks: the list stands as it was -/
inductive Src where
  | non | ref (k : Nat) | g (k : Nat)
def Src.ok (s : Src) (xs : List D) (w : Wd) : Bool := match s with
  | .non => true
  | .ref k => (w.m[k]?).any fun ys => deqL ys xs
  | .g k => (w.g[k]?).any fun ys => deqL ys xs
def srcOf : D → Src
  | .ref k => .ref k
  | .g k => .g k
  | _ => .non
def rngL (lo : Int) : Nat → List D
  | 0 => []
  | n + 1 => .int lo :: rngL (lo + 1) n
def rngOk (i : Int) : Bool := decide (-(2 ^ 62) ≤ i ∧ i < 2 ^ 62)
def rngF : List D → Option (List D)
  | [.int j] => if rngOk j then some (rngL 0 j.toNat) else none
  | [.int i, .int j] => if rngOk i && rngOk j then some (rngL i (j - i).toNat) else none
  | [.int i, .int j, .int c] => if decide (c ≠ 0 ∧ c.natAbs < 1073741824) && Builtin.Range.small i j c then some (stepL i c (Builtin.Range.rangeSize i j c).toNat) else none
  | _ => none
def enuL (i : Int) : List D → List D
  | [] => []
  | x :: xs => .tup [.int i, x] :: enuL (i + 1) xs
def zipD : List D → List D → List D
  | x :: xs, y :: ys => .tup [x, y] :: zipD xs ys
  | _, _ => []
/-- what is walked: the items, the lists that must stand still -/
structure Itd where
  xs : List D
  ok : Wd → Bool

def coL (bind : D → Wd → Option Wd) (test : Wd → R (Bool × Wd)) (elt : Wd → R (D × Wd)) (ok : Wd → Bool) (own : List Nat) (σ : List (Option D)) : List D → Wd → List D → R (List D × Wd)
  | [], w, acc => .ok (acc, w)
  | x :: xs, w, acc => (R.of (bind x { w with σ := wipeD σ own })).bd fun w1 => (test w1).bd fun r => if r.1 then
      (elt r.2).bd fun q => if ok { q.2 with σ := σ } && decide (acc.length < mxLen) then coL bind test elt ok own σ xs { q.2 with σ := σ } (acc ++ [q.1]) else .err
    else if ok { r.2 with σ := σ } then coL bind test elt ok own σ xs { r.2 with σ := σ } acc else .err
def forL (bind : D → Wd → Option Wd) (body : Wd → R (Fl × Wd)) (post : Wd → Option Wd) (ok : Wd → Bool) : List D → Wd → R (Fl × Wd)
  | [], w => .ok (.nx, w)
  | x :: xs, w => (R.of (bind x w)).bd fun w1 => (body w1).bd fun r => match r.1 with
    | .bk => .ok (.nx, r.2)
    | .rt d => .ok (.rt d, r.2)
    | _ => (R.of (post r.2)).bd fun w3 => if ok w3 then forL bind body post ok xs w3 else .err
def whlL (test : Wd → R (Bool × Wd)) (body : Wd → R (Fl × Wd)) (post : Wd → Option Wd) : Nat → Wd → R (Fl × Wd)
  | 0, _ => .err
  | n + 1, w => (test w).bd fun r => if r.1 then (body r.2).bd fun q => match q.1 with
      | .bk => .ok (.nx, q.2)
      | .rt d => .ok (.rt d, q.2)
      | _ => (R.of (post q.2)).bd fun w3 => whlL test body post n w3
    else .ok (.nx, r.2)
def postF (kill : List Nat) (gc : Bool) (L : Nat) (w : Wd) : Option Wd :=
  let w1 : Wd := { w with σ := wipeD w.σ kill }
  if gc then w1.gc L else some w1

/-- arguments in the parameters' order -/
def arr {α : Type} (p : List Nat) (xs : List α) : Option (List α) := match p with
  | [] => some []
  | i :: r => (xs[i]?).bind fun x => (arr r xs).map fun ys => x :: ys
def arrD {α : Type} : Option (List Nat) → List α → Option (List α)
  | none, xs => some xs
  | some p, xs => arr p xs
variable (P : Pg)
mutual
def evE : E → Wd → R (D × Wd)
  | .v i, w => match w.σ[i]? with
    | some (some d) => .ok (d, w)
    | _ => .err
  | .k d, w => .ok (d, w)
  | .gl i, w => (R.of P.C[i]?).bd fun d => .ok (d, w)
  | .op o md a b, w => (evE a w).bd fun x => (evE b x.2).bd fun y => opF o md x.1 y.1 y.2
  | .neg a, w => (evE a w).bd fun x => match x.1 with
    | .int i => .ok (.int (-i), x.2)
    | _ => .err
  | .no a, w => (evE a w).bd fun x => (R.of (x.2.tru x.1)).bd fun b => .ok (.bl (!b), x.2)
  | .an a b, w => (evE a w).bd fun x => (R.of (x.2.tru x.1)).bd fun c => if c then evE b x.2 else .ok x
  | .or a b, w => (evE a w).bd fun x => (R.of (x.2.tru x.1)).bd fun c => if c then .ok x else evE b x.2
  | .cm c a b, w => (evE a w).bd fun x => (evE b x.2).bd fun y => (R.of (cmF c x.1 y.1 y.2)).bd fun r => .ok (.bl r, y.2)
  | .ch a c b c2 d, w => (evE a w).bd fun x => (evE b x.2).bd fun y => (R.of (cmF c x.1 y.1 y.2)).bd fun r => if r then
      (evE d y.2).bd fun z => (R.of (cmF c2 y.1 z.1 z.2)).bd fun q => .ok (.bl q, z.2) else .ok (.bl false, y.2)
  | .ite c a b, w => (evE c w).bd fun x => (R.of (x.2.tru x.1)).bd fun r => if r then evE a x.2 else evE b x.2
  | .tup es, w => (evEs es w).bd fun x => newT x.1 x.2
  | .lst md es, w => (evEs es w).bd fun x => newL md x.1 x.2
  | .ix a i, w => (evE a w).bd fun x => (evE i x.2).bd fun y => match y.1 with
    | .int k => (R.of (y.2.seq x.1)).bd fun xs => (R.of ((ixI xs.length k).bind fun j => xs[j]?)).bd fun d => .ok (d, y.2)
    | .str k => (R.of (dicL x.1 k)).bd fun d => .ok (d, y.2)
    | _ => .err
  | .lrg tp md es, w => (evEs es w).bd fun x => (R.of (rngF x.1)).bd fun xs => if tp then newT xs x.2 else newL md xs x.2
  | .dis ks es, w => (evEs es w).bd fun x => if ks.Nodup ∧ ks ≠ [] ∧ ks.length ≤ 15 ∧ ks.length = x.1.length then .ok (.dic ks x.1, x.2) else .err
  | .sl md a lo hi, w => (evE a w).bd fun x => (evO lo x.2).bd fun l => (evO hi l.2).bd fun h => (R.of (h.2.seq x.1)).bd fun xs =>
      if isT x.1 then newT (cut xs l.1 h.1) h.2 else newL md (cut xs l.1 h.1) h.2
  | .rev md a, w => (evE a w).bd fun x => (R.of (x.2.seq x.1)).bd fun xs => if isT x.1 then newT xs.reverse x.2 else newL md xs.reverse x.2
  | .call f perm es ks, w => (evEs es w).bd fun x => (evEs ks x.2).bd fun y => (R.of (lendL y.2 (x.1 ++ y.1))).bd fun ds => (R.of (arrD perm ds)).bd fun ds =>
      (P.F f ds y.2.g).bd fun r => .ok (r.1, { y.2 with g := r.2 })
  | .bi b md es, w => (evEs es w).bd fun x => biF b md x.1 x.2
  | .me m o es, w => (evE o w).bd fun x => (R.of (x.2.seq x.1)).bd fun _ => (evEs es x.2).bd fun y => meF m x.1 y.1 y.2
  | .isi e t, w => (evE e w).bd fun x => (R.of (tyF t x.2 x.1)).bd fun b => .ok (.bl b, x.2)
  | .dnew b, w => .ok (.ref w.m.length, { w with m := w.m ++ [[.dic (dks b) []]] })
  | .dget o es z, w => (evE o w).bd fun x => (R.of (x.2.dct x.1)).bd fun _ => (evEs es x.2).bd fun y => (R.of (y.2.dct x.1)).bd fun q => if decide (q.1 = 2) && (intD y.1).isSome && decide (y.1.length ≤ mxLen) && isFlat z then .ok ((getE q.2 (.tup y.1)).getD z, y.2) else .err
  | .din n k o, w => (evE k w).bd fun y => (evE o y.2).bd fun x => (R.of (x.2.dct x.1)).bd fun q => match y.1 with
    | .int i => if decide (q.1 = 3) then .ok (.bl (xor n (getE q.2 (.int i)).isSome), x.2) else .err
    | _ => .err
  | .co md t it c e own, w => (evI it w).bd fun x => (coL (asg t) (evC c) (evE e) x.1.ok own x.2.σ x.1.xs x.2 []).bd fun r => newL md r.1 r.2
def evEs : Es → Wd → R (List D × Wd)
  | .nil, w => .ok ([], w)
  | .cons e r, w => (evE e w).bd fun x => (evEs r x.2).bd fun y => .ok (x.1 :: y.1, y.2)
def evO : Oe → Wd → R (Option Int × Wd)
  | .no, w => .ok (none, w)
  | .so e, w => (evE e w).bd fun x => match x.1 with
    | .int i => .ok (some i, x.2)
    | _ => .err
def evC : Oe → Wd → R (Bool × Wd)
  | .no, w => .ok (true, w)
  | .so e, w => (evE e w).bd fun x => (R.of (x.2.tru x.1)).bd fun b => .ok (b, x.2)
def evI : It → Wd → R (Itd × Wd)
  | .seq e, w => (evE e w).bd fun x => (R.of (x.2.seq x.1)).bd fun xs => .ok (⟨xs, (srcOf x.1).ok xs⟩, x.2)
  | .rng es, w => (evEs es w).bd fun x => (R.of (rngF x.1)).bd fun xs => .ok (⟨xs, fun _ => true⟩, x.2)
  | .enu e, w => (evE e w).bd fun x => (R.of (x.2.seq x.1)).bd fun xs => .ok (⟨enuL 0 xs, (srcOf x.1).ok xs⟩, x.2)
  | .zip a b, w => (evE a w).bd fun x => (evE b x.2).bd fun y => (R.of (y.2.seq x.1)).bd fun xs => (R.of (y.2.seq y.1)).bd fun ys =>
      if isT x.1 == isT y.1 then .ok (⟨zipD xs ys, fun w => (srcOf x.1).ok xs w && (srcOf y.1).ok ys w⟩, y.2) else .err
end
/-! ### what an error tells, where one is raised -/
def R.nx {α β : Type} (r : R α) (f : α → Option β) : Option β := match r with
  | .ok a => f a
  | _ => none
def orr {α : Type} : Option α → Option α → Option α
  | some a, _ => some a
  | none, o => o
abbrev Xd : Type := Str × List D × Wd
def excF (r : R (D × List (List D))) (w : Wd) : Option Xd := match r with
  | .exc c es g => some (c, es, { w with g := g })
  | _ => none
/-- what an error may hold -/
def immD : D → Bool
  | .tup ds => ds.all isFlat
  | d => isFlat d
mutual
def rsE : E → Wd → Option Xd
  | .call f perm es ks, w => orr (rsEs es w) ((evEs P es w).nx fun x => (evEs P ks x.2).nx fun y => (R.of (lendL y.2 (x.1 ++ y.1))).nx fun ds => (R.of (arrD perm ds)).nx fun ds => excF (P.F f ds y.2.g) y.2)
  | .op _ _ a b, w => orr (rsE a w) ((evE P a w).nx fun x => rsE b x.2)
  | .cm _ a b, w => orr (rsE a w) ((evE P a w).nx fun x => rsE b x.2)
  | .ix a b, w => orr (rsE a w) ((evE P a w).nx fun x => rsE b x.2)
  | .no a, w => rsE a w
  | .ite c a b, w => (evE P c w).nx fun x => (x.2.tru x.1).bind fun r => if r then rsE a x.2 else rsE b x.2
  | .tup es, w => rsEs es w
  | .lst _ es, w => rsEs es w
  | .bi _ _ es, w => rsEs es w
  | .rev _ a, w => rsE a w
  | .co _ _ it _ _ _, w => rsI it w
  | _, _ => none
def rsEs : Es → Wd → Option Xd
  | .nil, _ => none
  | .cons e r, w => orr (rsE e w) ((evE P e w).nx fun x => rsEs r x.2)
def rsI : It → Wd → Option Xd
  | .seq e, w => rsE e w
  | _, _ => none
end
def rsFor (bind : D → Wd → Option Wd) (body : Wd → R (Fl × Wd)) (rb : Wd → Option Xd) (post : Wd → Option Wd) (ok : Wd → Bool) : List D → Wd → Option Xd
  | [], _ => none
  | x :: xs, w => (bind x w).bind fun w1 => orr (rb w1) ((body w1).nx fun r => match r.1 with
    | .bk => none
    | .rt _ => none
    | _ => (post r.2).bind fun w3 => if ok w3 then rsFor bind body rb post ok xs w3 else none)
def rsWhl (test : Wd → R (Bool × Wd)) (body : Wd → R (Fl × Wd)) (rb : Wd → Option Xd) (post : Wd → Option Wd) : Nat → Wd → Option Xd
  | 0, _ => none
  | n + 1, w => (test w).nx fun r => if r.1 then orr (rb r.2) ((body r.2).nx fun q => match q.1 with
      | .bk => none
      | .rt _ => none
      | _ => (post q.2).bind fun w3 => rsWhl test body rb post n w3)
    else none
def hiV (es : List D) : HI → D
  | .str s => .str s
  | .fld => es.headD .non
  | .isi => .bl true
/-- what the clause does -/
def hdl (c : Str) (a : Option Nat) (its : List HI) (x : Xd) : R (Fl × Wd) := if x.1 = c ∧ ((its.all fun i => match i with | .fld => x.2.1.length == 1 | _ => true) && a.all fun i => Nat.blt i x.2.2.σ.length) = true then (newL 0 (its.map (hiV x.2.1)) x.2.2).bd fun y => .ok (.rt y.1, y.2) else .err
/-- a test: the truth of the value -/
def evT (e : E) (w : Wd) : R (Bool × Wd) := (evE P e w).bd fun x => (R.of (x.2.tru x.1)).bd fun b => .ok (b, x.2)
def fuel : Nat := 1000000000000
mutual
def exS : S → Wd → R (Fl × Wd)
  | .set t e, w => (evE P e w).bd fun x => (R.of (asg t x.1 x.2)).bd fun w' => .ok (.nx, w')
  | .put o i e, w => (evE P e w).bd fun z => (evE P o z.2).bd fun x => (evE P i x.2).bd fun y => match y.1 with
    | .int k => (R.of (y.2.seq x.1)).bd fun xs => (R.of (ixI xs.length k)).bd fun j => (R.of (y.2.put x.1 (xs.set j z.1))).bd fun w' => .ok (.nx, w')
    | _ => .err
  | .dput o es e, w => (evE P e w).bd fun z => (evE P o z.2).bd fun x => (evEs P es x.2).bd fun y => (R.of (y.2.dct x.1)).bd fun q => if decide (q.1 = 2) && (intD y.1).isSome && decide (y.1.length ≤ mxLen ∧ q.2.length < mxLen) then .ok (.nx, y.2.dset x.1 (dks true) (putE q.2 (.tup y.1) z.1)) else .err
  | .dputI o k e, w => (evE P e w).bd fun z => (evE P o z.2).bd fun x => (evE P k x.2).bd fun y => (R.of (y.2.dct x.1)).bd fun q => match y.1 with
    | .int i => if decide (q.1 = 3) && decide (q.2.length < mxLen) then .ok (.nx, y.2.dset x.1 (dks false) (putE q.2 (.int i) z.1)) else .err
    | _ => .err
  | .ex e, w => (evE P e w).bd fun x => .ok (.nx, x.2)
  | .ret e, w => (evE P e w).bd fun x => .ok (.rt x.1, x.2)
  | .retn, w => .ok (.rt .non, w)
  | .brk, w => .ok (.bk, w)
  | .cnt, w => .ok (.ct, w)
  | .pas, w => .ok (.nx, w)
  | .dead, _ => .err
  | .ite c a b, w => (evT P c w).bd fun x => if x.1 then exB a x.2 else exB b x.2
  | .for t it body kill gc, w => (evI P it w).bd fun x => forL (asg t) (exB body) (postF kill gc x.2.m.length) x.1.ok x.1.xs x.2
  | .whl c body kill gc, w => whlL (evT P c) (exB body) (postF kill gc w.m.length) fuel w
  | .rai _ _, _ => .err
  | .tr body c a its, w => match rsB body w with
    | some x => hdl c a its x
    | none => exB body w
def exB : List S → Wd → R (Fl × Wd)
  | [], w => .ok (.nx, w)
  | s :: r, w => (exS s w).bd fun x => match x.1 with
    | .nx => exB r x.2
    | f => .ok (f, x.2)
def rsS : S → Wd → Option Xd
  | .set _ e, w => rsE P e w
  | .put _ _ e, w => rsE P e w
  | .ex e, w => rsE P e w
  | .ret e, w => rsE P e w
  | .ite c a b, w => (evT P c w).nx fun x => if x.1 then rsB a x.2 else rsB b x.2
  | .for t it body kill gc, w => orr (rsI P it w) ((evI P it w).nx fun x => rsFor (asg t) (exB body) (rsB body) (postF kill gc x.2.m.length) x.1.ok x.1.xs x.2)
  | .whl c body kill gc, w => rsWhl (evT P c) (exB body) (rsB body) (postF kill gc w.m.length) fuel w
  | .rai c es, w => (evEs P es w).nx fun x => if (x.1.all immD && decide (x.1.length ≤ 1)) = true then some (c, x.1, x.2) else none
  | _, _ => none
def rsB : List S → Wd → Option Xd
  | [], _ => none
  | s :: r, w => orr (rsS s w) ((exS s w).nx fun x => match x.1 with
    | .nx => rsB r x.2
    | _ => none)
end
/-- a def: its parameters in the first slots; its end without a return gives None -/
def exO (n : Nat) (body : List S) (ds : List D) (g : List (List D)) : R (D × List (List D)) :=
  (exB P body ⟨ds.map some ++ List.replicate (n - ds.length) none, [], g⟩).bd fun x => match x.1 with
    | .rt d => (R.of (give x.2 d)).bd fun d' => .ok (d', x.2.g)
    | .nx => .ok (.non, x.2.g)
    | _ => .err
/-- .. or it raises -/
def exD (n : Nat) (body : List S) (ds : List D) (g : List (List D)) : R (D × List (List D)) := match exO P n body ds g with
  | .ok r => .ok r
  | _ => match rsB P body ⟨ds.map some ++ List.replicate (n - ds.length) none, [], g⟩ with
    | some x => .exc x.1 x.2.1 x.2.2.g
    | none => .err
theorem exD_ok {n : Nat} {body : List S} {ds : List D} {g : List (List D)} {r : D × List (List D)} : exD P n body ds g = .ok r ↔ exO P n body ds g = .ok r := by
  unfold exD
  cases h : exO P n body ds g with
  | ok a => exact ⟨fun e => e, fun e => e⟩
  | _ =>
    refine ⟨fun e => ?_, fun e => by cases e⟩
    dsimp only at e
    split at e <;> cases e
end Fz

/-! Q3: data stand in the heap. -/
namespace Fz
open PySem PySem.Spec PyProof.Rows L2

/-- own lists, shared ones, those that somebody further out may still change -/
structure Ad where
  mu : List Addr
  ga : List Addr
  bad : List Addr
  /-- lists that a comprehension is making -/
  cn : List Addr
/-- locked or written: never changes -/
def SqF (K : PySem.W.Frag) (H : Hp) (a : Addr) (vs : List V) : Prop := (∃ o, H a = some (.frz o (.lst vs))) ∨ SqL K (fun _ => none) a vs
mutual
def RD (K : PySem.W.Frag) (H : Hp) (A : Ad) : D → V → Prop
  | .non, v => v = .non
  | .bl b, v => v = .bl b
  | .int i, v => v = .int i
  | .str s, v => v = .str s
  | .tup ds, v => ∃ a vs, v = .ref a ∧ SqT K H a vs ∧ RDs K H A ds vs
  | .lst ds, v => ∃ a vs, v = .ref a ∧ H a = some (.lst vs) ∧ (a ∉ A.mu ∧ a ∉ A.ga ∧ a ∉ A.cn) ∧ a ∉ A.bad ∧ RDs K H A ds vs
  | .fl ds, v => ∃ a vs, v = .ref a ∧ H a = some (.lst vs) ∧ (a ∉ A.mu ∧ a ∉ A.ga ∧ a ∉ A.cn) ∧ RDs K H A ds vs
  | .sc ds, v => ∃ a vs, v = .ref a ∧ SqF K H a vs ∧ RDs K H A ds vs
  | .ref k, v => ∃ a, A.mu[k]? = some a ∧ v = .ref a
  | .g k, v => ∃ a, A.ga[k]? = some a ∧ v = .ref a
  | .dic ks ds, v => ∃ a, v = .ref a ∧ (a ∉ A.mu ∧ a ∉ A.ga ∧ a ∉ A.cn) ∧ a ∉ A.bad ∧ ((ks = [] ∧ ds = [] ∧ H a = some (.dT [])) ∨ ∃ kvs, H a = some (.dK kvs) ∧ (ks ≠ [] ∧ ks.Nodup ∧ kvs.map Prod.fst = ks.map Sum.inr) ∧ RDs K H A ds (kvs.map Prod.snd))
def RDs (K : PySem.W.Frag) (H : Hp) (A : Ad) : List D → List V → Prop
  | [], vs => vs = []
  | d :: ds, vs => ∃ v r, vs = v :: r ∧ RD K H A d v ∧ RDs K H A ds r
end
/-- may not be changed by who stands here -/
def Ad.out (A : Ad) (a : Addr) : Prop := a ∉ A.mu ∧ a ∉ A.ga ∧ a ∉ A.cn
structure Car (A : Ad) (H : Hp) (A' : Ad) (H' : Hp) : Prop where
  kept : ∀ a o, H a = some o → A.out a → H' a = some o ∧ A'.out a
  tup : ∀ a vs, H a = some (.tup vs) → H' a = some (.tup vs)
  frz : ∀ a o u, H a = some (.frz o u) → H' a = some (.frz o u)
  mu : ∀ (k : Nat) (a : Addr), A.mu[k]? = some a → A'.mu[k]? = some a
  ga : ∀ (k : Nat) (a : Addr), A.ga[k]? = some a → A'.ga[k]? = some a
  bad : A'.bad = A.bad
structure Step (A : Ad) (H : Hp) (A' : Ad) (H' : Hp) : Prop extends Car A H A' H' where
  cn : A'.cn = A.cn
  cnk : ∀ a ∈ A.cn, H' a = H a
theorem Car.refl (A : Ad) (H : Hp) : Car A H A H := ⟨fun _ _ h a => ⟨h, a⟩, fun _ _ h => h, fun _ _ _ h => h, fun _ _ h => h, fun _ _ h => h, rfl⟩
theorem Step.refl (A : Ad) (H : Hp) : Step A H A H := ⟨Car.refl A H, rfl, fun _ _ => rfl⟩
theorem Car.trans {A A1 A2 : Ad} {H H1 H2 : Hp} (a : Car A H A1 H1) (b : Car A1 H1 A2 H2) : Car A H A2 H2 :=
  ⟨fun c o h x => let ⟨p, q⟩ := a.kept c o h x; b.kept c o p q, fun c vs h => b.tup c vs (a.tup c vs h), fun c o u h => b.frz c o u (a.frz c o u h),
    fun k c h => b.mu k c (a.mu k c h), fun k c h => b.ga k c (a.ga k c h), b.bad.trans a.bad⟩
theorem Step.trans {A A1 A2 : Ad} {H H1 H2 : Hp} (a : Step A H A1 H1) (b : Step A1 H1 A2 H2) : Step A H A2 H2 :=
  ⟨a.toCar.trans b.toCar, b.cn.trans a.cn, fun c h => (b.cnk c (by rw [a.cn]; exact h)).trans (a.cnk c h)⟩
section
variable {K : PySem.W.Frag} {H H' : Hp} {A A' : Ad}
theorem SqF.sq {a : Addr} {vs : List V} (h : SqF K H a vs) : SqL K H a vs := by
  rcases h with ⟨o, h⟩ | h
  · exact .inl (.inr ⟨o, h⟩)
  · rcases h with (h | ⟨o, h⟩) | h
    · cases h
    · cases h
    · exact .inr h
theorem SqT.step {a : Addr} {vs : List V} (s : Car A H A' H') (h : SqT K H a vs) : SqT K H' a vs := by
  rcases h with (h | ⟨o, h⟩) | h
  · exact .inl (.inl (s.tup _ _ h))
  · exact .inl (.inr ⟨o, s.frz _ _ _ h⟩)
  · exact .inr h
theorem SqF.step {a : Addr} {vs : List V} (s : Car A H A' H') (h : SqF K H a vs) : SqF K H' a vs := by
  rcases h with ⟨o, h⟩ | h
  · exact .inl ⟨o, s.frz _ _ _ h⟩
  · exact .inr h
mutual
theorem RD.step (s : Car A H A' H') : ∀ (d : D) (v : V), RD K H A d v → RD K H' A' d v
  | .non, _, h => h
  | .bl _, _, h => h
  | .int _, _, h => h
  | .str _, _, h => h
  | .tup ds, _, h => by
    obtain ⟨a, vs, e, q, r⟩ := h
    exact ⟨a, vs, e, SqT.step s q, RDs.step s ds vs r⟩
  | .lst ds, _, h => by
    obtain ⟨a, vs, e, q, x, z, r⟩ := h
    obtain ⟨q', x'⟩ := s.kept a _ q x
    exact ⟨a, vs, e, q', x', by rw [s.bad]; exact z, RDs.step s ds vs r⟩
  | .fl ds, _, h => by
    obtain ⟨a, vs, e, q, x, r⟩ := h
    obtain ⟨q', x'⟩ := s.kept a _ q x
    exact ⟨a, vs, e, q', x', RDs.step s ds vs r⟩
  | .sc ds, _, h => by
    obtain ⟨a, vs, e, q, r⟩ := h
    exact ⟨a, vs, e, SqF.step s q, RDs.step s ds vs r⟩
  | .ref k, _, h => by
    obtain ⟨a, e, q⟩ := h
    exact ⟨a, s.mu k a e, q⟩
  | .g k, _, h => by
    obtain ⟨a, e, q⟩ := h
    exact ⟨a, s.ga k a e, q⟩
  | .dic ks ds, _, h => by
    obtain ⟨a, e, x, z, h⟩ := h
    rcases h with ⟨k0, d0, q⟩ | ⟨kvs, q, y, r⟩
    · obtain ⟨q', x'⟩ := s.kept a _ q x
      exact ⟨a, e, x', by rw [s.bad]; exact z, .inl ⟨k0, d0, q'⟩⟩
    · obtain ⟨q', x'⟩ := s.kept a _ q x
      exact ⟨a, e, x', by rw [s.bad]; exact z, .inr ⟨kvs, q', y, RDs.step s ds _ r⟩⟩
theorem RDs.step (s : Car A H A' H') : ∀ (ds : List D) (vs : List V), RDs K H A ds vs → RDs K H' A' ds vs
  | [], _, h => h
  | d :: ds, _, h => by
    obtain ⟨v, r, e, x, y⟩ := h
    exact ⟨v, r, e, RD.step s d v x, RDs.step s ds r y⟩
end
theorem RDs.length : ∀ {ds : List D} {vs : List V}, RDs K H A ds vs → vs.length = ds.length
  | [], _, h => by rw [show _ = [] from h]; rfl
  | d :: ds, _, h => by
    obtain ⟨v, r, e, x, y⟩ := h
    rw [e, List.length_cons, List.length_cons, RDs.length y]
theorem RDs.get : ∀ {ds : List D} {vs : List V} {k : Nat} {d : D}, RDs K H A ds vs → ds[k]? = some d → ∃ v, vs[k]? = some v ∧ RD K H A d v
  | [], _, _, _, _, e => by simp at e
  | x :: ds, _, 0, _, h, e => by
    obtain ⟨v, r, e', p, q⟩ := h
    subst e'
    have e2 : x = _ := Option.some.inj e
    subst e2
    exact ⟨v, rfl, p⟩
  | x :: ds, _, k + 1, _, h, e => by
    obtain ⟨v, r, e', p, q⟩ := h
    subst e'
    exact RDs.get (k := k) q (by simpa using e)
theorem RDs.append : ∀ {ds es : List D} {vs us : List V}, RDs K H A ds vs → RDs K H A es us → RDs K H A (ds ++ es) (vs ++ us)
  | [], _, _, _, h, q => by rw [show _ = [] from h]; exact q
  | d :: ds, _, _, _, h, q => by
    obtain ⟨v, r, e, x, y⟩ := h
    subst e
    exact ⟨v, r ++ _, rfl, x, RDs.append y q⟩
theorem RDs.drop : ∀ {ds : List D} {vs : List V} (n : Nat), RDs K H A ds vs → RDs K H A (ds.drop n) (vs.drop n)
  | _, _, 0, h => h
  | [], _, n + 1, h => by rw [show _ = [] from h]; exact (rfl : _ = _)
  | d :: ds, _, n + 1, h => by
    obtain ⟨v, r, e, x, y⟩ := h
    subst e
    exact RDs.drop n y
theorem RDs.take : ∀ {ds : List D} {vs : List V} (n : Nat), RDs K H A ds vs → RDs K H A (ds.take n) (vs.take n)
  | _, _, 0, h => (rfl : _ = _)
  | [], _, n + 1, h => by rw [show _ = [] from h]; exact (rfl : _ = _)
  | d :: ds, _, n + 1, h => by
    obtain ⟨v, r, e, x, y⟩ := h
    subst e
    exact ⟨v, _, rfl, x, RDs.take n y⟩
theorem RDs.one {d : D} {v : V} (h : RD K H A d v) : RDs K H A [d] [v] := ⟨v, [], rfl, h, rfl⟩
theorem RDs.reverse : ∀ {ds : List D} {vs : List V}, RDs K H A ds vs → RDs K H A ds.reverse vs.reverse
  | [], _, h => by rw [show _ = [] from h]; exact (rfl : _ = _)
  | d :: ds, _, h => by
    obtain ⟨v, r, e, x, y⟩ := h
    subst e
    rw [List.reverse_cons, List.reverse_cons]
    exact RDs.append (RDs.reverse y) (RDs.one x)
theorem RDs.set : ∀ {ds : List D} {vs : List V} (n : Nat) {d : D} {v : V}, RDs K H A ds vs → RD K H A d v → RDs K H A (ds.set n d) (vs.set n v)
  | [], _, n, _, _, h, q => by rw [show _ = [] from h]; exact (rfl : _ = _)
  | d :: ds, _, 0, _, _, h, q => by
    obtain ⟨v, r, e, x, y⟩ := h
    subst e
    exact ⟨_, r, rfl, q, y⟩
  | d :: ds, _, n + 1, _, _, h, q => by
    obtain ⟨v, r, e, x, y⟩ := h
    subst e
    exact ⟨v, _, rfl, x, RDs.set n y q⟩
theorem RDs.eraseIdx : ∀ {ds : List D} {vs : List V} (n : Nat), RDs K H A ds vs → RDs K H A (ds.eraseIdx n) (vs.eraseIdx n)
  | [], _, n, h => by rw [show _ = [] from h]; exact (rfl : _ = _)
  | d :: ds, _, 0, h => by
    obtain ⟨v, r, e, x, y⟩ := h
    subst e
    exact y
  | d :: ds, _, n + 1, h => by
    obtain ⟨v, r, e, x, y⟩ := h
    subst e
    exact ⟨v, _, rfl, x, RDs.eraseIdx n y⟩
theorem RDs.dropLast {ds : List D} {vs : List V} (h : RDs K H A ds vs) : RDs K H A ds.dropLast vs.dropLast := by
  rw [List.dropLast_eq_take, List.dropLast_eq_take, h.length]
  exact h.take _
theorem RDs.rep : ∀ (n : Nat) {ds : List D} {vs : List V}, RDs K H A ds vs → RDs K H A (List.replicate n ds).flatten (List.replicate n vs).flatten
  | 0, _, _, _ => (rfl : _ = _)
  | n + 1, _, _, h => by
    rw [List.replicate_succ, List.replicate_succ, List.flatten_cons, List.flatten_cons]
    exact RDs.append h (RDs.rep n h)
theorem RDs.cons_iff {d : D} {ds : List D} {v : V} {vs : List V} : RDs K H A (d :: ds) (v :: vs) ↔ RD K H A d v ∧ RDs K H A ds vs := by
  constructor
  · rintro ⟨v', r, e, x, y⟩
    cases e
    exact ⟨x, y⟩
  · rintro ⟨x, y⟩
    exact ⟨v, vs, rfl, x, y⟩
theorem RDs.cutD {ds : List D} {vs : List V} (lo hi : Option Int) (h : RDs K H A ds vs) : RDs K H A (cut ds lo hi) (cutV vs lo hi) := by
  unfold cut cutV
  rw [h.length]
  exact (h.drop _).take _
theorem RDs.ints : ∀ {ds : List D} {vs : List V} {ns : List Int}, RDs K H A ds vs → intD ds = some ns → vs = ns.map V.int
  | [], _, ns, h, e => by
    rw [show _ = [] from h]
    cases e
    rfl
  | d :: ds, _, ns, h, e => by
    obtain ⟨v, r, e', x, y⟩ := h
    subst e'
    cases d with
    | int i =>
      simp only [intD, Option.map_eq_some_iff] at e
      obtain ⟨is, e1, rfl⟩ := e
      rw [RDs.ints y e1, show v = .int i from x]
      rfl
    | _ => simp [intD] at e
theorem RDs.bools : ∀ {ds : List D} {vs : List V} {ns : List Bool}, RDs K H A ds vs → boolD ds = some ns → vs = ns.map V.bl
  | [], _, ns, h, e => by
    rw [show _ = [] from h]
    cases e
    rfl
  | d :: ds, _, ns, h, e => by
    obtain ⟨v, r, e', x, y⟩ := h
    subst e'
    cases d with
    | bl i =>
      simp only [boolD, Option.map_eq_some_iff] at e
      obtain ⟨is, e1, rfl⟩ := e
      rw [RDs.bools y e1, show v = .bl i from x]
      rfl
    | _ => simp [boolD] at e
end

/-! ### mutable lists, own dicts -/
/-- pairs of key and value, as they stand in a dict -/
def EN (K : PySem.W.Frag) (H : Hp) (A : Ad) {κ : Type} (kd : D → κ → Prop) : List D → List (κ × V) → Prop
  | [], kvs => kvs = []
  | e :: es, kvs => ∃ k q d v r, e = .tup [k, d] ∧ kvs = (q, v) :: r ∧ kd k q ∧ RD K H A d v ∧ EN K H A kd es r
def keyT (d : D) (q : List Key) : Prop := ∃ ns : List Int, d = .tup (ns.map D.int) ∧ q = ns.map Sum.inl
def keyI (d : D) (q : Key) : Prop := ∃ n : Int, d = .int n ∧ q = Sum.inl n
def DE (K : PySem.W.Frag) (H : Hp) (A : Ad) (a : Addr) (n : Nat) (es : List D) : Prop :=
  (∃ kvs, n = 2 ∧ H a = some (.dT kvs) ∧ EN K H A keyT es kvs) ∨ (∃ kvs, n = 3 ∧ H a = some (.dK kvs) ∧ EN K H A keyI es kvs)
def Cell (K : PySem.W.Frag) (H : Hp) (A : Ad) (a : Addr) (xs : List D) : Prop :=
  (isDc xs = false ∧ ∃ vs, H a = some (.lst vs) ∧ RDs K H A xs vs) ∨ (isDc xs = true ∧ ∃ ks es, xs = [.dic ks es] ∧ DE K H A a ks.length es)
def RL (K : PySem.W.Frag) (H : Hp) (A : Ad) : List Addr → List (List D) → Prop
  | [], ms => ms = []
  | a :: as, ms => ∃ xs r, ms = xs :: r ∧ Cell K H A a xs ∧ RL K H A as r
section
variable {K : PySem.W.Frag} {H H' : Hp} {A A' : Ad} {w : Wd}
theorem RDs.noDc : ∀ {xs : List D} {vs : List V}, RDs K H A xs vs → isDc xs = false
  | [], _, _ => rfl
  | x :: xs, _, h => by
    obtain ⟨v, r, e, x1, _⟩ := h
    cases x with
    | dic ks ds =>
      obtain ⟨a, _, _, _, h⟩ := x1
      show (!decide ks.Nodup) = false
      rcases h with ⟨rfl, _, _⟩ | ⟨kvs, _, y, _⟩
      · rfl
      · rw [decide_eq_true y.2.1]
        rfl
    | _ => rfl
theorem gOk_noDc : ∀ {xs : List D}, xs.all gOk = true → isDc xs = false
  | [], _ => rfl
  | x :: xs, h => by
    rw [List.all_cons] at h
    have h := (Bool.and_eq_true_iff.mp h).1
    cases x <;> first | rfl | cases h
theorem lsq_some {xs ys : List D} (h : lsq xs = some ys) : ys = xs ∧ isDc xs = false := by
  unfold lsq at h
  cases q : isDc xs with
  | true => rw [q] at h; cases h
  | false => rw [q] at h; cases h; exact ⟨rfl, rfl⟩
theorem seq_ref_some {k : Nat} {xs : List D} (h : (w.m[k]?).bind lsq = some xs) : w.m[k]? = some xs ∧ isDc xs = false := by
  obtain ⟨ys, h1, h2⟩ := Option.bind_eq_some_iff.mp h
  obtain ⟨e, h3⟩ := lsq_some h2
  subst e
  exact ⟨h1, h3⟩
theorem EN.carry {κ : Type} {kd : D → κ → Prop} (c : ∀ d v, RD K H A d v → RD K H' A' d v) : ∀ {es : List D} {kvs : List (κ × V)}, EN K H A kd es kvs → EN K H' A' kd es kvs
  | [], _, h => h
  | e :: es, _, h => by
    obtain ⟨k, q, d, v, r, e1, e2, h1, h2, h3⟩ := h
    exact ⟨k, q, d, v, r, e1, e2, h1, c d v h2, EN.carry c h3⟩
theorem RDs.c1 (c : ∀ xs vs, RDs K H A xs vs → RDs K H' A' xs vs) (d : D) (v : V) (h : RD K H A d v) : RD K H' A' d v :=
  (RDs.cons_iff.mp (c [d] [v] (RDs.one h))).1
theorem Cell.carry {a : Addr} {xs : List D} (c : ∀ xs vs, RDs K H A xs vs → RDs K H' A' xs vs) (k : ∀ o, H a = some o → H' a = some o) (h : Cell K H A a xs) : Cell K H' A' a xs := by
  rcases h with ⟨h1, vs, h2, h3⟩ | ⟨h1, ks, es, h2, h3⟩
  · exact .inl ⟨h1, vs, k _ h2, c _ _ h3⟩
  · refine .inr ⟨h1, ks, es, h2, ?_⟩
    rcases h3 with ⟨kvs, n, h3, h4⟩ | ⟨kvs, n, h3, h4⟩
    · exact .inl ⟨kvs, n, k _ h3, h4.carry (RDs.c1 c)⟩
    · exact .inr ⟨kvs, n, k _ h3, h4.carry (RDs.c1 c)⟩
theorem Cell.at {a : Addr} {xs : List D} (h : Cell K H A a xs) : ∃ o, H a = some o := by
  rcases h with ⟨_, vs, h, _⟩ | ⟨_, ks, es, _, h⟩
  · exact ⟨_, h⟩
  · rcases h with ⟨_, _, h, _⟩ | ⟨_, _, h, _⟩ <;> exact ⟨_, h⟩
theorem Cell.lst {a : Addr} {xs : List D} (h : Cell K H A a xs) (n : isDc xs = false) : ∃ vs, H a = some (.lst vs) ∧ RDs K H A xs vs := by
  rcases h with ⟨_, h⟩ | ⟨q, _⟩
  · exact h
  · rw [n] at q; cases q
theorem Cell.mk {a : Addr} {xs : List D} {vs : List V} (h : H a = some (.lst vs)) (r : RDs K H A xs vs) : Cell K H A a xs := .inl ⟨r.noDc, vs, h, r⟩
theorem RL.length : ∀ {as : List Addr} {ms : List (List D)}, RL K H A as ms → ms.length = as.length
  | [], _, h => by rw [show _ = [] from h]; rfl
  | a :: as, _, h => by
    obtain ⟨xs, r, e, x, z⟩ := h
    rw [e, List.length_cons, List.length_cons, RL.length z]
theorem RL.cell : ∀ {as : List Addr} {ms : List (List D)} {k : Nat} {a : Addr}, RL K H A as ms → as[k]? = some a → ∃ xs, ms[k]? = some xs ∧ Cell K H A a xs
  | [], _, _, _, _, e => by simp at e
  | a :: as, _, 0, _, h, e => by
    obtain ⟨xs, r, e', x, z⟩ := h
    subst e'
    have e2 : a = _ := Option.some.inj e
    subst e2
    exact ⟨xs, rfl, x⟩
  | a :: as, _, k + 1, _, h, e => by
    obtain ⟨xs, r, e', x, z⟩ := h
    subst e'
    exact RL.cell (k := k) z (by simpa using e)
/-- a list among the cells -/
theorem RL.get {as : List Addr} {ms : List (List D)} {k : Nat} {a : Addr} {xs : List D} (h : RL K H A as ms) (e : as[k]? = some a) (e1 : ms[k]? = some xs) (n : isDc xs = false) : ∃ vs, H a = some (.lst vs) ∧ RDs K H A xs vs := by
  obtain ⟨ys, h1, h2⟩ := h.cell e
  rw [e1] at h1
  cases h1
  exact h2.lst n
theorem RL.tracked {as : List Addr} {ms : List (List D)} {a : Addr} (h : RL K H A as ms) (e : a ∈ as) : ∃ o, H a = some o := by
  obtain ⟨k, e⟩ := List.getElem?_of_mem e
  obtain ⟨xs, _, c⟩ := h.cell e
  exact c.at
/-- the lists at as stand; what they hold is carried over -/
theorem RL.carry (c : ∀ xs vs, RDs K H A xs vs → RDs K H' A' xs vs) : ∀ {as : List Addr} {ms : List (List D)}, (∀ a ∈ as, ∀ o, H a = some o → H' a = some o) → RL K H A as ms → RL K H' A' as ms
  | [], _, _, h => h
  | a :: as, _, k, h => by
    obtain ⟨xs, r, e, x, z⟩ := h
    exact ⟨xs, r, e, x.carry c (k a List.mem_cons_self), RL.carry c (fun b hb => k b (List.mem_cons_of_mem _ hb)) z⟩
theorem RL.append : ∀ {as bs : List Addr} {ms ns : List (List D)}, RL K H A as ms → RL K H A bs ns → RL K H A (as ++ bs) (ms ++ ns)
  | [], _, _, _, h, q => by rw [show _ = [] from h]; exact q
  | a :: as, _, _, _, h, q => by
    obtain ⟨xs, r, e, x, z⟩ := h
    subst e
    exact ⟨xs, r ++ _, rfl, x, RL.append z q⟩
/-- one cell is stored anew -/
theorem RL.store {a : Addr} {o : HO} {xs : List D} (cx : ∀ ys us, RDs K H A ys us → RDs K (upd H a o) A ys us) (hx : Cell K (upd H a o) A a xs) :
    ∀ {as : List Addr} {ms : List (List D)} {k : Nat}, as.Nodup → RL K H A as ms → as[k]? = some a → RL K (upd H a o) A as (ms.set k xs)
  | [], _, _, _, _, e => by simp at e
  | b :: as, _, 0, nd, h, e => by
    obtain ⟨ys, r, e', x, z⟩ := h
    subst e'
    have e2 : b = a := Option.some.inj e
    subst e2
    refine ⟨xs, r, rfl, hx, RL.carry cx (fun c hc ws q => ?_) z⟩
    rw [upd_ne (show c ≠ b from fun z => (List.nodup_cons.mp nd).1 (z ▸ hc))]
    exact q
  | b :: as, _, k + 1, nd, h, e => by
    obtain ⟨ys, r, e', x, z⟩ := h
    subst e'
    have e2 : as[k]? = some a := by simpa using e
    have hm : a ∈ as := List.mem_of_getElem? e2
    refine ⟨ys, _, rfl, x.carry cx (fun o h => ?_), RL.store cx hx (List.nodup_cons.mp nd).2 z e2⟩
    rw [upd_ne (show b ≠ a from fun z => (List.nodup_cons.mp nd).1 (z.symm ▸ hm))]
    exact h
end

/-- the evaluator's state and the slots with their heap -/
structure Sim (K : PySem.W.Frag) (H : Hp) (A : Ad) (w : Wd) (σ : L2.St) : Prop where
  loc : ∀ (i : Nat) (d : D), w.σ[i]? = some (some d) → ∃ v, σ[i]? = some (some v) ∧ RD K H A d v
  len : w.σ.length = σ.length
  mu : RL K H A A.mu w.m
  ga : RL K H A A.ga w.g
  nd : A.mu.Nodup
  ndg : A.ga.Nodup
  dj : ∀ a ∈ A.mu, a ∉ A.ga ∧ a ∉ A.bad
  djg : ∀ a ∈ A.bad, a ∉ A.ga
  bt : ∀ a ∈ A.bad, ∃ o, H a = some o
  cnt : ∀ a ∈ A.cn, ∃ vs, H a = some (.lst vs)
  cnd : ∀ a ∈ A.cn, a ∉ A.mu ∧ a ∉ A.ga ∧ a ∉ A.bad
  gk : ∀ xs ∈ w.g, xs.all gOk = true
section
variable {K : PySem.W.Frag} {H H' : Hp} {A A' : Ad} {w : Wd} {σ : L2.St}
theorem Sim.gget (S : Sim K H A w σ) {k : Nat} {a : Addr} {xs : List D} (e : A.ga[k]? = some a) (e1 : w.g[k]? = some xs) : ∃ vs, H a = some (.lst vs) ∧ RDs K H A xs vs :=
  S.ga.get e e1 (gOk_noDc (S.gk xs (List.mem_of_getElem? e1)))
theorem Sim.fresh (S : Sim K H A w σ) {p : Addr} (hp : H p = none) : A.out p ∧ p ∉ A.bad := by
  refine ⟨⟨fun h => ?_, fun h => ?_, fun h => ?_⟩, fun h => ?_⟩
  · obtain ⟨vs, e⟩ := S.mu.tracked h
    rw [hp] at e
    cases e
  · obtain ⟨vs, e⟩ := S.ga.tracked h
    rw [hp] at e
    cases e
  · obtain ⟨vs, e⟩ := S.cnt p h
    rw [hp] at e
    cases e
  · obtain ⟨o, e⟩ := S.bt p h
    rw [hp] at e
    cases e
/-- what a value's sequence is -/
theorem Sim.seq (S : Sim K H A w σ) {d : D} {v : V} {xs : List D} (r : RD K H A d v) (e : w.seq d = some xs) :
    ∃ a vs, v = .ref a ∧ RDs K H A xs vs ∧ ((isT d = true ∧ SqT K H a vs) ∨ (isT d = false ∧ SqL K H a vs)) := by
  cases d with
  | tup ds =>
    obtain ⟨a, vs, rfl, q, h⟩ := r
    cases e
    exact ⟨a, vs, rfl, h, .inl ⟨rfl, q⟩⟩
  | lst ds =>
    obtain ⟨a, vs, rfl, q, _, _, h⟩ := r
    cases e
    exact ⟨a, vs, rfl, h, .inr ⟨rfl, SqL.of q⟩⟩
  | fl ds =>
    obtain ⟨a, vs, rfl, q, _, h⟩ := r
    cases e
    exact ⟨a, vs, rfl, h, .inr ⟨rfl, SqL.of q⟩⟩
  | sc ds =>
    obtain ⟨a, vs, rfl, q, h⟩ := r
    cases e
    exact ⟨a, vs, rfl, h, .inr ⟨rfl, q.sq⟩⟩
  | ref k =>
    obtain ⟨a, q, rfl⟩ := r
    obtain ⟨e1, n⟩ := seq_ref_some e
    obtain ⟨vs, e2, e3⟩ := S.mu.get q e1 n
    exact ⟨a, vs, rfl, e3, .inr ⟨rfl, SqL.of e2⟩⟩
  | g k =>
    obtain ⟨a, q, rfl⟩ := r
    obtain ⟨vs, e2, e3⟩ := S.gget q e
    exact ⟨a, vs, rfl, e3, .inr ⟨rfl, SqL.of e2⟩⟩
  | _ => cases e
/-- a tracked list -/
theorem Sim.lst (S : Sim K H A w σ) {d : D} {v : V} {xs : List D} (r : RD K H A d v) (l : isL d = true) (e : w.seq d = some xs) :
    ∃ a vs, v = .ref a ∧ RDs K H A xs vs ∧ H a = some (.lst vs) := by
  cases d with
  | lst ds =>
    obtain ⟨a, vs, rfl, q, _, _, h⟩ := r
    cases e
    exact ⟨a, vs, rfl, h, q⟩
  | fl ds =>
    obtain ⟨a, vs, rfl, q, _, h⟩ := r
    cases e
    exact ⟨a, vs, rfl, h, q⟩
  | ref k =>
    obtain ⟨a, q, rfl⟩ := r
    obtain ⟨e1, n⟩ := seq_ref_some e
    obtain ⟨vs, e2, e3⟩ := S.mu.get q e1 n
    exact ⟨a, vs, rfl, e3, e2⟩
  | g k =>
    obtain ⟨a, q, rfl⟩ := r
    obtain ⟨vs, e2, e3⟩ := S.gget q e
    exact ⟨a, vs, rfl, e3, e2⟩
  | _ => cases l
theorem upd_some {p a : Addr} {o u : HO} (hp : H p = none) (h : H a = some u) : upd H p o a = some u := by
  rw [upd_ne (ne_of_none h hp)]
  exact h
/-- a new object that is no own list -/
theorem Step.new {p : Addr} {o : HO} (hp : H p = none) (hc : p ∉ A.cn) : Step A H A (upd H p o) :=
  ⟨⟨fun a u h x => ⟨upd_some hp h, x⟩, fun a vs h => upd_some hp h, fun a o u h => upd_some hp h, fun _ _ h => h, fun _ _ h => h, rfl⟩, rfl, fun a h => upd_ne (fun z => hc (z ▸ h))⟩
/-- the state is carried over a step that changes no own list -/
theorem Sim.carry (S : Sim K H A w σ) (s : Step A H A H') (k : ∀ a o, H a = some o → H' a = some o) : Sim K H' A w σ where
  loc := fun i d e => let ⟨v, e1, r⟩ := S.loc i d e; ⟨v, e1, r.step s.toCar d v⟩
  len := S.len
  mu := RL.carry (fun xs vs h => h.step s.toCar) (fun a _ o h => k a o h) S.mu
  ga := RL.carry (fun xs vs h => h.step s.toCar) (fun a _ o h => k a o h) S.ga
  nd := S.nd
  ndg := S.ndg
  dj := S.dj
  djg := S.djg
  bt := fun a h => let ⟨o, e⟩ := S.bt a h; ⟨o, (s.kept a o e ⟨fun z => (S.dj a z).2 h, S.djg a h, fun z => (S.cnd a z).2.2 h⟩).1⟩
  cnt := fun a h => let ⟨vs, e⟩ := S.cnt a h; ⟨vs, k a _ e⟩
  cnd := S.cnd
  gk := S.gk
theorem Sim.new (S : Sim K H A w σ) {p : Addr} {o : HO} (hp : H p = none) : Sim K (upd H p o) A w σ := S.carry (Step.new hp (S.fresh hp).1.2.2) fun a vs h => upd_some hp h
theorem nodup_snoc {l : List Addr} {p : Addr} (h : l.Nodup) (hp : p ∉ l) : (l ++ [p]).Nodup := by
  rw [List.nodup_append]
  refine ⟨h, by simp, fun a ha b hb => ?_⟩
  have e : b = p := by simpa using hb
  subst e
  exact fun z => hp (z ▸ ha)
theorem not_snoc {l : List Addr} {p a : Addr} (h : a ∉ l) (hp : a ≠ p) : a ∉ l ++ [p] := fun z => by
  rcases List.mem_append.mp z with z | z
  · exact h z
  · exact hp (by simpa using z)
theorem get_snoc {α : Type} {l : List α} {k : Nat} {a x : α} (h : l[k]? = some a) : (l ++ [x])[k]? = some a := by
  obtain ⟨hk, e⟩ := List.getElem?_eq_some_iff.mp h
  rw [List.getElem?_append_left hk]
  exact h
/-- a new list, as it is asked for -/
theorem newL_ok {md : Nat} {xs : List D} {vs : List V} {d : D} {w' : Wd} (e : newL md xs w = .ok (d, w')) (S : Sim K H A w σ) (r : RDs K H A xs vs) :
    vs.length ≤ sizeLine ∧ ∀ p, H p = none → ∃ A', Step A H A' (upd H p (.lst vs)) ∧ Sim K (upd H p (.lst vs)) A' w' σ ∧ RD K (upd H p (.lst vs)) A' d (.ref p) := by
  unfold newL at e
  by_cases hl : xs.length ≤ mxLen
  · rw [if_pos hl] at e
    refine ⟨Nat.le_trans (by rw [r.length]; exact hl) (by decide), fun p hp => ?_⟩
    obtain ⟨⟨f1, f2, f4⟩, f3⟩ := S.fresh hp
    have s0 : Step A H A (upd H p (.lst vs)) := Step.new hp f4
    have S0 := S.new (o := .lst vs) hp
    match md, e with
    | 0, e =>
      cases e
      exact ⟨A, s0, S0, p, vs, rfl, upd_same, ⟨f1, f2, f4⟩, f3, r.step s0.toCar⟩
    | 1, e =>
      cases e
      have s1 : Step A H { A with mu := A.mu ++ [p] } (upd H p (.lst vs)) := ⟨⟨fun a u h x => ⟨upd_some hp h, not_snoc x.1 (fun e => by subst e; rw [hp] at h; cases h), x.2⟩, s0.tup, s0.frz, fun k a h => get_snoc h, fun _ _ h => h, rfl⟩, rfl, s0.cnk⟩
      refine ⟨_, s1, ⟨fun i d e => let ⟨v, e1, r⟩ := S.loc i d e; ⟨v, e1, r.step s1.toCar d v⟩, S.len, ?_, RL.carry (fun xs vs h => h.step s1.toCar) (fun a _ vs h => upd_some hp h) S.ga, nodup_snoc S.nd f1, S.ndg, fun a ha => ?_, S.djg, S0.bt, S0.cnt,
        fun a ha => ⟨not_snoc (S.cnd a ha).1 (fun e => f4 (e ▸ ha)), (S.cnd a ha).2⟩, S.gk⟩, p, ?_, rfl⟩
      · exact RL.append (RL.carry (fun xs vs h => h.step s1.toCar) (fun a _ vs h => upd_some hp h) S.mu) ⟨xs, [], rfl, Cell.mk upd_same (r.step s1.toCar), rfl⟩
      · rcases List.mem_append.mp ha with z | z
        · exact S.dj a z
        · have e : a = p := by simpa using z
          subst e
          exact ⟨f2, f3⟩
      · show (A.mu ++ [p])[w.m.length]? = some p
        rw [S.mu.length]
        simp
    | n + 2, e =>
      have e : (if xs.all gOk then R.ok (D.g w.g.length, { w with g := w.g ++ [xs] }) else R.err) = .ok (d, w') := e
      split at e
      case isFalse => cases e
      rename_i hg
      cases e
      have s1 : Step A H { A with ga := A.ga ++ [p] } (upd H p (.lst vs)) := ⟨⟨fun a u h x => ⟨upd_some hp h, x.1, not_snoc x.2.1 (fun e => by subst e; rw [hp] at h; cases h), x.2.2⟩, s0.tup, s0.frz, fun _ _ h => h, fun k a h => get_snoc h, rfl⟩, rfl, s0.cnk⟩
      refine ⟨_, s1, ⟨fun i d e => let ⟨v, e1, r⟩ := S.loc i d e; ⟨v, e1, r.step s1.toCar d v⟩, S.len, RL.carry (fun xs vs h => h.step s1.toCar) (fun a _ vs h => upd_some hp h) S.mu, ?_, S.nd, nodup_snoc S.ndg f2, fun a ha => ⟨fun z => ?_, (S.dj a ha).2⟩, fun a ha z => ?_, S0.bt, S0.cnt,
        fun a ha => ⟨(S.cnd a ha).1, not_snoc (S.cnd a ha).2.1 (fun e => f4 (e ▸ ha)), (S.cnd a ha).2.2⟩, fun ys hy => (List.mem_append.mp hy).elim (S.gk ys) fun z => (by simpa using z : ys = xs) ▸ hg⟩, p, ?_, rfl⟩
      · exact RL.append (RL.carry (fun xs vs h => h.step s1.toCar) (fun a _ vs h => upd_some hp h) S.ga) ⟨xs, [], rfl, Cell.mk upd_same (r.step s1.toCar), rfl⟩
      · rcases List.mem_append.mp z with z | z
        · exact (S.dj a ha).1 z
        · have e : a = p := by simpa using z
          subst e
          exact f1 ha
      · rcases List.mem_append.mp z with z | z
        · exact S.djg a ha z
        · have e : a = p := by simpa using z
          subst e
          exact f3 ha
      · show (A.ga ++ [p])[w.g.length]? = some p
        rw [S.ga.length]
        simp
  · rw [if_neg hl] at e
    cases e
theorem newT_ok {xs : List D} {vs : List V} {d : D} {w' : Wd} (e : newT xs w = .ok (d, w')) (r : RDs K H A xs vs) :
    w' = w ∧ d = .tup xs ∧ vs.length ≤ sizeLine := by
  unfold newT at e
  by_cases hl : xs.length ≤ mxLen
  · rw [if_pos hl] at e
    cases e
    exact ⟨rfl, rfl, Nat.le_trans (by rw [r.length]; exact hl) (by decide)⟩
  · rw [if_neg hl] at e
    cases e
theorem RD.newT {p : Addr} {xs : List D} {vs : List V} (hp : H p = none) (hc : p ∉ A.cn) (r : RDs K H A xs vs) : RD K (upd H p (.tup vs)) A (.tup xs) (.ref p) :=
  ⟨p, vs, rfl, .inl (.inl upd_same), r.step (Step.new hp hc).toCar⟩
/-- an own list is changed -/
theorem Car.store {a : Addr} {us vs : List V} (ha : a ∈ A.mu ∨ a ∈ A.ga ∨ a ∈ A.cn) (h : H a = some (.lst us)) : Car A H A (upd H a (.lst vs)) := by
  refine ⟨fun b o q x => ⟨?_, x⟩, fun b ws q => ?_, fun b o u q => ?_, fun _ _ q => q, fun _ _ q => q, rfl⟩
  · rw [upd_ne (fun z => by subst z; rcases ha with z | z | z; exact x.1 z; exact x.2.1 z; exact x.2.2 z)]
    exact q
  · rw [upd_ne (ne_of q h (fun z => by cases z))]
    exact q
  · rw [upd_ne (ne_of q h (fun z => by cases z))]
    exact q
theorem Step.store {a : Addr} {us vs : List V} (ha : a ∈ A.mu ∨ a ∈ A.ga) (h : H a = some (.lst us)) (hc : ∀ b ∈ A.cn, b ∉ A.mu ∧ b ∉ A.ga) : Step A H A (upd H a (.lst vs)) :=
  ⟨Car.store (ha.elim (fun z => .inl z) fun z => .inr (.inl z)) h, rfl, fun b hb => upd_ne (fun z => by subst z; rcases ha with z | z; exact (hc _ hb).1 z; exact (hc _ hb).2 z)⟩
theorem put_ok {d : D} {v : V} {xs zs : List D} {w' : Wd} (hs : w.seq d = some zs) (e : w.put d xs = some w') (S : Sim K H A w σ) (r : RD K H A d v) :
    ∃ a us ys, v = .ref a ∧ H a = some (.lst us) ∧ w.seq d = some ys ∧ RDs K H A ys us ∧ ∀ vs, RDs K H A xs vs → Step A H A (upd H a (.lst vs)) ∧ Sim K (upd H a (.lst vs)) A w' σ := by
  cases d with
  | ref k =>
    unfold Wd.put at e
    obtain ⟨a, q, rfl⟩ := r
    obtain ⟨e1, n⟩ := seq_ref_some hs
    obtain ⟨us, e2, e3⟩ := S.mu.get q e1 n
    have hm := List.mem_of_getElem? q
    by_cases hk : k < w.m.length
    · simp only [if_pos hk, Option.some.injEq] at e
      subst e
      refine ⟨a, us, zs, rfl, e2, hs, e3, fun vs hx => ?_⟩
      have s : Step A H A (upd H a (.lst vs)) := Step.store (.inl hm) e2 (fun b hb => ⟨(S.cnd b hb).1, (S.cnd b hb).2.1⟩)
      refine ⟨s, ⟨fun i d e => let ⟨v, e1, r⟩ := S.loc i d e; ⟨v, e1, r.step s.toCar d v⟩, S.len, RL.store (fun _ _ h => h.step s.toCar) (Cell.mk upd_same (hx.step s.toCar)) S.nd S.mu q, RL.carry (fun xs vs h => h.step s.toCar) (fun b hb ws h => ?_) S.ga, S.nd, S.ndg, S.dj, S.djg, fun b hb => ?_, fun b hb => ?_, S.cnd, S.gk⟩⟩
      · rw [upd_ne (fun z => by subst z; exact (S.dj _ hm).1 hb)]
        exact h
      · obtain ⟨o, h⟩ := S.bt b hb
        refine ⟨o, ?_⟩
        rw [upd_ne (fun z => by subst z; exact (S.dj _ hm).2 hb)]
        exact h
      · obtain ⟨ws, h⟩ := S.cnt b hb
        refine ⟨ws, ?_⟩
        rw [upd_ne (fun z => by subst z; exact (S.cnd _ hb).1 hm)]
        exact h
    · simp only [if_neg hk] at e
      cases e
  | g k =>
    unfold Wd.put at e
    obtain ⟨a, q, rfl⟩ := r
    obtain ⟨us, e2, e3⟩ := S.gget q hs
    have hm := List.mem_of_getElem? q
    by_cases hk : k < w.g.length ∧ xs.all gOk = true
    · simp only [if_pos hk, Option.some.injEq] at e
      subst e
      refine ⟨a, us, zs, rfl, e2, hs, e3, fun vs hx => ?_⟩
      have s : Step A H A (upd H a (.lst vs)) := Step.store (.inr hm) e2 (fun b hb => ⟨(S.cnd b hb).1, (S.cnd b hb).2.1⟩)
      refine ⟨s, ⟨fun i d e => let ⟨v, e1, r⟩ := S.loc i d e; ⟨v, e1, r.step s.toCar d v⟩, S.len, RL.carry (fun xs vs h => h.step s.toCar) (fun b hb ws h => ?_) S.mu, RL.store (fun _ _ h => h.step s.toCar) (Cell.mk upd_same (hx.step s.toCar)) S.ndg S.ga q, S.nd, S.ndg, S.dj, S.djg, fun b hb => ?_, fun b hb => ?_, S.cnd, fun ys hy => (List.mem_or_eq_of_mem_set hy).elim (S.gk ys) fun z => z ▸ hk.2⟩⟩
      · rw [upd_ne (fun z => by subst z; exact (S.dj _ hb).1 hm)]
        exact h
      · obtain ⟨o, h⟩ := S.bt b hb
        refine ⟨o, ?_⟩
        rw [upd_ne (fun z => by subst z; exact S.djg _ hb hm)]
        exact h
      · obtain ⟨ws, h⟩ := S.cnt b hb
        refine ⟨ws, ?_⟩
        rw [upd_ne (fun z => by subst z; exact (S.cnd _ hb).2.1 hm)]
        exact h
    · simp only [if_neg hk] at e
      cases e
  | _ => cases e
end
end Fz

/-! Q4: operators, built-ins, methods upon data. -/
namespace Fz
open PySem PySem.Spec PyProof.Rows L2

/-! ### readings -/
abbrev Sl := L2.St
/-- what is wanted behind an expression -/
def Aft (K : PySem.W.Frag) (A : Ad) (H : Hp) (σ : Sl) (d : D) (w' : Wd) (Q : VK) : Prop := ∀ A' v H', Step A H A' H' → Sim K H' A' w' σ → RD K H' A' d v → Q v H'
def rd (K : PySem.W.Frag) (f : Wd → R (D × Wd)) : TE := fun σ H Q => ∃ A w, Sim K H A w σ ∧ ∃ d w', f w = .ok (d, w') ∧ Aft K A H σ d w' Q
def rdA (K : PySem.W.Frag) (f : Wd → R (List D × Wd)) : TA := fun σ H Q => ∃ A w, Sim K H A w σ ∧ ∃ ds w', f w = .ok (ds, w') ∧ ∀ A' vs H', Step A H A' H' → Sim K H' A' w' σ → RDs K H' A' ds vs → Q vs H'
def rdT (K : PySem.W.Frag) (f : Wd → R (Bool × Wd)) : TT := fun σ H Q => ∃ A w, Sim K H A w σ ∧ ∃ b w', f w = .ok (b, w') ∧ ∀ A' H', Step A H A' H' → Sim K H' A' w' σ → Q b H'
theorem PEimp {X : Cx} {e : Expr} {t t' : TE} (h : PE X e t) (i : ∀ σ H Q, t' σ H Q → t σ H Q) : PE X e t' := ⟨fun pins s σ H Q I q => h.run pins s σ H Q I (i σ H Q q)⟩
theorem PTimp {X : Cx} {e : Expr} {t t' : TT} (h : PT X e t) (i : ∀ σ H Q, t' σ H Q → t σ H Q) : PT X e t' := ⟨fun pins s σ H Q I q => h.run pins s σ H Q I (i σ H Q q)⟩
theorem PAimp {X : Cx} {e : List Expr} {t t' : TA} (h : PA X e t) (i : ∀ σ H Q, t' σ H Q → t σ H Q) : PA X e t' := ⟨fun pos pins s σ H Q I q => h.run pos pins s σ H Q I (i σ H Q q)⟩
theorem bd_split {α β : Type} {r : R α} {f : α → R β} {b : β} (h : r.bd f = .ok b) : ∃ a, r = .ok a ∧ f a = .ok b := by
  cases r with
  | ok a => exact ⟨a, rfl, h⟩
  | exc c ds => cases h
  | err => cases h
theorem of_split {α : Type} {o : Option α} {a : α} (h : R.of o = .ok a) : o = some a := by
  cases o with
  | none => cases h
  | some b => cases h; rfl
section
variable {K : PySem.W.Frag} {H H' : Hp} {A A' : Ad} {w w' : Wd} {σ : Sl} {Q : VK}
/-- an unchanged state -/
theorem Aft.here {d : D} {v : V} (q : Aft K A H σ d w Q) (S : Sim K H A w σ) (r : RD K H A d v) : Q v H := q A v H (Step.refl A H) S r
theorem Aft.step {d : D} {A1 : Ad} {H1 : Hp} (q : Aft K A H σ d w' Q) (s : Step A H A1 H1) : Aft K A1 H1 σ d w' Q := fun A' v H' s' S r => q A' v H' (s.trans s') S r
/-- a new list, tuple -/
theorem Aft.newL {md : Nat} {xs : List D} {vs : List V} {d : D} (e : newL md xs w = .ok (d, w')) (S : Sim K H A w σ) (r : RDs K H A xs vs) (q : Aft K A H σ d w' Q) :
    vs.length ≤ sizeLine ∧ ∀ p, H p = none → Q (.ref p) (upd H p (.lst vs)) :=
  let ⟨h1, h2⟩ := newL_ok e S r
  ⟨h1, fun p hp => let ⟨A', s, S', r'⟩ := h2 p hp; q A' _ _ s S' r'⟩
theorem Aft.newT {xs : List D} {vs : List V} {d : D} (e : newT xs w = .ok (d, w')) (S : Sim K H A w σ) (r : RDs K H A xs vs) (q : Aft K A H σ d w' Q) :
    vs.length ≤ sizeLine ∧ ∀ p, H p = none → Q (.ref p) (upd H p (.tup vs)) := by
  obtain ⟨rfl, rfl, h⟩ := newT_ok e r
  exact ⟨h, fun p hp => q A _ _ (Step.new hp (S.fresh hp).1.2.2) (S.new hp) (RD.newT hp (S.fresh hp).1.2.2 r)⟩
end

theorem len0 (n : Nat) : (n != 0) = ((n : Int) != 0) := by
  cases n with
  | zero => rfl
  | succ n =>
    rw [show (n + 1 != 0) = true from rfl]
    symm
    simp only [bne_iff_ne, ne_eq]
    omega
/-! ### the model's data -/
section
variable {K : PySem.W.Frag} {H : Hp} {A : Ad}
mutual
inductive Dq (K : PySem.W.Frag) (H : Hp) : V → PyData → Prop
  | non : Dq K H .non .none
  | bl (b : Bool) : Dq K H (.bl b) (.bool b)
  | int (i : Int) : Dq K H (.int i) (.int i)
  | str (x : Str) : Dq K H (.str x) (.str x)
  | lst {a : Addr} {xs : List V} {ds : List PyData} : SqL K H a xs → DqAll K H xs ds → Dq K H (.ref a) (.list ds)
  | tup {a : Addr} {xs : List V} {ds : List PyData} : SqT K H a xs → DqAll K H xs ds → Dq K H (.ref a) (.tuple ds)
  | dct {a : Addr} : H a = some (.dT []) → Dq K H (.ref a) (.dict [])
inductive DqAll (K : PySem.W.Frag) (H : Hp) : List V → List PyData → Prop
  | nil : DqAll K H [] []
  | cons {v : V} {vs : List V} {d : PyData} {ds : List PyData} : Dq K H v d → DqAll K H vs ds → DqAll K H (v :: vs) (d :: ds)
end
mutual
theorem Dq.dp : ∀ (d : PyData) (v : V), Dq K H v d → d.canLay0 = true → Dp K H v d
  | .none, _, h, _ => by cases h; exact .non
  | .bool b, _, h, _ => by cases h; exact .bl b
  | .int i, _, h, _ => by cases h; exact .int i
  | .str x, _, h, _ => by cases h; exact .str x
  | .list ds, _, h, c => by
    cases h with
    | lst q r => exact .lst q (Dq.dps ds _ r (by simpa [PyData.canLay0] using c))
  | .tuple ds, _, h, c => by
    cases h with
    | tup q r => exact .tup q (Dq.dps ds _ r (by simpa [PyData.canLay0] using c))
  | .dict _, _, _, c => by simp [PyData.canLay0] at c
theorem Dq.dps : ∀ (ds : List PyData) (vs : List V), DqAll K H vs ds → PyData.canLayAll0 ds = true → DpAll K H vs ds
  | [], _, h, _ => by cases h; exact .nil
  | d :: ds, _, h, c => by
    obtain ⟨c1, c2⟩ := Bool.and_eq_true_iff.mp (show (d.canLay0 && PyData.canLayAll0 ds) = true by simpa [PyData.canLayAll0] using c)
    cases h with
    | cons x y => exact .cons (Dq.dp d _ x c1) (Dq.dps ds _ y c2)
end
mutual
theorem py_dq {ρ γ : Nat → Option PyData} (hρ : ∀ (k : Nat) a p, ρ k = some p → A.mu[k]? = some a → Dq K H (.ref a) p) (hγ : ∀ (k : Nat) a p, γ k = some p → A.ga[k]? = some a → Dq K H (.ref a) p) :
    ∀ (d : D) (v : V) (p : PyData), Fz.py ρ γ d = some p → RD K H A d v → Dq K H v p
  | .non, _, _, e, h => by cases e; rw [show _ = _ from h]; exact .non
  | .bl b, _, _, e, h => by cases e; rw [show _ = _ from h]; exact .bl b
  | .int b, _, _, e, h => by cases e; rw [show _ = _ from h]; exact .int b
  | .str b, _, _, e, h => by cases e; rw [show _ = _ from h]; exact .str b
  | .tup ds, _, _, e, h => by
    obtain ⟨a, vs, rfl, q, r⟩ := h
    simp only [Fz.py, Option.map_eq_some_iff] at e
    obtain ⟨ps, e1, rfl⟩ := e
    exact .tup q (pyL_dq hρ hγ ds vs ps e1 r)
  | .lst ds, _, _, e, h => by
    obtain ⟨a, vs, rfl, q, _, _, r⟩ := h
    simp only [Fz.py, Option.map_eq_some_iff] at e
    obtain ⟨ps, e1, rfl⟩ := e
    exact .lst (SqL.of q) (pyL_dq hρ hγ ds vs ps e1 r)
  | .fl ds, _, _, e, h => by
    obtain ⟨a, vs, rfl, q, _, r⟩ := h
    simp only [Fz.py, Option.map_eq_some_iff] at e
    obtain ⟨ps, e1, rfl⟩ := e
    exact .lst (SqL.of q) (pyL_dq hρ hγ ds vs ps e1 r)
  | .sc ds, _, _, e, h => by
    obtain ⟨a, vs, rfl, q, r⟩ := h
    simp only [Fz.py, Option.map_eq_some_iff] at e
    obtain ⟨ps, e1, rfl⟩ := e
    exact .lst q.sq (pyL_dq hρ hγ ds vs ps e1 r)
  | .ref k, _, p, e, h => by
    obtain ⟨a, q, rfl⟩ := h
    exact hρ k a p e q
  | .g k, _, p, e, h => by
    obtain ⟨a, q, rfl⟩ := h
    exact hγ k a p e q
  | .dic ks ds, _, p, e, h => by
    obtain ⟨a, rfl, _, _, h⟩ := h
    have e : (if ks.isEmpty && ds.isEmpty then some (PyData.dict []) else none) = some p := e
    split at e
    · rename_i c
      cases e
      rcases h with ⟨_, _, q⟩ | ⟨_, _, y, _⟩
      · exact .dct q
      · exact absurd (List.isEmpty_iff.mp (Bool.and_eq_true_iff.mp c).1) y.1
    · cases e
theorem pyL_dq {ρ γ : Nat → Option PyData} (hρ : ∀ (k : Nat) a p, ρ k = some p → A.mu[k]? = some a → Dq K H (.ref a) p) (hγ : ∀ (k : Nat) a p, γ k = some p → A.ga[k]? = some a → Dq K H (.ref a) p) :
    ∀ (ds : List D) (vs : List V) (ps : List PyData), pyL ρ γ ds = some ps → RDs K H A ds vs → DqAll K H vs ps
  | [], _, _, e, h => by cases e; rw [show _ = [] from h]; exact .nil
  | d :: ds, _, _, e, h => by
    obtain ⟨v, r, rfl, x, y⟩ := h
    simp only [pyL, Option.bind_eq_some_iff, Option.map_eq_some_iff] at e
    obtain ⟨p, e1, ps, e2, rfl⟩ := e
    exact .cons (py_dq hρ hγ d v p e1 x) (pyL_dq hρ hγ ds r ps e2 y)
end
theorem pyL_noDc {ρ γ : Nat → Option PyData} : ∀ {xs : List D} {ps : List PyData}, pyL ρ γ xs = some ps → isDc xs = false
  | [], _, _ => rfl
  | x :: xs, _, h => by
    cases x with
    | dic ks ds =>
      obtain ⟨p, e1, _⟩ := Option.bind_eq_some_iff.mp (show ((Fz.py ρ γ (.dic ks ds)).bind fun y => (pyL ρ γ xs).map fun ys => y :: ys) = _ from h)
      have e : (if ks.isEmpty && ds.isEmpty then some (PyData.dict []) else none) = some p := e1
      split at e
      · rename_i c
        have := List.isEmpty_iff.mp (Bool.and_eq_true_iff.mp c).1
        subst this
        rfl
      · cases e
    | _ => rfl
theorem pyR_dq {w : Wd} {σ : Sl} (S : Sim K H A w σ) : ∀ (n : Nat) (b : Bool) (k : Nat) a p, pyR w n b k = some p → (if b then A.mu else A.ga)[k]? = some a → Dq K H (.ref a) p
  | 0, _, _, _, _, e, _ => by cases e
  | n + 1, b, k, a, p, e, h => by
    simp only [pyR, Option.bind_eq_some_iff, Option.map_eq_some_iff] at e
    obtain ⟨ds, e1, ps, e2, rfl⟩ := e
    have hl : ∃ vs, H a = some (.lst vs) ∧ RDs K H A ds vs := by
      cases b with
      | true =>
        rw [if_pos rfl] at e1
        exact S.mu.get h e1 (pyL_noDc e2)
      | false =>
        rw [if_neg Bool.false_ne_true] at e1
        exact S.gget h e1
    obtain ⟨vs, q, r⟩ := hl
    exact .lst (SqL.of q) (pyL_dq (fun k a p e h => pyR_dq S n true k a p e h) (fun k a p e h => pyR_dq S n false k a p e h) ds vs ps e2 r)
theorem Sim.dq {w : Wd} {σ : Sl} (S : Sim K H A w σ) {d : D} {v : V} {p : PyData} (e : w.py d = some p) (r : RD K H A d v) : Dq K H v p :=
  py_dq (fun k a p e h => pyR_dq S 4 true k a p e h) (fun k a p e h => pyR_dq S 4 false k a p e h) d v p e r
theorem Sim.dp {w : Wd} {σ : Sl} (S : Sim K H A w σ) {d : D} {v : V} {p : PyData} (e : w.py d = some p) (r : RD K H A d v) (c : SeqAt.shaped p = true) : Dp K H v p :=
  Dq.dp p v (S.dq e r) (Bool.and_eq_true_iff.mp (show (p.canLay0 && decide _) = true from c)).1
/-- truth -/
theorem Sim.tru {w : Wd} {σ : Sl} (S : Sim K H A w σ) {d : D} {v : V} {b : Bool} (e : w.tru d = some b) (r : RD K H A d v) : TruV K v H b := by
  have sq : ∀ {xs : List D}, w.seq d = some xs → b = !xs.isEmpty → TruV K v H b := fun {xs} e1 e2 => by
    obtain ⟨a, vs, rfl, rs, h⟩ := S.seq r e1
    have hb : b = !vs.isEmpty := by
      rw [e2]
      have hl := rs.length
      cases vs <;> cases xs <;> simp_all
    rcases h with ⟨_, h⟩ | ⟨_, h⟩
    · exact .inr (.inl ⟨vs, h, hb⟩)
    · exact .inl ⟨vs, h, hb⟩
  have go : (w.seq d).map (fun xs => !xs.isEmpty) = some b → TruV K v H b := fun e => by
    obtain ⟨xs, e1, e2⟩ := Option.map_eq_some_iff.mp e
    exact sq e1 e2.symm
  cases d with
  | non => cases e; rw [show v = .non from r]; exact rfl
  | bl k => cases e; rw [show v = .bl _ from r]; exact rfl
  | int i =>
    have e' : some (i != 0) = some b := e
    rw [show v = .int i from r]
    cases e'
    exact rfl
  | str s =>
    have e' : (if s.length ≤ 1000000 then some (s.length != 0) else none) = some b := e
    by_cases h : s.length ≤ 1000000
    · rw [if_pos h] at e'
      cases e'
      rw [show v = .str s from r]
      exact ⟨Nat.le_trans h (by decide), len0 _⟩
    · rw [if_neg h] at e'
      cases e'
  | _ => exact go e
end
end Fz

/-! Q4d: in, by values. -/
namespace Fz
open PySem PySem.Spec PyProof.Rows L2
/-- x in a tuple, by values -/
theorem op_inDt {X : Cx} (hu : X.A.units + 65 < cLine) : OpR X (compareOp .In) (fun x y H Q => ∃ d ds, Dp X.K H x d ∧ Dp X.K H y (.tuple ds) ∧ SeqAt.shaped d = true ∧ SeqAt.shaped (.tuple ds) = true ∧ Q (.bl (ds.any fun z => PyData.eqv z d)) H) := by
  intro pins s σ H x y v u Q I rx ry h
  obtain ⟨d, ds, hd, he, sd, se, q⟩ := h
  obtain ⟨as, r1⟩ := Dp.reads I d x v hd rx
  obtain ⟨bs, r2⟩ := Dp.reads I (.tuple ds) y u he ry
  exact SeqAt.in_tuple_reads r2 r1 (SeqAt.canLay_of_shaped se) (SeqAt.canLay_of_shaped sd) (room_in_shaped sd hu) ⟨.bl _, H, I, rfl, q⟩
theorem op_notInDt {X : Cx} (hu : X.A.units + 65 < cLine) : OpR X (compareOp .NotIn) (fun x y H Q => ∃ d ds, Dp X.K H x d ∧ Dp X.K H y (.tuple ds) ∧ SeqAt.shaped d = true ∧ SeqAt.shaped (.tuple ds) = true ∧ Q (.bl (!ds.any fun z => PyData.eqv z d)) H) := by
  intro pins s σ H x y v u Q I rx ry h
  obtain ⟨d, ds, hd, he, sd, se, q⟩ := h
  obtain ⟨as, r1⟩ := Dp.reads I d x v hd rx
  obtain ⟨bs, r2⟩ := Dp.reads I (.tuple ds) y u he ry
  exact SeqAt.notIn_tuple_reads r2 r1 (SeqAt.canLay_of_shaped se) (SeqAt.canLay_of_shaped sd) (room_in_shaped sd hu) ⟨.bl _, H, I, rfl, q⟩
end Fz

/-! Q5t: tuple * int, once. -/
namespace Fz
open PySem PySem.Spec PyProof.Rows L2
theorem tuple_mul1 (l : Addr) (items : Array Value) (n : Nat) (dd : Option Addr) (sl : Array (Option Value)) (u : Tok) :
    Meets (Builtin.«tuple.__mul__» { pos := [Value.ref l, Value.int 1 u] }) fun _ R s =>
      s.heap.get? l = some { cls := Value.type "tuple", dict := dd, data := Data.seq items n, slots := sl } ∧ R (Except.ok (Flow.ret (Value.ref l))) s := by
  refine Meets.of_wp fun prog w A R s h => ?_
  obtain ⟨hl, h⟩ := h
  have f1 := AutoSeq1.idx_int
  unfold Builtin.«tuple.__mul__»
  show wpAny (model prog w) A.in1 (asIndex (Value.int 1 u) >>= fun n => if (decide (n < -2 ^ 63) || decide (n ≥ 2 ^ 63)) = true then _ else (Builtin.Tuple.tupleItemsOf (.ref l) >>= fun xs => if (xs.isEmpty || n == 1) = true then (Builtin.Tuple.tupleIsExact (.ref l) >>= fun z => if z = true then (rule "tuple.repeat.same-object" >>= fun _ => ret (.ref l)) else _) else _)) _ _ s
  obtain ⟨hp, g, d, tk, os⟩ := s
  refine wpAny_bind ?_
  show wpAny (model prog w) A.in1 (pure 1 >>= fun o => pure o) _ _ _
  refine wpAny_bind (wpAny_pure (wpAny_pure ?_))
  refine wpAny_ite_false (decide_eq_false (by decide)) (wpAny_bind ?_)
  show wpAny (model prog w) A.in1 (seqItems? (.ref l) >>= fun x => match x with
    | some xs => pure xs
    | _ => unsupported "internal:not-a-tuple") _ _ _
  refine wpAny_bind ?_
  refine wpAny_bind (wpAny_load' hl (wpAny_pure (wpAny_pure ?_)))
  refine wpAny_ite_true (by simp) (wpAny_bind ?_)
  refine wpAny_bind ?_
  refine wpAny_bind (wpAny_load' hl (wpAny_pure (wpAny_pure ?_)))
  refine wpAny_ite_true rfl (wpAny_bind ?_)
  exact wpAny_rule (wpAny_pure ⟨_, rfl, h⟩)
theorem op_repT1 {X : Cx} : OpR X (binaryOp Operator.Mult) fun x y H Q => ∃ l xs, x = V.ref l ∧ y = V.int 1 ∧ SqT X.K H l xs ∧ xs ≠ [] ∧ Q (.ref l) H := by
  intro pins s σ H x y v u Q I rx ry h
  obtain ⟨l, xs, rfl, rfl, hT, hne, q⟩ := h
  obtain rfl : v = .ref l := rx
  obtain ⟨t, rfl⟩ := ry
  obtain ⟨its, r, ⟨o, ho, hc, n, hd⟩, hs⟩ := I.tuple hT
  obtain ⟨cls, dd, data, sl⟩ := o
  obtain rfl : cls = Value.type "tuple" := hc
  obtain rfl : data = Data.seq its.toArray n := hd
  refine wpAny_binaryOp_repeat_ref (by decide) ⟨_, ho, rfl⟩ (fun s' => typeIs_int s' 1 t) noFill_tuple_mul F.fills_int_mul F.slot_int_rmul repeat_tuple F.slot_int_index.lookup ?_
  refine call_meets F.slot_int_rmul (typeIs_int s 1 t) F.entry_int_rmul (F.args_int_rmul_2 _ _) (int_rmul_tuple 1 t l its.toArray n dd sl) ⟨ho, rfl, ⟨_, ho, rfl⟩, ?_⟩
  exact call_meets F.slot_tuple_mul ⟨_, ho, rfl⟩ F.entry_tuple_mul (F.args_tuple_mul_2 _ _) (tuple_mul1 l its.toArray n dd sl t) ⟨ho, .ref l, H, I, rfl, q⟩
end Fz

/-! Q5: operators upon data. -/
namespace Fz
open PySem PySem.Spec PyProof.Rows L2

def oper : Op → Operator
  | .add => .Add
  | .sub => .Sub
  | .mul => .Mult
  | .fdiv => .FloorDiv
  | .mod => .Mod
  | .pow => .Pow
  | .band => .BitAnd
  | .bxor => .BitXor
  | .shl => .LShift
def cmOp : Cm → CmpOp
  | .eq => .Eq
  | .ne => .NotEq
  | .lt => .Lt
  | .le => .LtE
  | .gt => .Gt
  | .ge => .GtE
  | .is => .Is
  | .isnot => .IsNot
  | .isin => .In
  | .notin => .NotIn
/-- an operator upon data -/
def rOp (K : PySem.W.Frag) (o : Op) (md : Nat) : R2 := fun x y H Q => ∃ A w σ d e r w', Sim K H A w σ ∧ RD K H A d x ∧ RD K H A e y ∧ opF o md d e w = .ok (r, w') ∧ Aft K A H σ r w' Q
theorem mulOk_ok {i j : Int} (h : mulOk i j = true) : IntMulOk i j := by
  unfold mulOk at h
  simp only [decide_eq_true_eq] at h
  rcases h with h | h | ⟨h1, h2⟩
  · exact CMul.ok (.inl h)
  · exact CMul.ok (.inr h)
  · exact (wide_mul (a := 400000) (b := 400000) h1 h2 (by decide) (by decide) (by decide)).ok
theorem divOk_ok {i j : Int} (h : divOk i j = true) : j ≠ 0 ∧ Builtin.divisionGoesByPylong i j = false := by
  unfold divOk at h
  simp only [Bool.and_eq_true, Bool.or_eq_true, decide_eq_true_eq, Bool.not_eq_true'] at h
  refine ⟨h.1, ?_⟩
  rcases h.2 with h | h
  · exact PyProof.noPylong_small h
  · exact h
theorem powOk_ok {i j : Int} (h : powOk i j = true) : CPow i j := by
  unfold powOk at h
  exact (of_decide_eq_true h : 0 ≤ j ∧ j ≤ 1000000 ∧ i.natAbs < 2 ^ 64)
theorem op_floor {X : Cx} : OpR X (binaryOp .FloorDiv) (rI (fun i j => j ≠ 0 ∧ Builtin.divisionGoesByPylong i j = false) fun i j => .int (i.fdiv j)) :=
  opI fun _ _ _ _ _ _ _ hc q => floordiv_int hc.1 q (.inl hc.2)
theorem op_mulI {X : Cx} : OpR X (binaryOp .Mult) (rI IntMulOk fun i j => .int (i * j)) := opI fun _ _ _ _ _ _ _ hc q => mul_int q hc
section
variable {X : Cx}
theorem opF_lists {K : PySem.W.Frag} {A : Ad} {H : Hp} {w w' : Wd} {σ : Sl} {d e r : D} {x y : V} {Q : VK} {md : Nat} (S : Sim K H A w σ) (rx : RD K H A d x) (ry : RD K H A e y)
    (h : (if isL d && isL e then (R.of (w.seq d)).bd fun a => (R.of (w.seq e)).bd fun b => newL md (a ++ b) w else .err) = .ok (r, w')) (q : Aft K A H σ r w' Q) : rCat x y H Q := by
  by_cases hl : (isL d && isL e) = true
  · rw [if_pos hl] at h
    obtain ⟨a, e1, h⟩ := bd_split h
    obtain ⟨b, e2, h⟩ := bd_split h
    obtain ⟨l1, l2⟩ := Bool.and_eq_true_iff.mp hl
    obtain ⟨p, vs, rfl, r1, h1⟩ := S.lst rx l1 (of_split e1)
    obtain ⟨p2, us, rfl, r2, h2⟩ := S.lst ry l2 (of_split e2)
    obtain ⟨z, qn⟩ := Aft.newL h S (r1.append r2) q
    exact ⟨p, p2, vs, us, rfl, rfl, h1, h2, by rw [List.length_append] at z; exact z, qn⟩
  · rw [if_neg hl] at h
    cases h
theorem op_sound (o : Op) (md : Nat) : OpR X (binaryOp (oper o)) (rOp X.K o md) := by
  intro pins s σ H x y v u Q I rx ry h
  obtain ⟨A, w, σ', d, e, r, w', S, rd1, rd2, ho, q⟩ := h
  -- two ints
  by_cases hi : ∃ i j, d = .int i ∧ e = .int j
  · obtain ⟨i, j, rfl, rfl⟩ := hi
    have ex : x = .int i := rd1
    have ey : y = .int j := rd2
    subst ex ey
    cases o with
    | add =>
      cases ho
      exact op_add pins s σ H _ _ v u Q I rx ry ⟨i, j, rfl, rfl, q.here S rfl⟩
    | sub =>
      cases ho
      exact op_sub pins s σ H _ _ v u Q I rx ry ⟨i, j, rfl, rfl, q.here S rfl⟩
    | mul =>
      have ho : (if mulOk i j then R.ok (D.int (i * j), w) else .err) = .ok (r, w') := ho
      split at ho
      · rename_i hc
        cases ho
        exact op_mulI pins s σ H _ _ v u Q I rx ry ⟨i, j, rfl, rfl, mulOk_ok hc, q.here S rfl⟩
      · cases ho
    | fdiv =>
      have ho : (if divOk i j then R.ok (D.int (i.fdiv j), w) else .err) = .ok (r, w') := ho
      split at ho
      · rename_i hc
        cases ho
        exact op_floor pins s σ H _ _ v u Q I rx ry ⟨i, j, rfl, rfl, divOk_ok hc, q.here S rfl⟩
      · cases ho
    | mod =>
      have ho : (if j = 0 then R.err else .ok (D.int (i.fmod j), w)) = .ok (r, w') := ho
      split at ho
      · cases ho
      · rename_i hc
        cases ho
        exact op_modN pins s σ H _ _ v u Q I rx ry ⟨i, j, rfl, rfl, hc, q.here S rfl⟩
    | pow =>
      have ho : (if powOk i j then R.ok (D.int (i ^ j.toNat), w) else .err) = .ok (r, w') := ho
      split at ho
      · rename_i hc
        cases ho
        exact op_pow pins s σ H _ _ v u Q I rx ry ⟨i, j, rfl, rfl, powOk_ok hc, q.here S rfl⟩
      · cases ho
    | shl =>
      have ho : (if powOk i j then R.ok (D.int (i * 2 ^ j.toNat), w) else .err) = .ok (r, w') := ho
      split at ho
      · rename_i hc
        cases ho
        exact op_shl pins s σ H _ _ v u Q I rx ry ⟨i, j, rfl, rfl, powOk_ok hc, q.here S rfl⟩
      · cases ho
    | band =>
      cases ho
      exact op_and pins s σ H _ _ v u Q I rx ry ⟨i, j, rfl, rfl, q.here S rfl⟩
    | bxor =>
      cases ho
      exact op_xor pins s σ H _ _ v u Q I rx ry ⟨i, j, rfl, rfl, q.here S rfl⟩
  · cases o with
    | add =>
      by_cases hs : ∃ a b, d = .str a ∧ e = .str b
      · obtain ⟨a, b, rfl, rfl⟩ := hs
        have ex : x = .str a := rd1
        have ey : y = .str b := rd2
        subst ex ey
        have ho : (if a.length + b.length ≤ mxLen then R.ok (D.str (a ++ b), w) else .err) = .ok (r, w') := ho
        split at ho
        · rename_i hc
          cases ho
          exact op_add_str pins s σ H _ _ v u Q I rx ry ⟨a, b, rfl, rfl, Nat.le_trans hc (by decide), q.here S rfl⟩
        · cases ho
      · by_cases ht : ∃ a b, d = .tup a ∧ e = .tup b
        · obtain ⟨a, b, rfl, rfl⟩ := ht
          have ho : newT (a ++ b) w = .ok (r, w') := ho
          obtain ⟨p, vs, rfl, t1, r1⟩ := rd1
          obtain ⟨p2, us, rfl, t2, r2⟩ := rd2
          obtain ⟨z, qn⟩ := Aft.newT ho S (r1.append r2) q
          obtain ⟨rfl, rfl, _⟩ := newT_ok ho (r1.append r2)
          refine op_catA pins s σ H _ _ v u Q I rx ry ⟨p, p2, vs, us, rfl, rfl, t1, t2, by rw [List.length_append] at z; exact z, fun e => ?_, fun _ e => ?_, fun _ _ => qn⟩
          · subst e
            refine q.here S ⟨p2, us, rfl, t2, ?_⟩
            have := r1.append r2
            simpa using this
          · subst e
            refine q.here S ⟨p, vs, rfl, t1, ?_⟩
            have := r1.append r2
            simpa using this
        · refine op_cat pins s σ H x y v u Q I rx ry (opF_lists (md := md) (r := r) (w' := w') S rd1 rd2 ?_ q)
          rw [← ho]
          cases d <;> cases e <;> first | rfl | (exact absurd ⟨_, _, rfl, rfl⟩ hi) | (exact absurd ⟨_, _, rfl, rfl⟩ hs) | (exact absurd ⟨_, _, rfl, rfl⟩ ht)
    | mul =>
      by_cases hp : ∃ a j, d = .tup a ∧ e = .int j
      · obtain ⟨a, j, rfl, rfl⟩ := hp
        have ho : (if decide (1 ≤ j ∧ j ≤ 1000 ∧ a.length ≤ 1000 ∧ a ≠ []) then newT (List.replicate j.toNat a).flatten w else .err) = .ok (r, w') := ho
        split at ho
        · rename_i hc
          obtain ⟨c1, c2, c3, c4⟩ := of_decide_eq_true hc
          obtain ⟨p, vs, rfl, t1, r1⟩ := rd1
          have ey : y = .int j := rd2
          subst ey
          have c5 : vs ≠ [] := fun z => by
            rw [z] at r1
            have := r1.length
            exact c4 (List.length_eq_zero_iff.mp this.symm)
          by_cases h1 : j = 1
          · subst h1
            have e1 : (List.replicate (1 : Int).toNat a).flatten = a := by
              show (List.replicate 1 a).flatten = a
              simp
            rw [e1] at ho
            obtain ⟨rfl, rfl, _⟩ := newT_ok ho r1
            exact op_repT1 pins s σ H _ _ v u Q I rx ry ⟨p, vs, rfl, rfl, t1, c5, q.here S ⟨p, vs, rfl, t1, r1⟩⟩
          · obtain ⟨_, qn⟩ := Aft.newT ho S (RDs.rep j.toNat r1) q
            exact op_repT pins s σ H _ _ v u Q I rx ry ⟨p, j, vs, rfl, rfl, t1, c5, by omega, c2, by rw [r1.length]; exact c3, qn⟩
        · cases ho
      by_cases hj : ∃ j, e = .int j
      · obtain ⟨j, rfl⟩ := hj
        have ho : (if isL d && decide (-(2 ^ 63) ≤ j ∧ j < 2 ^ 63) then (R.of (w.seq d)).bd fun a => if a.length * j.toNat ≤ mxLen then newL md (List.replicate j.toNat a).flatten w else .err else .err) = .ok (r, w') := by
          rw [← ho]
          cases d <;> first | rfl | (exact absurd ⟨_, _, rfl, rfl⟩ hi) | (exact absurd ⟨_, _, rfl, rfl⟩ hp)
        split at ho
        · rename_i hc
          obtain ⟨l1, l2⟩ := Bool.and_eq_true_iff.mp hc
          obtain ⟨a, e1, ho⟩ := bd_split ho
          obtain ⟨p, vs, rfl, r1, h1⟩ := S.lst rd1 l1 (of_split e1)
          have ey : y = .int j := rd2
          subst ey
          split at ho
          · rename_i hz
            obtain ⟨_, qn⟩ := Aft.newL ho S (RDs.rep j.toNat r1) q
            have l3 := of_decide_eq_true l2
            exact op_rep pins s σ H _ _ v u Q I rx ry ⟨p, j, vs, rfl, rfl, h1, l3.1, l3.2, Nat.le_trans (by rw [r1.length]; exact hz) (by decide), qn⟩
          · cases ho
        · cases ho
      · exfalso
        cases d <;> cases e <;> first | (exact hj ⟨_, rfl⟩) | (exact hi ⟨_, _, rfl, rfl⟩) | (cases ho)
    | _ =>
      exfalso
      cases d <;> cases e <;> first | (exact hi ⟨_, _, rfl, rfl⟩) | (cases ho)
/-- a comparison upon data -/
def rCm (K : PySem.W.Frag) (c : Cm) : R2 := fun x y H Q => ∃ A w σ d e b, Sim K H A w σ ∧ RD K H A d x ∧ RD K H A e y ∧ cmF c d e w = some b ∧ Q (.bl b) H
theorem eqF_cases {d e : D} {w : Wd} {b : Bool} (h : eqF d e w = some b) :
    (∃ i j, d = .int i ∧ e = .int j ∧ b = decide (i = j)) ∨ (∃ i j, d = .str i ∧ e = .str j ∧ b = decide (i = j)) ∨
      ∃ p q, w.py d = some p ∧ w.py e = some q ∧ SeqAt.shaped p = true ∧ SeqAt.shaped q = true ∧ b = PyData.eqv p q := by
  have go : ((w.py d).bind fun a => (w.py e).bind fun b => if SeqAt.shaped a && SeqAt.shaped b then some (PyData.eqv a b) else none) = some b → 
      ∃ p q, w.py d = some p ∧ w.py e = some q ∧ SeqAt.shaped p = true ∧ SeqAt.shaped q = true ∧ b = PyData.eqv p q := fun h => by
    simp only [Option.bind_eq_some_iff] at h
    obtain ⟨p, e1, q, e2, h⟩ := h
    split at h
    · rename_i hc
      obtain ⟨c1, c2⟩ := Bool.and_eq_true_iff.mp hc
      cases h
      exact ⟨p, q, e1, e2, c1, c2, rfl⟩
    · cases h
  by_cases hi : ∃ i j, d = .int i ∧ e = .int j
  · obtain ⟨i, j, rfl, rfl⟩ := hi
    cases h
    exact .inl ⟨i, j, rfl, rfl, rfl⟩
  · by_cases hs : ∃ i j, d = .str i ∧ e = .str j
    · obtain ⟨i, j, rfl, rfl⟩ := hs
      cases h
      exact .inr (.inl ⟨i, j, rfl, rfl, rfl⟩)
    · refine .inr (.inr (go ?_))
      rw [← h]
      cases d <;> cases e <;> first | rfl | (exact absurd ⟨_, _, rfl, rfl⟩ hi) | (exact absurd ⟨_, _, rfl, rfl⟩ hs)
theorem flat_rd {K : PySem.W.Frag} {H : Hp} {A : Ad} {d : D} {v : V} (f : isFlat d = true) (r : RD K H A d v) : flatV v = true ∧ ∀ (e : D) (u : V), isFlat e = true → RD K H A e u → eqV v u = flatEq d e := by
  cases d with
  | non =>
    rw [show v = .non from r]
    refine ⟨rfl, fun e u fe re => ?_⟩
    cases e with
    | non => rw [show u = .non from re]; rfl
    | bl b => rw [show u = .bl b from re]; rfl
    | int i => rw [show u = .int i from re]; rfl
    | str i => rw [show u = .str i from re]; rfl
    | _ => cases fe
  | bl b0 =>
    rw [show v = .bl b0 from r]
    refine ⟨rfl, fun e u fe re => ?_⟩
    cases e with
    | non => rw [show u = .non from re]; rfl
    | bl b => rw [show u = .bl b from re]; rfl
    | int i => rw [show u = .int i from re]; rfl
    | str i => rw [show u = .str i from re]; rfl
    | _ => cases fe
  | int b0 =>
    rw [show v = .int b0 from r]
    refine ⟨rfl, fun e u fe re => ?_⟩
    cases e with
    | non => rw [show u = .non from re]; rfl
    | bl b => rw [show u = .bl b from re]; rfl
    | int i => rw [show u = .int i from re]; rfl
    | str i => rw [show u = .str i from re]; rfl
    | _ => cases fe
  | str b0 =>
    rw [show v = .str b0 from r]
    refine ⟨rfl, fun e u fe re => ?_⟩
    cases e with
    | non => rw [show u = .non from re]; rfl
    | bl b => rw [show u = .bl b from re]; rfl
    | int i => rw [show u = .int i from re]; rfl
    | str i => rw [show u = .str i from re]; rfl
    | _ => cases fe
  | _ => cases f
theorem flats_rd {K : PySem.W.Frag} {H : Hp} {A : Ad} {x : D} {v : V} (f : isFlat x = true) (r : RD K H A x v) : ∀ {ds : List D} {vs : List V}, ds.all isFlat = true → RDs K H A ds vs → vs.all flatV = true ∧ inV v vs = ds.any fun z => flatEq z x
  | [], _, _, h => by rw [show _ = [] from h]; exact ⟨rfl, rfl⟩
  | d :: ds, _, a, h => by
    obtain ⟨u, us, rfl, p, q⟩ := h
    obtain ⟨a1, a2⟩ := Bool.and_eq_true_iff.mp (show (isFlat d && ds.all isFlat) = true from a)
    obtain ⟨c1, c2⟩ := flat_rd a1 p
    obtain ⟨i1, i2⟩ := flats_rd f r a2 q
    refine ⟨by rw [List.all_cons, c1, i1]; rfl, ?_⟩
    show (eqV u v || inV v us) = _
    rw [c2 x v f r, i2]
    rfl
theorem cm_sound (c : Cm) (hu65 : X.A.units + 65 < cLine) : OpR X (compareOp (cmOp c)) (rCm X.K c) := by
  have hu : X.A.units + 64 < cLine := by omega
  intro pins s σ H x y v u Q I rx ry h
  obtain ⟨A, w, σ', d, e, b, S, rd1, rd2, ho, q⟩ := h
  have two : ∀ {i j}, d = .int i → e = .int j → x = .int i ∧ y = .int j := fun hd he => by
    subst hd he
    exact ⟨rd1, rd2⟩
  cases c with
  | eq =>
    rcases eqF_cases ho with ⟨i, j, h1, h2, rfl⟩ | ⟨i, j, rfl, rfl, rfl⟩ | ⟨p, p2, e1, e2, s1, s2, rfl⟩
    · obtain ⟨rfl, rfl⟩ := two h1 h2
      refine op_eq pins s σ H _ _ v u Q I rx ry ⟨rfl, ?_⟩
      rw [show decide ((V.int i) = .int j) = decide (i = j) by simp]
      exact q
    · obtain rfl : x = .str i := rd1
      obtain rfl : y = .str j := rd2
      refine op_eq pins s σ H _ _ v u Q I rx ry ⟨rfl, ?_⟩
      rw [show decide ((V.str i) = .str j) = decide (i = j) by simp]
      exact q
    · exact op_eqD hu pins s σ H _ _ v u Q I rx ry ⟨p, p2, S.dp e1 rd1 s1, S.dp e2 rd2 s2, s1, s2, q⟩
  | ne =>
    obtain ⟨b', ho', rfl⟩ := Option.map_eq_some_iff.mp (show (eqF d e w).map (fun b => !b) = some b from ho)
    rcases eqF_cases ho' with ⟨i, j, h1, h2, rfl⟩ | ⟨i, j, rfl, rfl, rfl⟩ | ⟨p, p2, e1, e2, s1, s2, rfl⟩
    · obtain ⟨rfl, rfl⟩ := two h1 h2
      refine op_ne pins s σ H _ _ v u Q I rx ry ⟨rfl, ?_⟩
      rw [show decide ((V.int i) = .int j) = decide (i = j) by simp]
      exact q
    · obtain rfl : x = .str i := rd1
      obtain rfl : y = .str j := rd2
      refine op_ne pins s σ H _ _ v u Q I rx ry ⟨rfl, ?_⟩
      rw [show decide ((V.str i) = .str j) = decide (i = j) by simp]
      exact q
    · exact op_neD hu pins s σ H _ _ v u Q I rx ry ⟨p, p2, S.dp e1 rd1 s1, S.dp e2 rd2 s2, s1, s2, q⟩
  | lt =>
    by_cases hi : ∃ i j, d = .int i ∧ e = .int j
    · obtain ⟨i, j, h1, h2⟩ := hi
      obtain ⟨rfl, rfl⟩ := two h1 h2
      subst h1 h2
      cases ho
      exact op_lt pins s σ H _ _ v u Q I rx ry ⟨i, j, rfl, rfl, q⟩
    · exfalso
      cases d <;> cases e <;> first | (exact hi ⟨_, _, rfl, rfl⟩) | (cases ho)
  | le =>
    by_cases hi : ∃ i j, d = .int i ∧ e = .int j
    · obtain ⟨i, j, h1, h2⟩ := hi
      obtain ⟨rfl, rfl⟩ := two h1 h2
      subst h1 h2
      cases ho
      exact op_le pins s σ H _ _ v u Q I rx ry ⟨i, j, rfl, rfl, q⟩
    · exfalso
      cases d <;> cases e <;> first | (exact hi ⟨_, _, rfl, rfl⟩) | (cases ho)
  | gt =>
    by_cases hi : ∃ i j, d = .int i ∧ e = .int j
    · obtain ⟨i, j, h1, h2⟩ := hi
      obtain ⟨rfl, rfl⟩ := two h1 h2
      subst h1 h2
      cases ho
      exact op_gt pins s σ H _ _ v u Q I rx ry ⟨i, j, rfl, rfl, q⟩
    · exfalso
      cases d <;> cases e <;> first | (exact hi ⟨_, _, rfl, rfl⟩) | (cases ho)
  | ge =>
    by_cases hi : ∃ i j, d = .int i ∧ e = .int j
    · obtain ⟨i, j, h1, h2⟩ := hi
      obtain ⟨rfl, rfl⟩ := two h1 h2
      subst h1 h2
      cases ho
      exact op_ge pins s σ H _ _ v u Q I rx ry ⟨i, j, rfl, rfl, q⟩
    · exfalso
      cases d <;> cases e <;> first | (exact hi ⟨_, _, rfl, rfl⟩) | (cases ho)
  | is =>
    cases e with
    | non =>
      have ey : y = .non := rd2
      subst ey
      refine op_isN pins s σ H _ _ v u Q I rx ry ⟨rfl, ?_⟩
      cases d with
      | non => cases ho; rw [show x = .non from rd1]; exact q
      | bl k => cases ho; rw [show x = .bl k from rd1]; exact q
      | int k => cases ho; rw [show x = .int k from rd1]; exact q
      | str k => cases ho; rw [show x = .str k from rd1]; exact q
      | tup k => cases ho; obtain ⟨a, vs, rfl, _⟩ := rd1; exact q
      | lst k => cases ho; obtain ⟨a, vs, rfl, _⟩ := rd1; exact q
      | fl k => cases ho; obtain ⟨a, vs, rfl, _⟩ := rd1; exact q
      | sc k => cases ho; obtain ⟨a, vs, rfl, _⟩ := rd1; exact q
      | ref k => cases ho; obtain ⟨a, _, rfl⟩ := rd1; exact q
      | g k => cases ho; obtain ⟨a, _, rfl⟩ := rd1; exact q
      | dic ks k => cases ho; obtain ⟨a, rfl, _⟩ := rd1; exact q
    | bl k =>
      cases d with
      | bl j =>
        cases ho
        exact op_isBl pins s σ H _ _ v u Q I rx ry ⟨j, k, rd1, rd2, q⟩
      | _ => cases ho
    | _ => cases d <;> cases ho
  | isnot =>
    cases e with
    | non =>
      have ey : y = .non := rd2
      subst ey
      refine op_notN pins s σ H _ _ v u Q I rx ry ⟨rfl, ?_⟩
      cases d with
      | non => cases ho; rw [show x = .non from rd1]; exact q
      | bl k => cases ho; rw [show x = .bl k from rd1]; exact q
      | int k => cases ho; rw [show x = .int k from rd1]; exact q
      | str k => cases ho; rw [show x = .str k from rd1]; exact q
      | tup k => cases ho; obtain ⟨a, vs, rfl, _⟩ := rd1; exact q
      | lst k => cases ho; obtain ⟨a, vs, rfl, _⟩ := rd1; exact q
      | fl k => cases ho; obtain ⟨a, vs, rfl, _⟩ := rd1; exact q
      | sc k => cases ho; obtain ⟨a, vs, rfl, _⟩ := rd1; exact q
      | ref k => cases ho; obtain ⟨a, _, rfl⟩ := rd1; exact q
      | g k => cases ho; obtain ⟨a, _, rfl⟩ := rd1; exact q
      | dic ks k => cases ho; obtain ⟨a, rfl, _⟩ := rd1; exact q
    | bl k =>
      cases d with
      | bl j =>
        cases ho
        exact op_notBl pins s σ H _ _ v u Q I rx ry ⟨j, k, rd1, rd2, q⟩
      | _ => cases ho
    | _ => cases d <;> cases ho
  | isin =>
    have ho : (if isFlat d then (w.seq e).bind fun ys => if ys.all isFlat then some (ys.any fun z => flatEq z d) else none else inD d e w) = some b := by
      rw [← ho]
      cases d <;> cases e <;> rfl
    split at ho
    · rename_i hf
      obtain ⟨ys, e1, ho⟩ := Option.bind_eq_some_iff.mp ho
      split at ho
      · rename_i ha
        cases ho
        obtain ⟨a, vs, rfl, rs, hq⟩ := S.seq rd2 e1
        obtain ⟨c1, c2⟩ := flats_rd hf rd1 ha rs
        refine op_in_seq pins s σ H _ _ v u Q I rx ry ⟨a, vs, rfl, ?_, (flat_rd hf rd1).1, c1, ?_⟩
        · rcases hq with hq | hq
          · exact .inr hq.2
          · exact .inl hq.2
        · rw [if_neg Bool.false_ne_true, c2]
          exact q
      · cases ho
    · obtain ⟨p1, e1, ho⟩ := Option.bind_eq_some_iff.mp ho
      obtain ⟨p2, e2, ho⟩ := Option.bind_eq_some_iff.mp ho
      cases p2 with
      | list ps =>
        have ho : (if SeqAt.shaped p1 && SeqAt.shaped (.list ps) then some (ps.any fun z => PyData.eqv z p1) else none) = some b := ho
        split at ho
        · rename_i hs
          obtain ⟨s1, s2⟩ := Bool.and_eq_true_iff.mp hs
          cases ho
          exact op_inD hu65 pins s σ H _ _ v u Q I rx ry ⟨p1, ps, S.dp e1 rd1 s1, S.dp e2 rd2 s2, s1, s2, q⟩
        · cases ho
      | tuple ps =>
        have ho : (if SeqAt.shaped p1 && SeqAt.shaped (.tuple ps) then some (ps.any fun z => PyData.eqv z p1) else none) = some b := ho
        split at ho
        · rename_i hs
          obtain ⟨s1, s2⟩ := Bool.and_eq_true_iff.mp hs
          cases ho
          exact op_inDt hu65 pins s σ H _ _ v u Q I rx ry ⟨p1, ps, S.dp e1 rd1 s1, S.dp e2 rd2 s2, s1, s2, q⟩
        · cases ho
      | _ => cases ho
  | notin =>
    have ho : (if isFlat d then (w.seq e).bind fun ys => if ys.all isFlat then some (!(ys.any fun z => flatEq z d)) else none else (inD d e w).map fun b => !b) = some b := by
      rw [← ho]
      cases d <;> cases e <;> rfl
    split at ho
    · rename_i hf
      obtain ⟨ys, e1, ho⟩ := Option.bind_eq_some_iff.mp ho
      split at ho
      · rename_i ha
        cases ho
        obtain ⟨a, vs, rfl, rs, hq⟩ := S.seq rd2 e1
        obtain ⟨c1, c2⟩ := flats_rd hf rd1 ha rs
        refine op_notIn_seq pins s σ H _ _ v u Q I rx ry ⟨a, vs, rfl, ?_, (flat_rd hf rd1).1, c1, ?_⟩
        · rcases hq with hq | hq
          · exact .inr hq.2
          · exact .inl hq.2
        · rw [if_pos rfl, c2]
          exact q
      · cases ho
    · obtain ⟨b', ho, eb⟩ := Option.map_eq_some_iff.mp ho
      obtain ⟨p1, e1, ho⟩ := Option.bind_eq_some_iff.mp ho
      obtain ⟨p2, e2, ho⟩ := Option.bind_eq_some_iff.mp ho
      subst eb
      cases p2 with
      | list ps =>
        have ho : (if SeqAt.shaped p1 && SeqAt.shaped (.list ps) then some (ps.any fun z => PyData.eqv z p1) else none) = some b' := ho
        split at ho
        · rename_i hs
          obtain ⟨s1, s2⟩ := Bool.and_eq_true_iff.mp hs
          cases ho
          exact op_notInD hu65 pins s σ H _ _ v u Q I rx ry ⟨p1, ps, S.dp e1 rd1 s1, S.dp e2 rd2 s2, s1, s2, q⟩
        · cases ho
      | tuple ps =>
        have ho : (if SeqAt.shaped p1 && SeqAt.shaped (.tuple ps) then some (ps.any fun z => PyData.eqv z p1) else none) = some b' := ho
        split at ho
        · rename_i hs
          obtain ⟨s1, s2⟩ := Bool.and_eq_true_iff.mp hs
          cases ho
          exact op_notInDt hu65 pins s σ H _ _ v u Q I rx ry ⟨p1, ps, S.dp e1 rd1 s1, S.dp e2 rd2 s2, s1, s2, q⟩
        · cases ho
      | _ => cases ho
end
end Fz

/-! Q6: repr of data, ints of up to 4300 figures within. -/
namespace Fz
open PySem PySem.Spec PyProof.Rows L2

section
variable {prog : Program} {w : World} {A : Around} {E : Value → Shared → Prop} {s : Shared}
theorem intRepr {a : Int} {t : Tok} {Q : Value → Shared → Prop} (hn : s.heap.NoDigits) (lt : a.natAbs < 10 ^ 4300) (h : Q (.str (toString a) s.toks) { s with toks := s.toks + 1 }) :
    wpAny (model prog w) A (call (.builtin "int.__repr__") [.int a t]) Q E s := by
  refine wpAny_call_entry F.slot_int_repr (typeIs_int s a t) F.entry_int_repr ?_ (F.args_int_repr_1 _)
  unfold Builtin.«int.__repr__»
  show wpAny _ _ (do let z ← Builtin.overDigitLimit? a; _) _ _ s
  refine wpAny_bind (overDigitLimit_any hn (fun _ => ?_) fun ge => absurd lt (Nat.not_lt.mpr ge))
  exact wpAny_bind (wpAny_mkStr (wpAny_pure ⟨_, rfl, h⟩) (int_text_fits10 lt))
theorem intReprObj {a : Int} {t : Tok} {Q : Value → Shared → Prop} (hu : A.units < cLine) (hn : s.heap.NoDigits) (lt : a.natAbs < 10 ^ 4300) (h : Q (.str (toString a) s.toks) { s with toks := s.toks + 1 }) :
    wpAny (model prog w) A (pyReprObj (.int a t)) Q E s :=
  wpAny_pyReprObj_slot hu (typeIs_int s a t) F.slot_int_repr.toG (intRepr hn lt ⟨_, _, rfl, h⟩)
theorem intK {h0 : Heap} {a : Int} {t : Tok} (hn : h0.NoDigits) (lt : a.natAbs < 10 ^ 4300) : ReprK prog w [] h0 0 (.int a t) (toString a) := by
  intro base hb B g E' s' Q hg _ hu hk hQ
  rw [pyReprUnder_leaf (v := .int a t) (by omega) (fun _ e => nomatch e)]
  unfold pyRepr
  exact wpAny_bind (intReprObj (by omega) (Heap.NoDigits.keeps hn hk) lt (wpAny_pure (hQ s'.heap _ fun _ _ e => e)))
end
mutual
/-- read, with dicts that are empty -/
inductive RdQ (h : Heap) : Value → PyData → Prop
  | none : RdQ h .none .none
  | bool (b : Bool) : RdQ h (.bool b) (.bool b)
  | int (i : Int) (t : Tok) : RdQ h (.int i t) (.int i)
  | str (x : Str) (t : Tok) : RdQ h (.str x t) (.str x)
  | list {a : Addr} {o : Obj} {vs : Array Value} {n : Nat} {xs : List PyData} : h.get? a = some o → o.cls = .type "list" → o.data = .seq vs n → RdQs h vs.toList xs → RdQ h (.ref a) (.list xs)
  | tuple {a : Addr} {o : Obj} {vs : Array Value} {n : Nat} {xs : List PyData} : h.get? a = some o → o.cls = .type "tuple" → o.data = .seq vs n → RdQs h vs.toList xs → RdQ h (.ref a) (.tuple xs)
  | dict {a : Addr} {o : Obj} {es : Array DictEntry} {n : Nat} : h.get? a = some o → o.cls = .type "dict" → o.data = .dict es n → es.toList = [] → (a == sysModules) = false → RdQ h (.ref a) (.dict [])
inductive RdQs (h : Heap) : List Value → List PyData → Prop
  | nil : RdQs h [] []
  | cons {v : Value} {vs : List Value} {d : PyData} {ds : List PyData} : RdQ h v d → RdQs h vs ds → RdQs h (v :: vs) (d :: ds)
end
mutual
theorem RdQ.reads {h : Heap} : ∀ {v : Value} {d : PyData}, RdQ h v d → ∃ as, Reads h v d as
  | _, _, .none => ⟨_, .none⟩
  | _, _, .bool b => ⟨_, .bool b⟩
  | _, _, .int i t => ⟨_, .int i t⟩
  | _, _, .str x t => ⟨_, .str x t⟩
  | _, _, .list e1 e2 e3 e4 => let ⟨_, r⟩ := RdQs.reads e4; ⟨_, .list e1 e2 e3 r⟩
  | _, _, .tuple e1 e2 e3 e4 => let ⟨_, r⟩ := RdQs.reads e4; ⟨_, .tuple e1 e2 e3 r⟩
  | _, _, .dict e1 e2 e3 e4 _ => ⟨_, .dict e1 e2 e3 (by rw [e4]; exact .nil) (by rw [e4]; exact .nil)⟩
theorem RdQs.reads {h : Heap} : ∀ {vs : List Value} {ds : List PyData}, RdQs h vs ds → ∃ as, ReadsAll h vs ds as
  | _, _, .nil => ⟨_, .nil⟩
  | _, _, .cons r rs => let ⟨_, q⟩ := RdQ.reads r; let ⟨_, qs⟩ := RdQs.reads rs; ⟨_, .cons q qs⟩
end
section
variable {X : Cx} {pins : List (Addr × Obj)} {σ : Sl} {H : Hp} {s : Shared}
mutual
theorem Dq.reads (I : Inv X pins σ H s) : ∀ (d : PyData) (v : V) (u : Value), Dq X.K H v d → RelV v u → RdQ s.heap u d
  | .none, _, _, h, r => by
    cases h
    cases r
    exact .none
  | .bool b, _, _, h, r => by
    cases h
    cases r
    exact .bool b
  | .int i, _, _, h, r => by
    cases h
    obtain ⟨t, rfl⟩ := r
    exact .int i t
  | .str x, _, _, h, r => by
    cases h
    obtain ⟨t, rfl⟩ := r
    exact .str x t
  | .list ds, _, _, h, r => by
    cases h with
    | lst hs ha =>
      cases r
      obtain ⟨its, rv, ⟨o, n, ho, hc, _, hd⟩, _⟩ := I.list hs
      exact .list ho hc hd (Dq.readsAll I ds _ its ha rv)
  | .tuple ds, _, _, h, r => by
    cases h with
    | tup hs ha =>
      cases r
      obtain ⟨its, rv, ⟨o, ho, hc, n, hd⟩, _⟩ := I.tuple hs
      exact .tuple ho hc hd (Dq.readsAll I ds _ its ha rv)
  | .dict _, _, _, h, r => by
    cases h with
    | dct e =>
      cases r
      obtain ⟨_, y, xs, p, o, es, ep, h1, h2, h3, h4, _⟩ := (show ObjOk X.prog X.w H s.heap _ (.dT []) from I.hok _ _ e)
      cases p
      exact .dict h1 h2.1 h3 h4 y
theorem Dq.readsAll (I : Inv X pins σ H s) : ∀ (ds : List PyData) (vs : List V) (us : List Value), DqAll X.K H vs ds → Vals vs us → RdQs s.heap us ds
  | [], _, _, h, r => by
    cases h
    cases r
    exact .nil
  | d :: ds, _, _, h, r => by
    cases h with
    | cons h1 h2 =>
      cases r with
      | cons r1 r2 => exact .cons (Dq.reads I d _ _ h1 r1) (Dq.readsAll I ds _ _ h2 r2)
end
end
section
variable {prog : Program} {w : World} {h0 : Heap}
mutual
theorem showK (hn : h0.NoDigits) : ∀ {v : Value} {p : PyData}, RdQ h0 v p → canShow p = true → p.shown.length ≤ sizeLine → ∃ bs, ReadAtMost h0 p.depth bs ∧ ReprK prog w bs h0 p.depth v p.shown
  | _, _, .none, _, _ => ⟨[], (fun _ h => nomatch h), by
      simp only [PyData.shown]
      exact ReprK.of_is ReprIs.none _ _ _⟩
  | _, _, .bool b, _, _ => ⟨[], (fun _ h => nomatch h), by
      simp only [PyData.shown]
      exact ReprK.of_is (ReprIs.bool b) _ _ _⟩
  | _, _, .int i t, c, _ => ⟨[], (fun _ h => nomatch h), by
      simp only [PyData.shown, PyData.depth]
      exact intK hn (by simpa [canShow] using c)⟩
  | _, _, .str x t, _, z => ⟨[], (fun _ h => nomatch h), by
      simp only [PyData.shown]
      exact ReprK.of_is (ReprIs.str x t (by simpa only [PyData.shown] using z)) _ _ _⟩
  | _, _, .list (a := a) (vs := vs) (xs := ps) e1 e2 e3 e4, c, z => by
    have z' : (listText (PyData.shownAll ps)).length ≤ sizeLine := by simpa only [PyData.shown] using z
    obtain ⟨bs, m, k⟩ := showsK hn e4 (by simpa [canShow] using c) fun t ht => Nat.le_trans (listText_mem_le ht) z'
    obtain ⟨as, rr⟩ := RdQ.reads (.list e1 e2 e3 e4)
    have no : a ∉ bs := not_mem_of_deeper rr (by simp only [PyData.depth]; omega) m
    refine ⟨a :: bs, ReadAtMost.cons rr (by simp only [PyData.depth]; omega) m, ?_⟩
    simp only [PyData.depth, PyData.shown]
    obtain ⟨l⟩ := vs
    cases l with
    | nil =>
      have e5 : RdQs h0 [] ps := e4
      cases e5
      simp only [PyData.shownAll, listText_nil]
      exact ReprK.listEmpty e1 e2 e3
    | cons y l =>
      refine ReprK.list e1 e2 e3 no (by simpa using k.length_eq) fun i y e => ?_
      exact k.item i y (by simpa using e)
  | _, _, .tuple (a := a) (xs := ps) e1 e2 e3 e4, c, z => by
    have z' : (tupleText (PyData.shownAll ps)).length ≤ sizeLine := by simpa only [PyData.shown] using z
    obtain ⟨bs, m, k⟩ := showsK hn e4 (by simpa [canShow] using c) fun t ht => Nat.le_trans (tupleText_mem_le ht) z'
    obtain ⟨as, rr⟩ := RdQ.reads (.tuple e1 e2 e3 e4)
    have no : a ∉ bs := not_mem_of_deeper rr (by simp only [PyData.depth]; omega) m
    refine ⟨a :: bs, ReadAtMost.cons rr (by simp only [PyData.depth]; omega) m, ?_⟩
    simp only [PyData.depth, PyData.shown]
    exact ReprK.tuple e1 e2 e3 no k
  | _, _, .dict (a := a) (es := es) e1 e2 e3 e4 e5, c, z => by
    obtain ⟨as, rr⟩ := RdQ.reads (.dict e1 e2 e3 e4 e5)
    refine ⟨[a], ReadAtMost.cons rr (Nat.zero_le _) (fun _ h => nomatch h), ?_⟩
    have := ReprK.dict (prog := prog) (w := w) (as := []) (d := 0) (ps := []) e1 e2 e3 e5 (fun h => nomatch h) (by rw [e4]; exact .nil)
    simpa only [PyData.depth, PyData.depthKv, PyData.shown, PyData.shownKv] using this
theorem showsK (hn : h0.NoDigits) : ∀ {vs : List Value} {ps : List PyData}, RdQs h0 vs ps → canShows ps = true → (∀ t ∈ PyData.shownAll ps, t.length ≤ sizeLine) →
    ∃ bs, ReadAtMost h0 (PyData.depthAll ps) bs ∧ ReprAllK prog w bs h0 (PyData.depthAll ps) vs (PyData.shownAll ps)
  | _, _, .nil, _, _ => ⟨[], (fun _ h => nomatch h), by
      simp only [PyData.shownAll]
      exact ReprAllK.nil⟩
  | _, _, .cons (d := p) (ds := ps) r q, c, z => by
    obtain ⟨c1, c2⟩ := Bool.and_eq_true_iff.mp (show (canShow p && canShows ps) = true by simpa [canShows] using c)
    simp only [PyData.shownAll, List.mem_cons] at z
    obtain ⟨b1, m1, k1⟩ := showK hn r c1 (z _ (.inl rfl))
    obtain ⟨b2, m2, k2⟩ := showsK hn q c2 fun t ht => z t (.inr ht)
    refine ⟨b1 ++ b2, fun b hb => ?_, ?_⟩
    · simp only [PyData.depthAll]
      rcases List.mem_append.mp hb with hb | hb
      · obtain ⟨d', as', r', l⟩ := m1 b hb
        exact ⟨d', as', r', Nat.le_trans l (Nat.le_max_left _ _)⟩
      · obtain ⟨d', as', r', l⟩ := m2 b hb
        exact ⟨d', as', r', Nat.le_trans l (Nat.le_max_right _ _)⟩
    · simp only [PyData.depthAll, PyData.shownAll]
      refine ReprAllK.cons ((k1.more fun b hb => ?_).level_le (Nat.le_max_left _ _)) (k2.more_le (fun b hb => ?_) (Nat.le_max_right _ _))
      · exact List.mem_append_left _ hb
      · exact List.mem_append_right _ hb
end
end
section
variable {X : Cx}
theorem Inv.nodig {pins : List (Addr × Obj)} {σ : Sl} {H : Hp} {s : Shared} (I : Inv X pins σ H s) (hn : X.base.NoDigits) : s.heap.NoDigits := hn.keeps I.bk
theorem reprCall {prog : Program} {w : World} {A : Around} {E : Value → Shared → Prop} {s : Shared} {Q : Value → Shared → Prop} (hs : s.heap.NoDigits) (hg : A.guards = some []) (hu : A.units + 64 < cLine) :
    ∀ {u : Value} {p : PyData}, RdQ s.heap u p → canShow p = true → p.depth ≤ 60 → p.shown.length ≤ sizeLine →
      (∀ h' u' tk, (∀ b o, s.heap.get? b = some o → h'.get? b = some o) → Q (.str p.shown u') { s with heap := h', toks := tk }) → wpAny (model prog w) A (call (.builtin "repr") [u]) Q E s
  | _, _, .none, _, _, _, fin => by
    simp only [PyData.shown] at fin
    exact PySem.P.repr_of_none (fin s.heap _ _ fun _ _ e => e)
  | _, _, .bool b, _, _, _, fin => by
    simp only [PyData.shown] at fin
    exact PySem.P.repr_of_bool (fin s.heap _ _ fun _ _ e => e)
  | _, _, .int i t, ok, _, _, fin => by
    simp only [PyData.shown] at fin
    have hu1 : A.units + 1 < cLine := by omega
    exact call_repr_slot hu1 (typeIs_int s i t) F.slot_int_repr.toG (intRepr hs (by simpa [canShow] using ok) ⟨_, _, rfl, fin s.heap _ _ fun _ _ e => e⟩)
  | _, _, .str y t, _, _, z1, fin => by
    simp only [PyData.shown] at fin z1
    exact PySem.P.repr_of_str (fin s.heap _ _ fun _ _ e => e) z1
  | _, _, .list (a := a) (o := o) (vs := vs) (xs := ps) e1 e2 e3 e4, ok, z3, z1, fin => by
    simp only [PyData.shown] at z1 fin
    simp only [PyData.depth] at z3
    obtain ⟨bs, m, k⟩ := showsK (prog := prog) (w := w) hs e4 (by simpa [canShow] using ok) fun t ht => Nat.le_trans (listText_mem_le ht) z1
    obtain ⟨as, rr⟩ := RdQ.reads (.list e1 e2 e3 e4)
    have no : a ∉ bs := not_mem_of_deeper rr (by simp only [PyData.depth]; omega) m
    have hu1 : A.units + 1 < cLine := by omega
    refine call_repr_slot hu1 ⟨o, e1, e2⟩ F.slot_list_repr.toG ?_
    obtain ⟨l⟩ := vs
    cases l with
    | nil =>
      have e5 : RdQs s.heap [] ps := e4
      cases e5
      simp only [PyData.shownAll, listText_nil] at fin
      exact call_list_repr_empty ⟨o, e1, e2⟩ e1 e3 ⟨_, _, rfl, fin s.heap _ _ fun _ _ e => e⟩
    | cons y l =>
      refine call_list_reprK e1 e2 e3 no (by simpa using k.length_eq) (fun i y e => k.item i y (by simpa using e)) (A := A.in1) hg (fun b _ => Clear.nil b) ?_ (fun _ _ e => e) (fun h' u' tk hk => ⟨_, _, rfl, fin h' u' tk hk⟩) z1
      show A.units + 1 + _ < cLine
      omega
  | _, _, .tuple (a := a) (o := o) (xs := ps) e1 e2 e3 e4, ok, z3, z1, fin => by
    simp only [PyData.shown] at z1 fin
    simp only [PyData.depth] at z3
    obtain ⟨bs, m, k⟩ := showsK (prog := prog) (w := w) hs e4 (by simpa [canShow] using ok) fun t ht => Nat.le_trans (tupleText_mem_le ht) z1
    obtain ⟨as, rr⟩ := RdQ.reads (.tuple e1 e2 e3 e4)
    have no : a ∉ bs := not_mem_of_deeper rr (by simp only [PyData.depth]; omega) m
    have hu1 : A.units + 1 < cLine := by omega
    refine call_repr_slot hu1 ⟨o, e1, e2⟩ F.slot_tuple_repr ?_
    refine call_tuple_reprK e1 e2 e3 no k (A := A.in1) hg (fun b _ => Clear.nil b) ?_ (fun _ _ e => e) (fun h' u' tk hk => ⟨_, _, rfl, fin h' u' tk hk⟩) z1
    show A.units + 1 + _ < cLine
    omega
  | _, _, .dict (a := a) (o := o) (es := es) e1 e2 e3 e4 e5, ok, z3, z1, fin => by
    simp only [PyData.shown, PyData.shownKv] at z1 fin
    have hu1 : A.units + 1 < cLine := by omega
    refine call_repr_slot hu1 ⟨o, e1, e2⟩ F.slot_dict_repr ?_
    refine call_dict_reprK (as := []) (d := 0) (ps := []) e1 e2 e3 e5 (fun h => nomatch h) (by rw [e4]; exact .nil) (A := A.in1) hg (fun b _ => Clear.nil b) ?_ (fun _ _ e => e) (fun h' u' tk hk => ⟨_, _, rfl, fin h' u' tk hk⟩) z1
    show A.units + 1 + _ < cLine
    omega
theorem call_reprD (hn : X.base.NoDigits) (hg : X.A.guards = some []) (hu : X.A.units + 64 < cLine) :
    CallR X (.builtin "repr") fun xs H Q => ∃ x p, xs = [x] ∧ Dq X.K H x p ∧ reprOk p = true ∧ Q (.str p.shown) H := by
  intro pins s σ H xs us Q I r h
  obtain ⟨x, p, rfl, dp, ok, q⟩ := h
  obtain ⟨u, rfl, ru⟩ := vals1 r
  have rr := Dq.reads I p x u dp ru
  obtain ⟨ok, z⟩ := Bool.and_eq_true_iff.mp ok
  obtain ⟨ok, z2⟩ := Bool.and_eq_true_iff.mp ok
  refine reprCall (Inv.nodig I hn) hg hu rr ok (of_decide_eq_true z2) (Nat.le_trans (of_decide_eq_true z) (by decide)) fun h' u' tk k => ?_
  exact ⟨.str p.shown, H, I.kept k, ⟨_, rfl⟩, q⟩
end
end Fz

/-! Q6d: the sum of a tuple; a dict out of pairs. -/
namespace Fz
open PySem PySem.Spec PyProof.Rows L2
section
variable {prog : Program} {w : World} {A : Around} {E : Value → Shared → Prop} {s : Shared} {l : Addr}
theorem sum_intTup {xs : Array (Int × Tok)} {Q : Value → Shared → Prop} (hh : A.handled = none) (hl : s.heap.IsTuple l (intItems xs))
    (h : ∀ h' tk t', (∀ b o, s.heap.get? b = some o → h'.get? b = some o) → Q (.int (preSum (numAt xs) xs.size) t') { s with heap := h', toks := tk }) :
    wpAny (model prog w) A (call (.builtin "sum") [.ref l]) Q E s := by
  have hlt : l < s.heap.objs.size := by obtain ⟨_, e, _⟩ := hl; exact Heap.lt_size e
  refine call_sum_walkG (wpAny_pyIter_tuple hl ?_)
  have hsz : (s.heap.push { cls := .type "tuple_iterator", data := .fields #[.ref l, .int 0 0] }).objs.size = s.heap.objs.size + 1 := Heap.size_push ..
  refine ⟨_, [_, l], [_], _, _, _, numAt xs, rfl, Walks.tuple (A := A.in1) hh _ l (Nat.ne_of_lt hlt) (intItems xs), ⟨⟨_, Heap.get?_push_size _ rfl, rfl, rfl⟩, hl.push _⟩, fun c hc => ?_, (fun _ _ => intItems_at), fun h' tk t' hk => ?_⟩
  · show c < (s.heap.push _).objs.size
    rw [Heap.size_push]
    rcases List.mem_cons.mp hc with rfl | hc
    · exact Nat.lt_succ_self _
    · rw [List.mem_singleton] at hc; rw [hc]; exact Nat.lt_succ_of_lt hlt
  · have := h h' tk t' (fun b o e => hk b o (fun z => by rw [List.mem_singleton] at z; subst z; exact absurd (Heap.lt_size e) (Nat.lt_irrefl _)) (Heap.get?_push_of_some _ e))
    simpa [intItems] using this
theorem sumT_raw {its : List Value} {ns : List Int} {Q : Value → Shared → Prop} (hh : A.handled = none) (hl : s.heap.IsTuple l its.toArray) (hi : IntsAre its ns)
    (h : ∀ h' tk t', (∀ b o, s.heap.get? b = some o → h'.get? b = some o) → Q (.int ns.sum t') { s with heap := h', toks := tk }) : wpAny (model prog w) A (call (.builtin "sum") [.ref l]) Q E s := by
  obtain ⟨xs, e⟩ := hi.allInts.items
  have hn : numsOf (intItems xs).toList = ns := by rw [← e]; exact hi.numsOf
  rw [nums_intItems] at hn
  rw [e] at hl
  refine sum_intTup hh hl fun h' tk t' hk => ?_
  have := h h' tk t' hk
  rw [preSum_eq, List.take_of_length_le (by simp), hn]; exact this
end
section
variable {X : Cx}
theorem cr_sumT (hc : X.calm = true) : CallR X (.builtin "sum") (fun vs H Q => ∃ (a : Addr) (ns : List Int), vs = [V.ref a] ∧ SqT X.K H a (ns.map V.int) ∧ Q (.int ns.sum) H) := by
  intro pins s σ H vs us Q I r h
  obtain ⟨a, ns, rfl, hs, q⟩ := h
  obtain ⟨its, rv, hl, _⟩ := I.tuple hs
  rw [Vals.ref1 r]
  exact sumT_raw (I.ok.hd hc) hl rv.ints fun h' tk t' hk => ⟨.int _, H, I.kept hk, ⟨_, rfl⟩, q⟩
end
/-! ### a dict's keys -/
theorem putK_new {kvs : List (Key × V)} {k : Key} {v : V} (h : k ∉ kvs.map Prod.fst) : putK kvs k v = kvs ++ [(k, v)] := by
  unfold putK
  rw [if_neg]
  intro z
  obtain ⟨kv, hkv, e⟩ := List.any_eq_true.mp z
  exact h (List.mem_map.mpr ⟨kv, hkv, of_decide_eq_true e⟩)
theorem mergeK_app : ∀ (more kvs : List (Key × V)), ((kvs ++ more).map Prod.fst).Nodup → mergeK kvs more = kvs ++ more
  | [], kvs, _ => by simp [mergeK]
  | (k, v) :: r, kvs, h => by
    show mergeK (putK kvs k v) r = _
    rw [putK_new (by
      rw [List.map_append, List.nodup_append] at h
      intro z
      exact h.2.2 k z k (by simp) rfl), mergeK_app r _ (by simpa using h)]
    simp
theorem mergeK_nil {kvs : List (Key × V)} (h : (kvs.map Prod.fst).Nodup) : mergeK [] kvs = kvs := by
  rw [mergeK_app kvs [] (by simpa using h)]
  rfl
theorem lkp_at {K : PySem.W.Frag} {H : Hp} {A : Ad} : ∀ {ks : List Str} {ds : List D} {kvs : List (Key × V)} {x : Str} {d : D}, kvs.map Prod.fst = ks.map Sum.inr → RDs K H A ds (kvs.map Prod.snd) → lkp ks ds x = some d → ∃ v, valV kvs (.inr x) = some v ∧ RD K H A d v
  | [], _, _, _, _, _, _, e => by simp [lkp] at e
  | k :: ks, [], _, _, _, _, _, e => by simp [lkp] at e
  | k :: ks, d :: ds, [], _, _, h, _, _ => by simp at h
  | k :: ks, d :: ds, (k', v) :: kvs, x, d', h, r, e => by
    obtain ⟨h1, h2⟩ : k' = .inr k ∧ kvs.map Prod.fst = ks.map Sum.inr := by simpa using h
    obtain ⟨r1, r2⟩ := RDs.cons_iff.mp (show RDs K H A (d :: ds) (v :: kvs.map Prod.snd) from r)
    subst h1
    unfold lkp at e
    unfold valV
    by_cases hx : k = x
    · subst hx
      rw [if_pos rfl] at e
      cases e
      exact ⟨v, by simp, r1⟩
    · rw [if_neg hx] at e
      obtain ⟨v', q1, q2⟩ := lkp_at h2 r2 e
      refine ⟨v', ?_, q2⟩
      rw [List.find?_cons_of_neg (by simpa using hx)]
      exact q1
theorem prs_at {K : PySem.W.Frag} {H : Hp} {A : Ad} : ∀ {xs : List D} {vs : List V} {ks : List Str} {ds : List D}, RDs K H A xs vs → prsD xs = some (ks, ds) → ∃ (ps : List Addr) (kvs : List (Key × V)), vs = ps.map V.ref ∧ Paired (fun p kv => SqT K H p [kV kv.1, kv.2]) ps kvs ∧ kvs.map Prod.fst = ks.map Sum.inr ∧ RDs K H A ds (kvs.map Prod.snd)
  | [], _, ks, ds, h, e => by
    rw [show _ = [] from h]
    cases e
    exact ⟨[], [], rfl, .nil, rfl, rfl⟩
  | x :: xs, vs, ks, ds, h, e => by
    obtain ⟨v, r, rfl, h1, h2⟩ := h
    unfold prsD at e
    split at e
    · rename_i z
      cases z
    · rename_i k d rest heq
      cases heq
      obtain ⟨p, e1, e2⟩ := Option.map_eq_some_iff.mp e
      cases e2
      obtain ⟨ps, kvs, rfl, q1, q2, q3⟩ := prs_at h2 e1
      obtain ⟨a, us, rfl, t1, t2⟩ := h1
      obtain ⟨u1, us1, rfl, t3, t4⟩ := t2
      obtain ⟨u2, us2, rfl, t5, t6⟩ := t4
      rw [show us2 = [] from t6] at t1
      rw [show u1 = .str k from t3] at t1
      exact ⟨a :: ps, (.inr k, u2) :: kvs, rfl, .cons t1 q1, by simp [q2], RDs.cons_iff.mpr ⟨t5, q3⟩⟩
    · cases e
section
variable {K : PySem.W.Frag} {H H' : Hp} {A A' : Ad} {w w' : Wd} {σ : Sl} {Q : VK}
theorem Aft.newD {ks : List Str} {ds : List D} {kvs : List (Key × V)} (S : Sim K H A w σ) (h0 : ks ≠ []) (hn : ks.Nodup) (e : kvs.map Prod.fst = ks.map Sum.inr) (r : RDs K H A ds (kvs.map Prod.snd)) (q : Aft K A H σ (.dic ks ds) w Q) :
    ∀ p, H p = none → Q (.ref p) (upd H p (.dK (mergeK [] kvs))) := by
  intro p hp
  have hk : (kvs.map Prod.fst).Nodup := by
    rw [e]
    exact List.nodup_iff_pairwise_ne.mpr (List.pairwise_map.mpr ((List.nodup_iff_pairwise_ne.mp hn).imp fun h z => h (Sum.inr.inj z)))
  rw [mergeK_nil hk]
  obtain ⟨⟨f1, f2, f4⟩, f3⟩ := S.fresh hp
  have s0 : Step A H A (upd H p (.dK kvs)) := Step.new hp f4
  exact q A _ _ s0 (S.new hp) ⟨p, rfl, ⟨f1, f2, f4⟩, f3, .inr ⟨kvs, upd_same, ⟨h0, hn, e⟩, r.step s0.toCar⟩⟩
end
end Fz

/-! Q6s: sorted lists of ints, of tuples of ints; in, by values. -/
namespace Fz
open PySem PySem.Spec PyProof.Rows L2
/-! ### one sorted list -/
theorem perm_back {α β : Type} (f : α → β) {l m : List β} (h : l.Perm m) : ∀ ks : List α, m = ks.map f → ∃ L : List α, L.Perm ks ∧ l = L.map f := by
  induction h with
  | nil => intro ks e; exact ⟨[], by rw [List.map_eq_nil_iff.mp e.symm], rfl⟩
  | @cons x l1 l2 _ ih =>
    intro ks e
    cases ks with
    | nil => cases e
    | cons k ks =>
      rw [List.map_cons] at e
      obtain ⟨e1, e2⟩ := List.cons.inj e
      obtain ⟨L, p, e3⟩ := ih ks e2
      exact ⟨k :: L, p.cons k, by rw [List.map_cons, e1, e3]⟩
  | swap x y l =>
    intro ks e
    cases ks with
    | nil => cases e
    | cons k ks =>
      cases ks with
      | nil => cases e
      | cons k2 ks =>
        rw [List.map_cons, List.map_cons] at e
        obtain ⟨e1, e2⟩ := List.cons.inj e
        obtain ⟨e2, e3⟩ := List.cons.inj e2
        exact ⟨k2 :: k :: ks, List.Perm.swap _ _ _, by rw [List.map_cons, List.map_cons, e1, e2, e3]⟩
  | trans _ _ ih1 ih2 =>
    intro ks e
    obtain ⟨L, p, e1⟩ := ih2 ks e
    obtain ⟨L2, p2, e2⟩ := ih1 L e1
    exact ⟨L2, p2.trans p, e2⟩
theorem sorted_uniq {α : Type} (c : α → Int) : ∀ {l m : List α}, (∀ x ∈ l, ∀ y ∈ l, c x = c y → x = y) → l.Perm m → l.Pairwise (fun x y => c x ≤ c y) → m.Pairwise (fun x y => c x ≤ c y) → l = m
  | [], m, _, h, _, _ => (List.Perm.eq_nil h.symm).symm
  | x :: l, [], _, h, _, _ => absurd h.length_eq (by simp)
  | x :: l, y :: m, hi, h, hl, hm => by
    obtain ⟨l1, l2⟩ := List.pairwise_cons.mp hl
    obtain ⟨m1, m2⟩ := List.pairwise_cons.mp hm
    have hx : x ∈ y :: m := h.mem_iff.mp List.mem_cons_self
    have hy : y ∈ x :: l := h.mem_iff.mpr List.mem_cons_self
    have e1 : c x ≤ c y := by
      rcases List.mem_cons.mp hy with e | e
      · rw [e]; exact Int.le_refl _
      · exact l1 y e
    have e2 : c y ≤ c x := by
      rcases List.mem_cons.mp hx with e | e
      · rw [e]; exact Int.le_refl _
      · exact m1 x e
    have e : x = y := hi x List.mem_cons_self y hy (Int.le_antisymm e1 e2)
    subst e
    rw [sorted_uniq c (fun a ha b hb => hi a (List.mem_cons_of_mem _ ha) b (List.mem_cons_of_mem _ hb)) h.cons_inv l2 m2]
/-! ### ints -/
theorem insI_perm (x : Int) : ∀ l, (insI x l).Perm (x :: l)
  | [] => List.Perm.refl _
  | y :: ys => by
    unfold insI
    split
    · exact List.Perm.refl _
    · exact ((insI_perm x ys).cons y).trans (List.Perm.swap _ _ _)
theorem sortI_perm : ∀ l, (sortI l).Perm l
  | [] => List.Perm.refl _
  | x :: xs => (insI_perm x (sortI xs)).trans ((sortI_perm xs).cons x)
theorem insI_srt (x : Int) : ∀ l : List Int, l.Pairwise (· ≤ ·) → (insI x l).Pairwise (· ≤ ·)
  | [], _ => List.pairwise_singleton _ _
  | y :: ys, h => by
    obtain ⟨h1, h2⟩ := List.pairwise_cons.mp h
    unfold insI
    split
    · rename_i hxy
      refine List.pairwise_cons.mpr ⟨fun z hz => ?_, h⟩
      rcases List.mem_cons.mp hz with e | e
      · rw [e]; exact hxy
      · exact Int.le_trans hxy (h1 z e)
    · rename_i hxy
      refine List.pairwise_cons.mpr ⟨fun z hz => ?_, insI_srt x ys h2⟩
      rcases List.mem_cons.mp ((insI_perm x ys).mem_iff.mp hz) with e | e
      · rw [e]; omega
      · exact h1 z e
theorem sortI_srt : ∀ l, (sortI l).Pairwise (· ≤ ·)
  | [] => List.Pairwise.nil
  | x :: xs => insI_srt x _ (sortI_srt xs)
/-! ### tuples of ints -/
theorem insT_perm (x : List Int) : ∀ l, (insT x l).Perm (x :: l)
  | [] => List.Perm.refl _
  | y :: ys => by
    unfold insT
    split
    · exact List.Perm.refl _
    · exact ((insT_perm x ys).cons y).trans (List.Perm.swap _ _ _)
theorem sortT_perm : ∀ l, (sortT l).Perm l
  | [] => List.Perm.refl _
  | x :: xs => (insT_perm x (sortT xs)).trans ((sortT_perm xs).cons x)
theorem lex_code {B : Int} : ∀ {x y : List Int}, x.length = y.length → TS.Bd B x → TS.Bd B y → (lexLe x y = true → TS.code B x ≤ TS.code B y) ∧ (lexLe x y = false → TS.code B y ≤ TS.code B x) ∧ (TS.code B x = TS.code B y → x = y)
  | [], [], _, _, _ => ⟨fun _ => Int.le_refl _, fun _ => Int.le_refl _, fun _ => rfl⟩
  | [], _ :: _, h, _, _ => nomatch h
  | _ :: _, [], h, _, _ => nomatch h
  | a :: x, b :: y, hl, hx, hy => by
    have hl' : x.length = y.length := by simpa using hl
    have ih := lex_code hl' hx.tail hy.tail
    unfold lexLe
    by_cases h1 : a < b
    · have h := TS.code_lt hl' hx.tail hy.tail h1
      refine ⟨fun _ => Int.le_of_lt h, fun z => ?_, fun z => ?_⟩
      · rw [if_pos h1] at z; cases z
      · omega
    · by_cases h2 : b < a
      · have h := TS.code_lt hl'.symm hy.tail hx.tail h2
        refine ⟨fun z => ?_, fun _ => Int.le_of_lt h, fun z => ?_⟩
        · rw [if_neg h1, if_pos h2] at z; cases z
        · omega
      · have e : a = b := by omega
        subst e
        rw [if_neg h1, if_neg h2]
        have c1 : TS.code B (a :: x) = a * B ^ x.length + TS.code B x := rfl
        have c2 : TS.code B (a :: y) = a * B ^ y.length + TS.code B y := rfl
        rw [c1, c2, hl']
        refine ⟨fun z => ?_, fun z => ?_, fun z => ?_⟩
        · have := ih.1 z; omega
        · have := ih.2.1 z; omega
        · rw [ih.2.2 (by omega)]
theorem insT_srt {B : Int} {d : Nat} (x : List Int) (hx : x.length = d ∧ TS.Bd B x) : ∀ l : List (List Int), (∀ y ∈ l, y.length = d ∧ TS.Bd B y) → l.Pairwise (fun a b => TS.code B a ≤ TS.code B b) → (insT x l).Pairwise (fun a b => TS.code B a ≤ TS.code B b)
  | [], _, _ => List.pairwise_singleton _ _
  | y :: ys, hy, h => by
    obtain ⟨h1, h2⟩ := List.pairwise_cons.mp h
    have hy0 := hy y List.mem_cons_self
    have lc := lex_code (hx.1.trans hy0.1.symm) hx.2 hy0.2
    unfold insT
    split
    · rename_i hxy
      refine List.pairwise_cons.mpr ⟨fun z hz => ?_, h⟩
      rcases List.mem_cons.mp hz with e | e
      · rw [e]; exact lc.1 hxy
      · exact Int.le_trans (lc.1 hxy) (h1 z e)
    · rename_i hxy
      refine List.pairwise_cons.mpr ⟨fun z hz => ?_, insT_srt x hx ys (fun z hz => hy z (List.mem_cons_of_mem _ hz)) h2⟩
      rcases List.mem_cons.mp ((insT_perm x ys).mem_iff.mp hz) with e | e
      · rw [e]; exact lc.2.1 (by simpa using hxy)
      · exact h1 z e
theorem sortT_srt {B : Int} {d : Nat} : ∀ l : List (List Int), (∀ y ∈ l, y.length = d ∧ TS.Bd B y) → (sortT l).Pairwise (fun a b => TS.code B a ≤ TS.code B b)
  | [], _ => List.Pairwise.nil
  | x :: xs, h => insT_srt x (h x List.mem_cons_self) _ (fun y hy => h y (List.mem_cons_of_mem _ ((sortT_perm xs).mem_iff.mp hy))) (sortT_srt xs fun y hy => h y (List.mem_cons_of_mem _ hy))
theorem tupOk_of : ∀ {l : List (List Int)}, tupOk l = true → l.length < 64 ∧ ∃ d, 1 ≤ d ∧ ∀ y ∈ l, y.length = d ∧ TS.Bd 1000000000 y
  | [], _ => ⟨by decide, 1, Nat.le_refl _, fun _ h => nomatch h⟩
  | x :: xs, h => by
    obtain ⟨h1, h2⟩ := Bool.and_eq_true_iff.mp (show (decide (1 ≤ x.length ∧ (x :: xs).length < 64) && (x :: xs).all fun y => decide (y.length = x.length) && y.all fun i => decide (0 ≤ i ∧ i < 1000000000)) = true from h)
    obtain ⟨h3, h4⟩ := of_decide_eq_true h1
    refine ⟨h4, x.length, h3, fun y hy => ?_⟩
    obtain ⟨h5, h6⟩ := Bool.and_eq_true_iff.mp (List.all_eq_true.mp h2 y hy)
    exact ⟨of_decide_eq_true h5, fun i hi => of_decide_eq_true (List.all_eq_true.mp h6 i hi)⟩
theorem tups_at {K : PySem.W.Frag} {H : Hp} {A : Ad} : ∀ {xs : List D} {vs : List V} {ts : List (List Int)}, RDs K H A xs vs → tupD xs = some ts → ∃ ks : List (Addr × List Int), vs = ks.map (fun p => V.ref p.1) ∧ (∀ p ∈ ks, SqT K H p.1 (p.2.map V.int)) ∧ ks.map (·.2) = ts
  | [], vs, ts, h, e => by
    rw [show vs = [] from h]
    cases e
    exact ⟨[], rfl, fun _ h => (nomatch h), rfl⟩
  | x :: xs, vs, ts, h, e => by
    obtain ⟨v, r, rfl, h1, h2⟩ := h
    cases x with
    | tup ds =>
      obtain ⟨ns, e1, e⟩ := Option.bind_eq_some_iff.mp (show ((intD ds).bind fun ns => (tupD xs).map fun xs => ns :: xs) = some ts from e)
      obtain ⟨rest, e2, rfl⟩ := Option.map_eq_some_iff.mp e
      obtain ⟨a, us, rfl, t1, t2⟩ := h1
      obtain ⟨ks, rfl, k1, k2⟩ := tups_at h2 e2
      have ev := t2.ints e1
      subst ev
      refine ⟨(a, ns) :: ks, rfl, fun p hp => ?_, by rw [List.map_cons, k2]⟩
      rcases List.mem_cons.mp hp with rfl | hp
      · exact t1
      · exact k1 p hp
    | _ => cases e
theorem tups_rd {K : PySem.W.Frag} {H : Hp} {A : Ad} : ∀ {ks : List (Addr × List Int)}, (∀ p ∈ ks, SqT K H p.1 (p.2.map V.int)) → RDs K H A ((ks.map (·.2)).map tupI) (ks.map fun p => V.ref p.1)
  | [], _ => (rfl : _ = _)
  | p :: ks, h => by
    have ri : ∀ ns : List Int, RDs K H A (ns.map D.int) (ns.map V.int) := fun ns => by
      induction ns with
      | nil => exact (rfl : _ = _)
      | cons n ns ih => exact RDs.cons_iff.mpr ⟨rfl, ih⟩
    exact RDs.cons_iff.mpr ⟨⟨p.1, _, rfl, h p List.mem_cons_self, ri p.2⟩, tups_rd fun q hq => h q (List.mem_cons_of_mem _ hq)⟩
section
variable {X : Cx}
theorem cr_sortedTs : CallR X (.builtin "sorted") (fun vs H Q => ∃ (a : Addr) (ks : List (Addr × List Int)) (d : Nat) (B : Int), vs = [V.ref a] ∧ SqL X.K H a (ks.map fun p => V.ref p.1) ∧ (∀ p ∈ ks, SqT X.K H p.1 (p.2.map V.int)) ∧ ks.length < 64 ∧ 1 ≤ d ∧ (∀ p ∈ ks, p.2.length = d ∧ TS.Bd B p.2) ∧
    ∀ (L : List (Addr × List Int)) (p : Addr), L.Perm ks → L.Pairwise (fun q r => TS.code B q.2 ≤ TS.code B r.2) → H p = none → Q (.ref p) (upd H p (.lst (L.map fun q => V.ref q.1)))) := by
  intro pins s σ H vs us Q I r h
  obtain ⟨a, ks, d, B, rfl, hl, hk, h64, hd, hB, q⟩ := h
  rw [Vals.ref1 r]
  obtain ⟨its, rv, pl, hz⟩ := I.list hl
  have ei := refs_of_vals rv
  subst ei
  have ti : ∀ p ∈ ks, TS.TupInts s.heap (.ref p.1) p.2 := fun p hp => by
    obtain ⟨us, r2, t, _⟩ := I.tuple (hk p hp)
    exact ⟨p.1, us.toArray, rfl, t, by simpa using r2.ints⟩
  refine TS.sorted_tups (d := d) (B := B) pl.isList (by rw [List.length_map]; exact h64) hd (fun v hv => ?_) fun out h1 h2 => ?_
  · obtain ⟨p, hp, rfl⟩ := List.mem_map.mp hv
    exact ⟨p.2, ti p hp, hB p hp⟩
  obtain ⟨L, pm, eo⟩ := perm_back (fun p : Addr × List Int => Value.ref p.1) h1 ks rfl
  have pw : L.Pairwise (fun q r => TS.code B q.2 ≤ TS.code B r.2) := by
    rw [eo, List.pairwise_map] at h2
    refine List.Pairwise.imp_of_mem (fun {q r} hq hr h => ?_) h2
    rw [(ti q (pm.mem_iff.mp hq)).ints, (ti r (pm.mem_iff.mp hr)).ints] at h
    exact h
  obtain ⟨ep, he'⟩ := PyProof.Rows.sortedAll_at s.heap (ks.map fun p => Value.ref p.1) out
  have hlen : (L.map fun q => V.ref q.1).length ≤ sizeLine := by rw [List.length_map, pm.length_eq, sizeLine_eq]; omega
  refine ⟨.ref _, upd H (s.heap.objs.size + 1) (.lst (L.map fun q => V.ref q.1)), I.laid (t' := s.toks) (fun _ _ => PyProof.Rows.sortedAll_old) (Nat.le_succ _) ⟨hlen, out.toList, ep, by rw [eo]; exact vals_of_refs L, by rw [Array.toArray_toList]; exact he'⟩, rfl, q L _ pm pw (I.hok.fresh (Nat.le_succ _))⟩
end
section
variable {prog : Program} {w : World} {A : Around} {Er : Value → Shared → Prop} {s : Shared}
theorem collect_tup {l : Addr} {vs : List Value} {Q : List Value → Shared → Prop} (hl : s.heap.IsTuple l vs.toArray)
    (h : Q vs { s with heap := (s.heap.push (seqObj "list" #[] 0)).update s.heap.objs.size (Obj.mapSeq (· ++ vs.toArray)) }) (hsz : vs.length ≤ sizeLine) :
    wpAny (model prog w) A (collect (.ref l)) Q Er s := by
  obtain ⟨o, ho, hc, n, hd⟩ := id hl
  unfold collect
  refine wpAny_bind (wpAny_runValue (codeAny_builtin entry_proto_collect' ?_))
  show wpAny _ _ (do again (.builtin "list.__iadd__" ⟨[← newList [], .ref l], []⟩)) _ _ s
  refine wpAny_bind (wpAny_newList (wpAny_pure ⟨Code.quiet_builtin _ (by decide +kernel), codeAny_builtin entry_list_iadd' ?_⟩))
  show wpAny _ _ (Builtin.List.listExtendWith (.ref s.heap.objs.size) (.ref l) (.ref s.heap.objs.size)) _ _ { s with heap := s.heap.push (seqObj "list" #[] 0) }
  unfold Builtin.List.listExtendWith
  have ho' : (s.heap.push (seqObj "list" #[] 0)).get? l = some o := Heap.get?_push_of_some _ ho
  refine wpAny_bind (wpAny_typeOf (T := "tuple") ⟨o, ho', hc⟩ ?_)
  have ht : (Value.type "tuple" == Value.type "tuple") = true := by rfl
  rw [if_pos (by rw [ht]; simp)]
  refine wpAny_bind (listItems_at ho' hd ?_)
  refine wpAny_bind (listItems_at (xs := #[]) (n := 0) (Heap.get?_push_size _ rfl) rfl ?_)
  rw [if_neg (by simp)]
  refine wpAny_bind (listUpdate_at (xs := #[]) (n := 0) (Heap.get?_push_size _ rfl) rfl ?_ (Nat.zero_le _) (by show (#[] ++ vs.toArray).size ≤ sizeLine + 1; simp only [Array.size_append, List.size_toArray, List.length_nil]; omega))
  refine wpAny_pure ?_
  show wpAny (model prog w) A (do
      let o ← load s.heap.objs.size
      match o.data with
      | .seq xs _ => pure xs.toList
      | _ => unsupported "internal:collect") Q Er { s with heap := (s.heap.push (seqObj "list" #[] 0)).update s.heap.objs.size (Obj.mapSeq (· ++ vs.toArray)) }
  refine wpAny_bind (wpAny_load (get?_update_seq (Heap.get?_push_size _ rfl) _) ?_)
  show wpAny _ _ (pure ((#[] : Array Value) ++ vs.toArray).toList) Q Er _
  rw [show ((#[] : Array Value) ++ vs.toArray).toList = vs by simp]
  exact wpAny_pure h
open TS in
/-- sorted(xs) of a tuple of tuples -/
theorem sorted_tupsT {l : Addr} {vs : List Value} {d : Nat} {B : Int} {Q : Value → Shared → Prop} (hl : s.heap.IsTuple l vs.toArray) (h64 : vs.length < 64) (hd : 1 ≤ d) (x : TupsOk s.heap d B vs)
    (h : ∀ out : Array Value, out.toList.Perm vs → out.toList.Pairwise (fun u v => code B (intsOf s.heap u) ≤ code B (intsOf s.heap v)) → Q (.ref (s.heap.objs.size + 1)) { s with heap := sortedAll s.heap vs out }) :
    wpAny (model prog w) A (call (.builtin "sorted") [.ref l]) Q Er s := by
  refine Calls.call_function_entry kind_sorted plain_sorted entry_sorted (args_sorted1 _) ?_
  unfold Builtin.«sorted»
  refine wpAny_bind (m := checkCount "sorted" 1 1 _) (wpAny_pure ?_)
  refine wpAny_bind (collect_tup hl ?_ (by rw [sizeLine_eq]; omega))
  refine wpAny_bind (wpAny_newList ?_ (by rw [sizeLine_eq]; omega))
  have hsz : ((s.heap.push (seqObj "list" #[] 0)).update s.heap.objs.size (Obj.mapSeq (· ++ vs.toArray))).objs.size = s.heap.objs.size + 1 := by
    rw [Heap.size_update, size_push']
  have hoL : (((s.heap.push (seqObj "list" #[] 0)).update s.heap.objs.size (Obj.mapSeq (· ++ vs.toArray))).push (seqObj "list" vs.toArray 0)).get? (s.heap.objs.size + 1) = some (seqObj "list" vs.toArray 0) := by
    rw [← hsz]; exact Heap.get?_push_size _ rfl
  have keep : ∀ b o, s.heap.get? b = some o → o.cls = .type "tuple" → (((s.heap.push (seqObj "list" #[] 0)).update s.heap.objs.size (Obj.mapSeq (· ++ vs.toArray))).push (seqObj "list" vs.toArray 0)).get? b = some o := fun b o q _ => by
    have hlt : b < s.heap.objs.size := Heap.lt_size q
    rw [Heap.get?_push_ne _ _ _ (by rw [hsz]; exact Nat.ne_of_lt (Nat.lt_succ_of_lt hlt)), Heap.get?_update_ne _ _ _ _ (Nat.ne_of_lt hlt), Heap.get?_push_ne _ _ _ (Nat.ne_of_lt hlt)]
    exact q
  show wpAny _ _ _ _ _ { s with heap := ((s.heap.push (seqObj "list" #[] 0)).update s.heap.objs.size (Obj.mapSeq (· ++ vs.toArray))).push (seqObj "list" vs.toArray 0) }
  rw [hsz]
  refine wpAny_bind (wpAny_holding (wpAny_call_entry slot_list_sort ⟨_, hoL, rfl⟩ entry_list_sort (sort_tups hoL h64 hd (x.keeps keep) (fun v => code B (intsOf s.heap v)) (fun v hv ns t => ?_) fun out a1 a2 => ⟨_, rfl, ?_⟩) (args_list_sort _)))
  · obtain ⟨ns0, t0, _⟩ := x v hv
    have e : ns = ns0 := t.ints.symm.trans (t0.keeps keep).ints
    rw [e]
    show code B (intsOf s.heap v) = code B ns0
    rw [t0.ints]
  · exact wpAny_pure ⟨_, rfl, h out a1 a2⟩
open SrtO in
theorem sorted_ordT {l : Addr} {vs : List Value} {ltv : Value → Value → Bool} {Q : Value → Shared → Prop} (O : Swo ltv) (hl : s.heap.IsTuple l vs.toArray) (hz : vs.length ≤ sizeLine)
    (hS : 2 ≤ vs.length → ∀ (h₁ : Heap) (a : Addr), h₁.get? a = some (seqObj "list" vs.toArray 0) → (∀ b o, s.heap.get? b = some o → b ≠ a ∧ h₁.get? b = some o) → SortableO prog w A.in1.in1 { s with heap := h₁ } a vs ltv)
    (h : ∀ out : List Value, Srtd ltv out → Stb ltv out vs → Q (.ref (s.heap.objs.size + 1)) { s with heap := sortedAll s.heap vs out.toArray }) :
    wpAny (model prog w) A (call (.builtin "sorted") [.ref l]) Q Er s := by
  refine Calls.call_function_entry kind_sorted plain_sorted entry_sorted (args_sorted1 _) ?_
  unfold Builtin.«sorted»
  refine wpAny_bind (m := checkCount "sorted" 1 1 _) (wpAny_pure ?_)
  refine wpAny_bind (collect_tup hl ?_ hz)
  refine wpAny_bind (wpAny_newList ?_ hz)
  have hsz : ((s.heap.push (seqObj "list" #[] 0)).update s.heap.objs.size (Obj.mapSeq (· ++ vs.toArray))).objs.size = s.heap.objs.size + 1 := by
    rw [Heap.size_update, size_push']
  have hoL : (((s.heap.push (seqObj "list" #[] 0)).update s.heap.objs.size (Obj.mapSeq (· ++ vs.toArray))).push (seqObj "list" vs.toArray 0)).get? (s.heap.objs.size + 1) = some (seqObj "list" vs.toArray 0) := by
    rw [← hsz]; exact Heap.get?_push_size _ rfl
  have keep : ∀ b o, s.heap.get? b = some o → b ≠ s.heap.objs.size + 1 ∧ (((s.heap.push (seqObj "list" #[] 0)).update s.heap.objs.size (Obj.mapSeq (· ++ vs.toArray))).push (seqObj "list" vs.toArray 0)).get? b = some o := fun b o q => by
    have hlt : b < s.heap.objs.size := Heap.lt_size q
    refine ⟨Nat.ne_of_lt (Nat.lt_succ_of_lt hlt), Heap.get?_push_of_some _ ?_⟩
    rw [Heap.get?_update_ne _ _ _ _ (Nat.ne_of_lt hlt)]
    exact Heap.get?_push_of_some _ q
  show wpAny _ _ _ _ _ { s with heap := ((s.heap.push (seqObj "list" #[] 0)).update s.heap.objs.size (Obj.mapSeq (· ++ vs.toArray))).push (seqObj "list" vs.toArray 0) }
  rw [hsz]
  refine wpAny_bind (wpAny_holding (wpAny_call_entry slot_list_sort ⟨_, hoL, rfl⟩ entry_list_sort (list_sort_ord O hoL hz (fun h2 => hS h2 _ _ hoL keep) fun out hs hb => ⟨_, rfl, ?_⟩) (args_list_sort _)))
  exact wpAny_pure ⟨_, rfl, h out hs hb⟩
end
section
variable {X : Cx}
theorem cr_sortedTsT : CallR X (.builtin "sorted") (fun vs H Q => ∃ (a : Addr) (ks : List (Addr × List Int)) (d : Nat) (B : Int), vs = [V.ref a] ∧ SqT X.K H a (ks.map fun p => V.ref p.1) ∧ (∀ p ∈ ks, SqT X.K H p.1 (p.2.map V.int)) ∧ ks.length < 64 ∧ 1 ≤ d ∧ (∀ p ∈ ks, p.2.length = d ∧ TS.Bd B p.2) ∧
    ∀ (L : List (Addr × List Int)) (p : Addr), L.Perm ks → L.Pairwise (fun q r => TS.code B q.2 ≤ TS.code B r.2) → H p = none → Q (.ref p) (upd H p (.lst (L.map fun q => V.ref q.1)))) := by
  intro pins s σ H vs us Q I r h
  obtain ⟨a, ks, d, B, rfl, hl, hk, h64, hd, hB, q⟩ := h
  rw [Vals.ref1 r]
  obtain ⟨its, rv, pl, hz⟩ := I.tuple hl
  have ei := refs_of_vals rv
  subst ei
  have ti : ∀ p ∈ ks, TS.TupInts s.heap (.ref p.1) p.2 := fun p hp => by
    obtain ⟨us, r2, t, _⟩ := I.tuple (hk p hp)
    exact ⟨p.1, us.toArray, rfl, t, by simpa using r2.ints⟩
  refine sorted_tupsT (d := d) (B := B) pl (by rw [List.length_map]; exact h64) hd (fun v hv => ?_) fun out h1 h2 => ?_
  · obtain ⟨p, hp, rfl⟩ := List.mem_map.mp hv
    exact ⟨p.2, ti p hp, hB p hp⟩
  obtain ⟨L, pm, eo⟩ := perm_back (fun p : Addr × List Int => Value.ref p.1) h1 ks rfl
  have pw : L.Pairwise (fun q r => TS.code B q.2 ≤ TS.code B r.2) := by
    rw [eo, List.pairwise_map] at h2
    refine List.Pairwise.imp_of_mem (fun {q r} hq hr h => ?_) h2
    rw [(ti q (pm.mem_iff.mp hq)).ints, (ti r (pm.mem_iff.mp hr)).ints] at h
    exact h
  obtain ⟨ep, he'⟩ := PyProof.Rows.sortedAll_at s.heap (ks.map fun p => Value.ref p.1) out
  have hlen : (L.map fun q => V.ref q.1).length ≤ sizeLine := by rw [List.length_map, pm.length_eq, sizeLine_eq]; omega
  refine ⟨.ref _, upd H (s.heap.objs.size + 1) (.lst (L.map fun q => V.ref q.1)), I.laid (t' := s.toks) (fun _ _ => PyProof.Rows.sortedAll_old) (Nat.le_succ _) ⟨hlen, out.toList, ep, by rw [eo]; exact vals_of_refs L, by rw [Array.toArray_toList]; exact he'⟩, rfl, q L _ pm pw (I.hok.fresh (Nat.le_succ _))⟩
theorem cr_sortedIT : CallR X (.builtin "sorted") (fun vs H Q => ∃ (a : Addr) (ns : List Int), vs = [V.ref a] ∧ SqT X.K H a (ns.map V.int) ∧
  ∀ (ns' : List Int) (p : Addr), ns'.Perm ns → ns'.Pairwise (· ≤ ·) → H p = none → Q (.ref p) (upd H p (.lst (ns'.map V.int)))) := by
  intro pins s σ H vs us Q I r h
  obtain ⟨a, ns, rfl, hs, q⟩ := h
  obtain ⟨its, rv, hl, hz⟩ := I.tuple hs
  rw [Vals.ref1 r]
  have hi := rv.ints
  refine sorted_ordT SrtO.swo_int hl (by rw [← rv.length]; exact hz) (fun h2 h₁ a' _ _ => SrtO.ints_sortable hi h2) fun out h1 h2 => ?_
  obtain ⟨k1, k2, k3⟩ := SrtO.ints_out hi h1 h2
  obtain ⟨ep, he'⟩ := PyProof.Rows.sortedAll_at s.heap its out.toArray
  have hlen : ((out.map SrtO.iv).map V.int).length ≤ sizeLine := by
    rw [List.length_map, k2.length_eq]
    rw [List.length_map] at hz
    exact hz
  exact ⟨.ref _, upd H (s.heap.objs.size + 1) (.lst ((out.map SrtO.iv).map V.int)), I.laid (t' := s.toks) (fun _ _ => PyProof.Rows.sortedAll_old) (Nat.le_succ _) ⟨hlen, out, ep, vals_of_ints k1, he'⟩, rfl, q _ _ k2 k3 (I.hok.fresh (Nat.le_succ _))⟩
end
end Fz

/-! Q6p: sorted lists of pairs of a number and a tuple, no two numbers alike. -/
namespace TS
open PySem PyProof.Rows
/-- a pair of a number and something on the heap -/
def PrIn (h : Heap) (v : Value) (n : Int) : Prop := ∃ a t b, v = .ref a ∧ IsTup h a #[.int n t, .ref b]
def rk (h : Heap) (v : Value) : Int := ((intsOf h v)[0]?).getD 0
theorem PrIn.rk {h : Heap} {v : Value} {n : Int} (x : PrIn h v n) : rk h v = n := by
  obtain ⟨a, t, b, rfl, ⟨o, ho, hc, k, hd⟩⟩ := x
  simp only [TS.rk, intsOf, ho, hd]
  rfl
theorem PrIn.keeps {h h' : Heap} {v : Value} {n : Int} (x : PrIn h v n) (k : ∀ b o, h.get? b = some o → o.cls = .type "tuple" → h'.get? b = some o) : PrIn h' v n := by
  obtain ⟨a, t, b, e, ⟨o, ho, hc, hd⟩⟩ := x
  exact ⟨a, t, b, e, ⟨o, k _ _ ho hc, hc, hd⟩⟩
structure PrsOk (h : Heap) (vs : List Value) : Prop where
  at_ : ∀ v, v ∈ vs → ∃ n, PrIn h v n
  inj : ∀ u, u ∈ vs → ∀ v, v ∈ vs → ∀ n, PrIn h u n → PrIn h v n → u = v
theorem PrsOk.keeps {h h' : Heap} {vs : List Value} (x : PrsOk h vs) (k : ∀ b o, h.get? b = some o → o.cls = .type "tuple" → h'.get? b = some o) : PrsOk h' vs := by
  refine ⟨fun v hv => ?_, fun u hu v hv n pu pv => ?_⟩
  · obtain ⟨n, p⟩ := x.at_ v hv
    exact ⟨n, p.keeps k⟩
  · obtain ⟨a, p⟩ := x.at_ u hu
    obtain ⟨b, q⟩ := x.at_ v hv
    have e1 : a = n := (p.keeps k).rk.symm.trans pu.rk
    have e2 : b = n := (q.keeps k).rk.symm.trans pv.rk
    subst e1
    subst e2
    exact x.inj u hu v hv _ p q
theorem prs_firsts {h : Heap} : ∀ vs : List Value, (∀ v, v ∈ vs → ∃ n, PrIn h v n) → ∃ fs, PySem.W.KatTups h vs fs ∧ fs.length = vs.length ∧ ∀ f, f ∈ fs → ∃ n t, f = Value.int n t
  | [], _ => ⟨[], PySem.W.KatTups.nil, rfl, fun f hf => by simp at hf⟩
  | v :: vs, x => by
    obtain ⟨fs, k, hl, hi⟩ := prs_firsts vs fun u hu => x u (List.mem_cons_of_mem _ hu)
    obtain ⟨n, a, t, b, rfl, ⟨o, ho, hc, m, hdt⟩⟩ := x v (List.mem_cons_self ..)
    refine ⟨.int n t :: fs, PySem.W.KatTups.cons ho hc hdt rfl k, by simp [hl], ?_⟩
    intro f hf
    rcases List.mem_cons.mp hf with rfl | hf
    · exact ⟨n, t, rfl⟩
    · exact hi f hf
section
variable {prog : Program} {w : World} {A : Around} {E : Value → Shared → Prop} {s : Shared}
theorem eqBool_same {v : Value} {Q : Bool → Shared → Prop} (h : Q true s) : wpAny (model prog w) A (eqBool v v) Q E s := by
  unfold eqBool
  refine wpAny_holding ?_
  refine wpAny_ite_split (fun _ => ?_) (fun hab => absurd (beq_self_eq_true v) hab)
  exact wpAny_bind (wpAny_rule (wpAny_pure h))
theorem kind_prs {vs : List Value} (h2 : 2 ≤ vs.length) (x : PrsOk s.heap vs) (r : Value → Int) (hr : ∀ v, v ∈ vs → ∀ n, PrIn s.heap v n → r v = n) (Q : SortKind → Shared → Prop)
    (h : ∀ κ, Cmp prog w A s κ (pairsOf vs) r → Q κ s) : wpAny (model prog w) A (keyKind' vs.toArray) Q E s := by
  obtain ⟨fs, k, hl, hi⟩ := prs_firsts vs x.at_
  refine PySem.W.kat_kind (T := Value.type "int") k (by omega) (fun f hf => ?_) rfl (h _ ?_)
  · obtain ⟨n, t, rfl⟩ := hi f hf
    exact PySem.W.Looks.of_pure rfl
  · intro p q hp hq Q' E' hQ
    rw [pairsOf_toList] at hp hq
    have mp := (mem_zip_self hp).2
    have mq := (mem_zip_self hq).2
    obtain ⟨n, pp⟩ := x.at_ _ mp
    obtain ⟨m, pq⟩ := x.at_ _ mq
    have ep := hr _ mp _ pp
    have eq2 := hr _ mq _ pq
    rw [ep, eq2] at hQ
    by_cases e : n = m
    · subst e
      have same := x.inj _ mp _ mq n pp pq
      rw [← same]
      obtain ⟨a, t, b, e1, ⟨o, ho, hc, k1, hdt⟩⟩ := pp
      rw [e1]
      refine PySem.W.kat_lt ho hdt ho hdt ?_
      have sz : decide ((#[Value.int n t, .ref b] : Array Value).size < (#[Value.int n t, .ref b] : Array Value).size) = false := decide_eq_false (Nat.lt_irrefl _)
      rw [sz]
      have hQ' : Q' false s := by
        have z : decide (n < n) = false := decide_eq_false (Int.lt_irrefl _)
        rw [z] at hQ
        exact hQ
      refine PySem.W.kat_cons (eqBool_same (PySem.W.kat_yes ?_))
      exact PySem.W.kat_cons (eqBool_same (PySem.W.kat_yes (PySem.W.kat_nil hQ')))
    · obtain ⟨a, t, b, e1, ⟨o, ho, hc, k1, hdt⟩⟩ := pp
      obtain ⟨a', t', b', e2, ⟨o', ho', hc', k2, hdt'⟩⟩ := pq
      rw [e1, e2]
      refine PySem.W.kat_lt ho hdt ho' hdt' ?_
      refine PySem.W.kat_cons (wpAny_eqBool_int ?_)
      have z : (n == m) = false := by simpa using e
      rw [z]
      exact PySem.W.kat_no (oneLt_ints _ hQ)
theorem sort_prs {a : Addr} {vs : List Value} {n : Nat} {P : PySem.Fin → Shared → Prop} (ho : s.heap.get? a = some (seqObj "list" vs.toArray n)) (h64 : vs.length < 64) (x : PrsOk s.heap vs)
    (r : Value → Int) (hr : ∀ v, v ∈ vs → ∀ n, PrIn s.heap v n → r v = n)
    (h : ∀ out : Array Value, out.toList.Perm vs → out.toList.Pairwise (fun u v => r u ≤ r v) → P (.done (.ret .none)) { s with heap := sortedHeap s.heap a vs out }) :
    wpAny (model prog w) A (Builtin.«list.sort» ⟨[.ref a], []⟩) P E s := by
  have keep : ∀ b o, s.heap.get? b = some o → o.cls = .type "tuple" → (midHeap s.heap a vs).get? b = some o := fun b o e hc => by
    refine midHeap_old ?_ e
    rintro rfl
    rw [ho] at e
    have e' : seqObj "list" vs.toArray n = o := Option.some.inj e
    rw [← e'] at hc
    have c' : Value.type "list" = Value.type "tuple" := hc
    injection c' with c''
    exact absurd c'' (by decide)
  refine SK.plain_sort (r := r) ho h64 (fun h2 Q hQ => ?_) fun ps out h1 h2 h3 => ?_
  · refine kind_prs (s := { s with heap := midHeap s.heap a vs }) h2 (x.keeps keep) r (fun v hv n t => ?_) Q hQ
    obtain ⟨m, t0⟩ := x.at_ v hv
    have e : n = m := t.rk.symm.trans (t0.keeps keep).rk
    rw [e]
    exact hr v hv m t0
  · obtain ⟨p, o⟩ := out_rank h1 h2 h3
    exact h out p o
theorem sorted_prs {l : Addr} {vs : List Value} {Q : Value → Shared → Prop} (hl : s.heap.IsList l vs.toArray) (h64 : vs.length < 64) (x : PrsOk s.heap vs)
    (h : ∀ out : Array Value, out.toList.Perm vs → out.toList.Pairwise (fun u v => rk s.heap u ≤ rk s.heap v) → Q (.ref (s.heap.objs.size + 1)) { s with heap := sortedAll s.heap vs out }) :
    wpAny (model prog w) A (call (.builtin "sorted") [.ref l]) Q E s := by
  refine Calls.call_function_entry kind_sorted plain_sorted entry_sorted (args_sorted1 _) ?_
  unfold Builtin.«sorted»
  refine wpAny_bind (m := checkCount "sorted" 1 1 _) (wpAny_pure ?_)
  refine wpAny_bind (collect_list hl ?_ (by rw [sizeLine_eq]; omega))
  refine wpAny_bind (wpAny_newList ?_ (by rw [sizeLine_eq]; omega))
  have hsz : ((s.heap.push (seqObj "list" #[] 0)).update s.heap.objs.size (Obj.mapSeq (· ++ vs.toArray))).objs.size = s.heap.objs.size + 1 := by
    rw [Heap.size_update, size_push']
  have hoL : (((s.heap.push (seqObj "list" #[] 0)).update s.heap.objs.size (Obj.mapSeq (· ++ vs.toArray))).push (seqObj "list" vs.toArray 0)).get? (s.heap.objs.size + 1) = some (seqObj "list" vs.toArray 0) := by
    rw [← hsz]; exact Heap.get?_push_size _ rfl
  have keep : ∀ b o, s.heap.get? b = some o → o.cls = .type "tuple" → (((s.heap.push (seqObj "list" #[] 0)).update s.heap.objs.size (Obj.mapSeq (· ++ vs.toArray))).push (seqObj "list" vs.toArray 0)).get? b = some o := fun b o q _ => by
    have hlt : b < s.heap.objs.size := Heap.lt_size q
    rw [Heap.get?_push_ne _ _ _ (by rw [hsz]; exact Nat.ne_of_lt (Nat.lt_succ_of_lt hlt)), Heap.get?_update_ne _ _ _ _ (Nat.ne_of_lt hlt), Heap.get?_push_ne _ _ _ (Nat.ne_of_lt hlt)]
    exact q
  show wpAny _ _ _ _ _ { s with heap := ((s.heap.push (seqObj "list" #[] 0)).update s.heap.objs.size (Obj.mapSeq (· ++ vs.toArray))).push (seqObj "list" vs.toArray 0) }
  rw [hsz]
  refine wpAny_bind (wpAny_holding (wpAny_call_entry slot_list_sort ⟨_, hoL, rfl⟩ entry_list_sort (sort_prs hoL h64 (x.keeps keep) (fun v => rk s.heap v) (fun v hv n t => ?_) fun out a1 a2 => ⟨_, rfl, ?_⟩) (args_list_sort _)))
  · obtain ⟨m, t0⟩ := x.at_ v hv
    have e : n = m := t.rk.symm.trans (t0.keeps keep).rk
    rw [e]
    exact t0.rk
  · exact wpAny_pure ⟨_, rfl, h out a1 a2⟩
end
end TS
namespace Fz
open PySem PySem.Spec PyProof.Rows L2
/-! ### pairs -/
theorem insP_perm (x : Int × List D) : ∀ l, (insP x l).Perm (x :: l)
  | [] => List.Perm.refl _
  | y :: ys => by
    unfold insP
    split
    · exact List.Perm.refl _
    · exact ((insP_perm x ys).cons y).trans (List.Perm.swap _ _ _)
theorem sortP_perm : ∀ l, (sortP l).Perm l
  | [] => List.Perm.refl _
  | x :: xs => (insP_perm x (sortP xs)).trans ((sortP_perm xs).cons x)
theorem insP_srt (x : Int × List D) : ∀ l : List (Int × List D), l.Pairwise (fun a b => a.1 ≤ b.1) → (insP x l).Pairwise (fun a b => a.1 ≤ b.1)
  | [], _ => List.pairwise_singleton _ _
  | y :: ys, h => by
    obtain ⟨h1, h2⟩ := List.pairwise_cons.mp h
    unfold insP
    split
    · rename_i hxy
      refine List.pairwise_cons.mpr ⟨fun z hz => ?_, h⟩
      rcases List.mem_cons.mp hz with e | e
      · rw [e]; exact hxy
      · exact Int.le_trans hxy (h1 z e)
    · rename_i hxy
      refine List.pairwise_cons.mpr ⟨fun z hz => ?_, insP_srt x ys h2⟩
      rcases List.mem_cons.mp ((insP_perm x ys).mem_iff.mp hz) with e | e
      · rw [e]; omega
      · exact h1 z e
theorem sortP_srt : ∀ l, (sortP l).Pairwise (fun a b => a.1 ≤ b.1)
  | [] => List.Pairwise.nil
  | x :: xs => insP_srt x _ (sortP_srt xs)
/-- a pair as it stands: its place, the number, the tuple's place, the tuple's items -/
structure Prs where
  a : Addr
  k : Int
  b : Addr
  ds : List D
def Prs.q (p : Prs) : Int × List D := (p.k, p.ds)
theorem prq_at {K : PySem.W.Frag} {H : Hp} {A : Ad} : ∀ {xs : List D} {vs : List V} {ts : List (Int × List D)}, RDs K H A xs vs → pairD xs = some ts → ∃ ks : List Prs, vs = ks.map (fun p => V.ref p.a) ∧ (∀ p ∈ ks, SqT K H p.a [.int p.k, .ref p.b] ∧ RD K H A (.tup p.ds) (.ref p.b)) ∧ ks.map Prs.q = ts
  | [], vs, ts, h, e => by
    rw [show vs = [] from h]
    cases e
    exact ⟨[], rfl, fun _ h => (nomatch h), rfl⟩
  | x :: xs, vs, ts, h, e => by
    obtain ⟨v, r, rfl, h1, h2⟩ := h
    match x, e with
    | .tup [.int k, .tup ds], e =>
      obtain ⟨rest, e2, rfl⟩ := Option.map_eq_some_iff.mp (show (pairD xs).map (fun xs => (k, ds) :: xs) = some ts from e)
      obtain ⟨a, us, rfl, t1, t2⟩ := h1
      obtain ⟨u1, r1, rfl, g1, g2⟩ := t2
      obtain ⟨u2, r2, rfl, g3, g4⟩ := g2
      obtain rfl : r2 = [] := g4
      obtain rfl : u1 = V.int k := g1
      obtain ⟨b, ws, rfl, w1, w2⟩ := id g3
      obtain ⟨ks, rfl, k1, k2⟩ := prq_at h2 e2
      refine ⟨⟨a, k, b, ds⟩ :: ks, rfl, fun p hp => ?_, by rw [List.map_cons, k2]; rfl⟩
      rcases List.mem_cons.mp hp with rfl | hp
      · exact ⟨t1, g3⟩
      · exact k1 p hp
theorem prq_rd {K : PySem.W.Frag} {H : Hp} {A : Ad} : ∀ {ks : List Prs}, (∀ p ∈ ks, SqT K H p.a [.int p.k, .ref p.b] ∧ RD K H A (.tup p.ds) (.ref p.b)) → RDs K H A ((ks.map Prs.q).map pairI) (ks.map fun p => V.ref p.a)
  | [], _ => (rfl : _ = _)
  | p :: ks, h => by
    obtain ⟨h1, h2⟩ := h p List.mem_cons_self
    exact RDs.cons_iff.mpr ⟨⟨p.a, _, rfl, h1, RDs.cons_iff.mpr ⟨rfl, RDs.cons_iff.mpr ⟨h2, (rfl : _ = _)⟩⟩⟩, prq_rd fun q hq => h q (List.mem_cons_of_mem _ hq)⟩
section
variable {X : Cx}
theorem cr_sortedPr : CallR X (.builtin "sorted") (fun vs H Q => ∃ (a : Addr) (ks : List Prs), vs = [V.ref a] ∧ SqL X.K H a (ks.map fun p => V.ref p.a) ∧ (∀ p ∈ ks, SqT X.K H p.a [.int p.k, .ref p.b]) ∧ ks.length < 64 ∧ (ks.map Prs.k).Nodup ∧
    ∀ (L : List Prs) (p : Addr), L.Perm ks → L.Pairwise (fun q r => q.k ≤ r.k) → H p = none → Q (.ref p) (upd H p (.lst (L.map fun q => V.ref q.a)))) := by
  intro pins s σ H vs us Q I r h
  obtain ⟨a, ks, rfl, hl, hk, h64, hnd, q⟩ := h
  rw [Vals.ref1 r]
  obtain ⟨its, rv, pl, hz⟩ := I.list hl
  have ei : its = ks.map fun p => Value.ref p.a := by
    clear hl hk h64 hnd q pl hz
    induction ks generalizing its with
    | nil => cases rv; rfl
    | cons p ks ih =>
      cases rv with
      | cons r1 r2 =>
        cases r1
        rw [List.map_cons, ih _ r2]
  subst ei
  have ti : ∀ p ∈ ks, TS.PrIn s.heap (.ref p.a) p.k := fun p hp => by
    obtain ⟨us, r2, t, _⟩ := I.tuple (hk p hp)
    cases r2 with
    | cons g1 g2 =>
      cases g2 with
      | cons g3 g4 =>
        cases g4
        obtain ⟨tk, rfl⟩ := g1
        cases g3
        exact ⟨p.a, tk, p.b, rfl, t⟩
  have inj : ∀ p ∈ ks, ∀ q ∈ ks, p.k = q.k → p = q := fun p hp q hq e => by
    obtain ⟨i, hi, rfl⟩ := List.mem_iff_getElem.mp hp
    obtain ⟨j, hj, rfl⟩ := List.mem_iff_getElem.mp hq
    have : i = j := (List.getElem_inj (i := i) (j := j) (h₀ := by rw [List.length_map]; exact hi) (h₁ := by rw [List.length_map]; exact hj) hnd).mp (by rw [List.getElem_map, List.getElem_map]; exact e)
    subst this
    rfl
  refine TS.sorted_prs pl.isList (by rw [List.length_map]; exact h64) ⟨fun v hv => ?_, fun u hu v hv n pu pv => ?_⟩ fun out h1 h2 => ?_
  · obtain ⟨p, hp, rfl⟩ := List.mem_map.mp hv
    exact ⟨p.k, ti p hp⟩
  · obtain ⟨p, hp, rfl⟩ := List.mem_map.mp hu
    obtain ⟨p2, hp2, rfl⟩ := List.mem_map.mp hv
    have e1 : p.k = n := (ti p hp).rk.symm.trans pu.rk
    have e2 : p2.k = n := (ti p2 hp2).rk.symm.trans pv.rk
    rw [inj p hp p2 hp2 (e1.trans e2.symm)]
  obtain ⟨L, pm, eo⟩ := perm_back (fun p : Prs => Value.ref p.a) h1 ks rfl
  have pw : L.Pairwise (fun q r => q.k ≤ r.k) := by
    rw [eo, List.pairwise_map] at h2
    refine List.Pairwise.imp_of_mem (fun {q r} hq hr h => ?_) h2
    rw [(ti q (pm.mem_iff.mp hq)).rk, (ti r (pm.mem_iff.mp hr)).rk] at h
    exact h
  obtain ⟨ep, he'⟩ := PyProof.Rows.sortedAll_at s.heap (ks.map fun p => Value.ref p.a) out
  have hlen : (L.map fun q => V.ref q.a).length ≤ sizeLine := by rw [List.length_map, pm.length_eq, sizeLine_eq]; omega
  have vl : ∀ M : List Prs, Vals (M.map fun q => V.ref q.a) (M.map fun q => Value.ref q.a) := fun M => by
    induction M with
    | nil => exact .nil
    | cons m M ih => exact .cons rfl ih
  refine ⟨.ref _, upd H (s.heap.objs.size + 1) (.lst (L.map fun q => V.ref q.a)), I.laid (t' := s.toks) (fun _ _ => PyProof.Rows.sortedAll_old) (Nat.le_succ _) ⟨hlen, out.toList, ep, by rw [eo]; exact vl L, by rw [Array.toArray_toList]; exact he'⟩, rfl, q L _ pm pw (I.hok.fresh (Nat.le_succ _))⟩
end
end Fz

/-! Q7: built-ins and methods upon data. -/
namespace Fz
open PySem PySem.Spec PyProof.Rows L2

theorem maxL_spec : ∀ (xs : List Int), xs ≠ [] → maxL xs ∈ xs ∧ ∀ y ∈ xs, y ≤ maxL xs
  | [], h => absurd rfl h
  | [x], _ => ⟨by simp [maxL], by simp [maxL]⟩
  | x :: y :: r, _ => by
    obtain ⟨h1, h2⟩ := maxL_spec (y :: r) (by simp)
    show (if x < maxL (y :: r) then maxL (y :: r) else x) ∈ _ ∧ ∀ z ∈ _, z ≤ (if x < maxL (y :: r) then maxL (y :: r) else x)
    split
    · refine ⟨List.mem_cons_of_mem _ h1, fun z hz => ?_⟩
      rcases List.mem_cons.mp hz with rfl | hz
      · omega
      · exact h2 z hz
    · refine ⟨List.mem_cons_self, fun z hz => ?_⟩
      rcases List.mem_cons.mp hz with rfl | hz
      · omega
      · have := h2 z hz
        omega
theorem minL_spec : ∀ (xs : List Int), xs ≠ [] → minL xs ∈ xs ∧ ∀ y ∈ xs, minL xs ≤ y
  | [], h => absurd rfl h
  | [x], _ => ⟨by simp [minL], by simp [minL]⟩
  | x :: y :: r, _ => by
    obtain ⟨h1, h2⟩ := minL_spec (y :: r) (by simp)
    show (if minL (y :: r) < x then minL (y :: r) else x) ∈ _ ∧ ∀ z ∈ _, (if minL (y :: r) < x then minL (y :: r) else x) ≤ z
    split
    · refine ⟨List.mem_cons_of_mem _ h1, fun z hz => ?_⟩
      rcases List.mem_cons.mp hz with rfl | hz
      · omega
      · exact h2 z hz
    · refine ⟨List.mem_cons_self, fun z hz => ?_⟩
      rcases List.mem_cons.mp hz with rfl | hz
      · omega
      · have := h2 z hz
        omega
/-- how a built-in stands in the program: its name, its value -/
def biName : Bi → Str
  | .len => "len"
  | .abs => "abs"
  | .int => "int"
  | .bool => "bool"
  | .repr => "repr"
  | .sum => "sum"
  | .max => "max"
  | .min => "min"
  | .tuple => "tuple"
  | .list => "list"
  | .sorted => "sorted"
  | .all => "all"
  | .any => "any"
  | .str => "str"
  | .isinst => "isinstance"
  | .dict => "dict"
/-- its kind: a function, or a class -/
def biTy : Bi → Bool
  | .int => true
  | .bool => true
  | .tuple => true
  | .list => true
  | .str => true
  | .dict => true
  | _ => false
def biS : Bi → String
  | .len => "len"
  | .abs => "abs"
  | .int => "int"
  | .bool => "bool"
  | .repr => "repr"
  | .sum => "sum"
  | .max => "max"
  | .min => "min"
  | .tuple => "tuple"
  | .list => "list"
  | .sorted => "sorted"
  | .all => "all"
  | .any => "any"
  | .str => "str"
  | .isinst => "isinstance"
  | .dict => "dict"
def biV (b : Bi) : Value := if biTy b then .type (biS b) else .builtin (biS b)
def rBi (K : PySem.W.Frag) (b : Bi) (md : Nat) : List V → Hp → VK → Prop := fun vs H Q => ∃ A w σ ds r w', Sim K H A w σ ∧ RDs K H A ds vs ∧ biF b md ds w = .ok (r, w') ∧ Aft K A H σ r w' Q
section
variable {X : Cx}
theorem one_of {K : PySem.W.Frag} {H : Hp} {A : Ad} {d : D} {vs : List V} (h : RDs K H A [d] vs) : ∃ v, vs = [v] ∧ RD K H A d v := by
  obtain ⟨v, r, rfl, x, y⟩ := h
  rw [show r = [] from y]
  exact ⟨v, rfl, x⟩
theorem two_of {K : PySem.W.Frag} {H : Hp} {A : Ad} {d e : D} {vs : List V} (h : RDs K H A [d, e] vs) : ∃ v u, vs = [v, u] ∧ RD K H A d v ∧ RD K H A e u := by
  obtain ⟨v, r, rfl, x, y⟩ := h
  obtain ⟨u, rfl, z⟩ := one_of y
  exact ⟨v, u, rfl, x, z⟩
theorem intsA {K : PySem.W.Frag} {H : Hp} {A : Ad} {w : Wd} {σ : Sl} (S : Sim K H A w σ) {d : D} {v : V} {ns : List Int} (r : RD K H A d v) (e : (w.seq d).bind intD = some ns) : ∃ a, v = .ref a ∧ (SqT K H a (ns.map V.int) ∨ SqL K H a (ns.map V.int)) := by
  obtain ⟨xs, e1, e2⟩ := Option.bind_eq_some_iff.mp e
  obtain ⟨a, vs, rfl, rs, h⟩ := S.seq r e1
  have ev := rs.ints e2
  subst ev
  rcases h with ⟨_, h⟩ | ⟨_, h⟩
  · exact ⟨a, rfl, .inl h⟩
  · exact ⟨a, rfl, .inr h⟩
/-! ### max, min of a tuple -/
section
variable {prog : Program} {w : World} {A : Around} {E : Value → Shared → Prop} {s : Shared} {l : Addr} {its : List Value} {ns : List Int} {Q : Value → Shared → Prop}
theorem max_rawT (hh : A.handled = none) (hl : s.heap.IsTuple l its.toArray) (hi : IntsAre its ns) (hne : 0 < ns.length)
    (h : ∀ h' tk M t', (∀ b o, s.heap.get? b = some o → h'.get? b = some o) → M ∈ ns → (∀ a, a ∈ ns → a ≤ M) → Q (.int M t') { s with heap := h', toks := tk }) : wpAny (model prog w) A (call (.builtin "max") [.ref l]) Q E s := by
  obtain ⟨xs, e⟩ := hi.allInts.items
  have hn : numsOf (intItems xs).toList = ns := by rw [← e]; exact hi.numsOf
  rw [nums_intItems] at hn
  subst hn
  rw [e] at hl
  have hsz : 0 < xs.size := by simpa using hne
  have hlt : l < s.heap.objs.size := by obtain ⟨_, e, _⟩ := hl; exact Heap.lt_size e
  refine call_max_walk (wpAny_pyIter_tuple hl ?_)
  refine ⟨_, _, _, _, _, _, _, rfl, Walks.tuple (A := A.in1) hh s.heap.objs.size l (Nat.ne_of_lt hlt) (intItems xs), ⟨⟨_, Heap.get?_push_size _ rfl, rfl, rfl⟩, hl.push _⟩, fun b hb => ?_, by simpa [intItems] using hsz, CmpOf.ints_gt (numAt xs) (fun _ _ => intItems_at), fun v h' tk hP hk => ?_⟩
  · show b < (s.heap.push _).objs.size
    rw [Heap.size_push]
    rcases List.mem_cons.mp hb with rfl | hb
    · exact Nat.lt_succ_self _
    · rw [List.mem_singleton.mp hb]
      exact Nat.lt_succ_of_lt hlt
  · have hP : (intItems xs)[argBest (fun i j => decide (numAt xs i > numAt xs j)) (xs.size - 1)]? = some v := by simpa [intItems] using hP
    obtain ⟨t, rfl⟩ := intItems_at hP
    obtain ⟨h1, h2⟩ := argBest_gt (numAt xs) (xs.size - 1)
    refine h h' tk _ t (fun b o e => hk b o (fun z => by rw [List.mem_singleton.mp z] at e; exact absurd (Heap.lt_size e) (Nat.lt_irrefl _)) (Heap.get?_push_of_some _ e)) ?_ fun a ha => ?_
    · rw [numAt_eq]; exact PySem.getD_mem (by rw [List.length_map, Array.length_toList]; omega)
    · obtain ⟨j, hj, rfl⟩ := mem_getD ha
      rw [List.length_map, Array.length_toList] at hj
      rw [← numAt_eq]; exact h2 j (by omega)
theorem min_rawT (hh : A.handled = none) (hl : s.heap.IsTuple l its.toArray) (hi : IntsAre its ns) (hne : 0 < ns.length)
    (h : ∀ h' tk M t', (∀ b o, s.heap.get? b = some o → h'.get? b = some o) → M ∈ ns → (∀ a, a ∈ ns → M ≤ a) → Q (.int M t') { s with heap := h', toks := tk }) : wpAny (model prog w) A (call (.builtin "min") [.ref l]) Q E s := by
  obtain ⟨xs, e⟩ := hi.allInts.items
  have hn : numsOf (intItems xs).toList = ns := by rw [← e]; exact hi.numsOf
  rw [nums_intItems] at hn
  subst hn
  rw [e] at hl
  have hsz : 0 < xs.size := by simpa using hne
  have hlt : l < s.heap.objs.size := by obtain ⟨_, e, _⟩ := hl; exact Heap.lt_size e
  refine call_min_walk (wpAny_pyIter_tuple hl ?_)
  refine ⟨_, _, _, _, _, _, _, rfl, Walks.tuple (A := A.in1) hh s.heap.objs.size l (Nat.ne_of_lt hlt) (intItems xs), ⟨⟨_, Heap.get?_push_size _ rfl, rfl, rfl⟩, hl.push _⟩, fun b hb => ?_, by simpa [intItems] using hsz, CmpOf.ints_lt (numAt xs) (fun _ _ => intItems_at), fun v h' tk hP hk => ?_⟩
  · show b < (s.heap.push _).objs.size
    rw [Heap.size_push]
    rcases List.mem_cons.mp hb with rfl | hb
    · exact Nat.lt_succ_self _
    · rw [List.mem_singleton.mp hb]
      exact Nat.lt_succ_of_lt hlt
  · have hP : (intItems xs)[argBest (fun i j => decide (numAt xs i < numAt xs j)) (xs.size - 1)]? = some v := by simpa [intItems] using hP
    obtain ⟨t, rfl⟩ := intItems_at hP
    obtain ⟨h1, h2⟩ := argBest_lt (numAt xs) (xs.size - 1)
    refine h h' tk _ t (fun b o e => hk b o (fun z => by rw [List.mem_singleton.mp z] at e; exact absurd (Heap.lt_size e) (Nat.lt_irrefl _)) (Heap.get?_push_of_some _ e)) ?_ fun a ha => ?_
    · rw [numAt_eq]; exact PySem.getD_mem (by rw [List.length_map, Array.length_toList]; omega)
    · obtain ⟨j, hj, rfl⟩ := mem_getD ha
      rw [List.length_map, Array.length_toList] at hj
      rw [← numAt_eq]; exact h2 j (by omega)
end
section
variable {X : Cx}
def rMaxT (K : PySem.W.Frag) : List V → Hp → VK → Prop := fun vs H Q => ∃ (a : Addr) (ns : List Int), vs = [V.ref a] ∧ SqT K H a (ns.map V.int) ∧ 0 < ns.length ∧ ∀ m, m ∈ ns → (∀ y, y ∈ ns → y ≤ m) → Q (.int m) H
def rMinT (K : PySem.W.Frag) : List V → Hp → VK → Prop := fun vs H Q => ∃ (a : Addr) (ns : List Int), vs = [V.ref a] ∧ SqT K H a (ns.map V.int) ∧ 0 < ns.length ∧ ∀ m, m ∈ ns → (∀ y, y ∈ ns → m ≤ y) → Q (.int m) H
theorem cr_maxT (hc : X.calm = true) : CallR X (.builtin "max") (rMaxT X.K) := by
  intro pins s σ H vs us Q I r h
  obtain ⟨a, ns, rfl, hs, hne, q⟩ := h
  obtain ⟨its, rv, hl, _⟩ := I.tuple hs
  rw [Vals.ref1 r]
  exact max_rawT (I.ok.hd hc) hl rv.ints hne fun h' tk m t' hk h1 h2 => ⟨.int _, H, I.kept hk, ⟨_, rfl⟩, q m h1 h2⟩
theorem cr_minT (hc : X.calm = true) : CallR X (.builtin "min") (rMinT X.K) := by
  intro pins s σ H vs us Q I r h
  obtain ⟨a, ns, rfl, hs, hne, q⟩ := h
  obtain ⟨its, rv, hl, _⟩ := I.tuple hs
  rw [Vals.ref1 r]
  exact min_rawT (I.ok.hd hc) hl rv.ints hne fun h' tk m t' hk h1 h2 => ⟨.int _, H, I.kept hk, ⟨_, rfl⟩, q m h1 h2⟩
end
theorem intsL {K : PySem.W.Frag} {H : Hp} {A : Ad} {w : Wd} {σ : Sl} (S : Sim K H A w σ) {d : D} {v : V} {ns : List Int} (r : RD K H A d v) (t : isT d = false) (e : (w.seq d).bind intD = some ns) : ∃ a, v = .ref a ∧ SqL K H a (ns.map V.int) := by
  obtain ⟨xs, e1, e2⟩ := Option.bind_eq_some_iff.mp e
  obtain ⟨a, vs, rfl, rs, h⟩ := S.seq r e1
  have ev := rs.ints e2
  subst ev
  rcases h with ⟨h, _⟩ | ⟨_, h⟩
  · rw [t] at h
    cases h
  · exact ⟨a, rfl, h⟩
theorem boolsL {K : PySem.W.Frag} {H : Hp} {A : Ad} {w : Wd} {σ : Sl} (S : Sim K H A w σ) {d : D} {v : V} {ns : List Bool} (r : RD K H A d v) (t : isT d = false) (e : (w.seq d).bind boolD = some ns) : ∃ a, v = .ref a ∧ SqL K H a (ns.map V.bl) := by
  obtain ⟨xs, e1, e2⟩ := Option.bind_eq_some_iff.mp e
  obtain ⟨a, vs, rfl, rs, h⟩ := S.seq r e1
  have ev := rs.bools e2
  subst ev
  rcases h with ⟨h, _⟩ | ⟨_, h⟩
  · rw [t] at h
    cases h
  · exact ⟨a, rfl, h⟩
theorem bi_len {md : Nat} : CallR X (biV .len) (rBi X.K .len md) := by
  intro pins s σ H vs us Q I rv h
  obtain ⟨A, w, σ', ds, r, w', S, rs, ho, q⟩ := h
  match ds, ho with
  | [], ho => cases ho
  | _ :: _ :: _, ho => 
    exfalso
    rename_i d e t
    cases d <;> cases ho
  | [d], ho =>
    obtain ⟨v, rfl, rd1⟩ := one_of rs
    by_cases hs : ∃ z, d = .str z
    · obtain ⟨z, rfl⟩ := hs
      have ho : (if z.length ≤ mxLen then R.ok (D.int z.length, w) else .err) = .ok (r, w') := ho
      split at ho
      · rename_i hz
        cases ho
        obtain rfl : v = .str z := rd1
        exact call_len pins s σ H _ us Q I rv ⟨.str z, z.length, rfl, ⟨Nat.le_trans hz (by decide), rfl⟩, q.here S rfl⟩
      · cases ho
    · have ho : ((R.of (w.seq d)).bd fun xs => R.ok (D.int xs.length, w)) = .ok (r, w') := by
        rw [← ho]
        cases d <;> first | rfl | exact absurd ⟨_, rfl⟩ hs
      obtain ⟨xs, e1, ho⟩ := bd_split ho
      cases ho
      obtain ⟨a, ys, rfl, rs2, hq⟩ := S.seq rd1 (of_split e1)
      refine call_len pins s σ H _ us Q I rv ⟨.ref a, xs.length, rfl, ?_, q.here S rfl⟩
      rcases hq with ⟨_, hq⟩ | ⟨_, hq⟩
      · exact .inr ⟨ys, hq, rs2.length.symm⟩
      · exact .inl ⟨ys, hq, rs2.length.symm⟩
theorem bi_abs {md : Nat} : CallR X (biV .abs) (rBi X.K .abs md) := by
  intro pins s σ H vs us Q I rv h
  obtain ⟨A, w, σ', ds, r, w', S, rs, ho, q⟩ := h
  match ds, ho with
  | [], ho => cases ho
  | d :: _ :: _, ho => cases d <;> cases ho
  | [d], ho =>
    obtain ⟨v, rfl, rd1⟩ := one_of rs
    cases d with
    | int i =>
      cases ho
      obtain rfl : v = .int i := rd1
      exact call_abs pins s σ H _ us Q I rv ⟨i, rfl, q.here S rfl⟩
    | _ => cases ho
theorem bi_int {md : Nat} : CallR X (biV .int) (rBi X.K .int md) := by
  intro pins s σ H vs us Q I rv h
  obtain ⟨A, w, σ', ds, r, w', S, rs, ho, q⟩ := h
  match ds, ho with
  | [], ho => cases ho
  | d :: _ :: _, ho => cases d <;> cases ho
  | [d], ho =>
    obtain ⟨v, rfl, rd1⟩ := one_of rs
    cases d with
    | int i =>
      cases ho
      obtain rfl : v = .int i := rd1
      exact call_int1 pins s σ H _ us Q I rv (.inl ⟨i, rfl, q.here S rfl⟩)
    | bl i =>
      cases ho
      obtain rfl : v = .bl i := rd1
      exact call_int1 pins s σ H _ us Q I rv (.inr ⟨i, rfl, q.here S rfl⟩)
    | _ => cases ho
theorem bi_bool {md : Nat} : CallR X (biV .bool) (rBi X.K .bool md) := by
  intro pins s σ H vs us Q I rv h
  obtain ⟨A, w, σ', ds, r, w', S, rs, ho, q⟩ := h
  match ds, ho with
  | [], ho => cases ho
  | d :: _ :: _, ho => cases d <;> cases ho
  | [d], ho =>
    obtain ⟨v, rfl, rd1⟩ := one_of rs
    cases d with
    | int i =>
      cases ho
      obtain rfl : v = .int i := rd1
      exact call_bool1 pins s σ H _ us Q I rv (.inl ⟨i, rfl, q.here S rfl⟩)
    | bl i =>
      cases ho
      obtain rfl : v = .bl i := rd1
      exact call_bool1 pins s σ H _ us Q I rv (.inr ⟨i, rfl, q.here S rfl⟩)
    | _ => cases ho
theorem bi_repr {md : Nat} (hn : X.base.NoDigits) (hg : X.A.guards = some []) (hu : X.A.units + 64 < cLine) : CallR X (biV .repr) (rBi X.K .repr md) := by
  intro pins s σ H vs us Q I rv h
  obtain ⟨A, w, σ', ds, r, w', S, rs, ho, q⟩ := h
  match ds, ho with
  | [], ho => cases ho
  | _ :: _ :: _, ho => cases ho
  | [d], ho =>
    obtain ⟨v, rfl, rd1⟩ := one_of rs
    obtain ⟨p, e1, ho⟩ := bd_split (show ((R.of (w.py d)).bd fun p => if reprOk p then R.ok (D.str p.shown, w) else .err) = .ok (r, w') from ho)
    split at ho
    · rename_i hp
      cases ho
      exact call_reprD hn hg hu pins s σ H _ us Q I rv ⟨v, p, rfl, S.dq (of_split e1) rd1, hp, q.here S rfl⟩
    · cases ho
theorem bi_sum {md : Nat} (hc : X.calm = true) : CallR X (biV .sum) (rBi X.K .sum md) := by
  intro pins s σ H vs us Q I rv h
  obtain ⟨A, w, σ', ds, r, w', S, rs, ho, q⟩ := h
  match ds, ho with
  | [], ho => cases ho
  | _ :: _ :: _, ho => cases ho
  | [d], ho =>
    obtain ⟨v, rfl, rd1⟩ := one_of rs
    obtain ⟨ns, e1, ho⟩ := bd_split (show ((R.of ((w.seq d).bind intD)).bd fun xs => R.ok (D.int xs.sum, w)) = .ok (r, w') from ho)
    cases ho
    obtain ⟨xs, e2, e3⟩ := Option.bind_eq_some_iff.mp (of_split e1)
    obtain ⟨a, ys, rfl, rs2, hq⟩ := S.seq rd1 e2
    have ev := rs2.ints e3
    subst ev
    rcases hq with ⟨_, hq⟩ | ⟨_, hq⟩
    · exact cr_sumT hc pins s σ H _ us Q I rv ⟨a, ns, rfl, hq, q.here S rfl⟩
    · exact cr_sum hc pins s σ H _ us Q I rv ⟨a, ns, rfl, hq, q.here S rfl⟩
theorem bi_sorted {md : Nat} : CallR X (biV .sorted) (rBi X.K .sorted md) := by
  intro pins s σ H vs us Q I rv h
  obtain ⟨A, w, σ', ds, r, w', S, rs, ho, q⟩ := h
  match ds, ho with
  | [], ho => cases ho
  | _ :: _ :: _, ho => cases ho
  | [d], ho =>
    obtain ⟨v, rfl, rd1⟩ := one_of rs
    have ho : ((R.of (w.seq d)).bd fun xs => match intD xs with
      | some ns => newL md ((sortI ns).map D.int) w
      | none => match tupD xs with
        | some ts => if tupOk ts then newL md ((sortT ts).map tupI) w else .err
        | none => if isT d then R.err else (R.of (pairD xs)).bd fun ps => if decide (ps.length < 64 ∧ (ps.map (·.1)).Nodup) then newL md ((sortP ps).map pairI) w else .err) = .ok (r, w') := ho
    obtain ⟨xs, e1, ho⟩ := bd_split ho
    obtain ⟨a, ys, rfl, rs2, hq⟩ := S.seq rd1 (of_split e1)
    split at ho
    · rename_i ns hns
      have ev := rs2.ints hns
      subst ev
      have ri : RDs X.K H A ((sortI ns).map D.int) ((sortI ns).map V.int) := by
        generalize sortI ns = l
        induction l with
        | nil => exact (rfl : _ = _)
        | cons n l ih => exact RDs.cons_iff.mpr ⟨rfl, ih⟩
      have fin : ∀ (ns' : List Int) (p : Addr), ns'.Perm ns → ns'.Pairwise (· ≤ ·) → H p = none → Q (.ref p) (upd H p (.lst (ns'.map V.int))) := fun ns' p pm pw hp => by
        have e : ns' = sortI ns := sorted_uniq id (fun _ _ _ _ h => h) (pm.trans (sortI_perm ns).symm) pw (sortI_srt ns)
        subst e
        exact (Aft.newL ho S ri q).2 p hp
      rcases hq with ⟨_, hq⟩ | ⟨_, hq⟩
      · exact cr_sortedIT pins s σ H _ us Q I rv ⟨a, ns, rfl, hq, fin⟩
      · exact cr_sortedI pins s σ H _ us Q I rv ⟨a, ns, rfl, hq, fin⟩
    · split at ho
      · rename_i ts e2
        split at ho
        · rename_i hok
          obtain ⟨h64, d, hd, hB⟩ := tupOk_of hok
          obtain ⟨ks, rfl, k1, k2⟩ := tups_at rs2 e2
          have hB' : ∀ p ∈ ks, p.2.length = d ∧ TS.Bd 1000000000 p.2 := fun p hp => hB p.2 (by rw [← k2]; exact List.mem_map.mpr ⟨p, hp, rfl⟩)
          have fin : ∀ (L : List (Addr × List Int)) (p : Addr), L.Perm ks → L.Pairwise (fun q r => TS.code 1000000000 q.2 ≤ TS.code 1000000000 r.2) → H p = none → Q (.ref p) (upd H p (.lst (L.map fun q => V.ref q.1))) := fun L p pm pw hp => by
            have e : L.map (·.2) = sortT ts := by
              refine sorted_uniq (TS.code 1000000000) (fun x hx y hy hc => ?_) ?_ ?_ (sortT_srt ts hB)
              · obtain ⟨px, hpx, rfl⟩ := List.mem_map.mp hx
                obtain ⟨py, hpy, rfl⟩ := List.mem_map.mp hy
                have b1 := hB' px (pm.mem_iff.mp hpx)
                have b2 := hB' py (pm.mem_iff.mp hpy)
                exact (lex_code (b1.1.trans b2.1.symm) b1.2 b2.2).2.2 hc
              · exact ((pm.map (·.2)).trans (List.Perm.of_eq k2)).trans (sortT_perm ts).symm
              · exact List.pairwise_map.mpr pw
            have ri := tups_rd (K := X.K) (H := H) (A := A) (ks := L) fun p hp => k1 p (pm.mem_iff.mp hp)
            rw [e] at ri
            exact (Aft.newL ho S ri q).2 p hp
          rcases hq with ⟨_, hq⟩ | ⟨_, hq⟩
          · exact cr_sortedTsT pins s σ H _ us Q I rv ⟨a, ks, d, 1000000000, rfl, hq, k1, by rw [← k2, List.length_map] at h64; exact h64, hd, hB', fin⟩
          · exact cr_sortedTs pins s σ H _ us Q I rv ⟨a, ks, d, 1000000000, rfl, hq, k1, by rw [← k2, List.length_map] at h64; exact h64, hd, hB', fin⟩
        · cases ho
      · split at ho
        · cases ho
        · rename_i ht
          rcases hq with ⟨z, _⟩ | ⟨_, hq⟩
          · exact absurd z ht
          obtain ⟨ps, e2, ho⟩ := bd_split ho
          split at ho
          · rename_i hok
            obtain ⟨h64, hnd⟩ := of_decide_eq_true hok
            obtain ⟨ks, rfl, k1, k2⟩ := prq_at rs2 (of_split e2)
            have l : ks.length = ps.length := by rw [← k2, List.length_map]
            have nd : (ks.map Prs.k).Nodup := by
              rw [← k2, List.map_map] at hnd
              exact hnd
            refine cr_sortedPr pins s σ H _ us Q I rv ⟨a, ks, rfl, hq, fun p hp => (k1 p hp).1, by rw [l]; exact h64, nd, fun L p pm pw hp => ?_⟩
            have e : L.map Prs.q = sortP ps := by
              refine sorted_uniq (fun x => x.1) (fun x hx y hy hc => ?_) (((pm.map Prs.q).trans (List.Perm.of_eq k2)).trans (sortP_perm ps).symm) (List.pairwise_map.mpr pw) (sortP_srt ps)
              obtain ⟨px, hpx, rfl⟩ := List.mem_map.mp hx
              obtain ⟨py, hpy, rfl⟩ := List.mem_map.mp hy
              obtain ⟨i, hi, rfl⟩ := List.mem_iff_getElem.mp (pm.mem_iff.mp hpx)
              obtain ⟨j, hj, rfl⟩ := List.mem_iff_getElem.mp (pm.mem_iff.mp hpy)
              have : i = j := (List.getElem_inj (i := i) (j := j) (h₀ := by rw [List.length_map]; exact hi) (h₁ := by rw [List.length_map]; exact hj) nd).mp (by rw [List.getElem_map, List.getElem_map]; exact hc)
              subst this
              rfl
            have ri := prq_rd (K := X.K) (H := H) (A := A) (ks := L) fun p hp => k1 p (pm.mem_iff.mp hp)
            rw [e] at ri
            exact (Aft.newL ho S ri q).2 p hp
          · cases ho
theorem bi_dict {md : Nat} (hc : X.calm = true) : CallR X (biV .dict) (rBi X.K .dict md) := by
  intro pins s σ H vs us Q I rv h
  obtain ⟨A, w, σ', ds, r, w', S, rs, ho, q⟩ := h
  match ds, ho with
  | [], ho => cases ho
  | _ :: _ :: _, ho => cases ho
  | [d], ho =>
    obtain ⟨v, rfl, rd1⟩ := one_of rs
    have ho : (if isT d then R.err else (R.of ((w.seq d).bind prsD)).bd fun p => if p.1.Nodup ∧ p.1 ≠ [] ∧ p.1.length ≤ 15 then R.ok (D.dic p.1 p.2, w) else R.err) = .ok (r, w') := ho
    split at ho
    · cases ho
    · rename_i ht
      obtain ⟨⟨ks, es⟩, e1, ho⟩ := bd_split ho
      split at ho
      · rename_i hk
        cases ho
        obtain ⟨xs, e2, e3⟩ := Option.bind_eq_some_iff.mp (of_split e1)
        obtain ⟨a, ys, rfl, rs2, hq⟩ := S.seq rd1 e2
        rcases hq with ⟨z, _⟩ | ⟨_, hq⟩
        · exact absurd z ht
        · obtain ⟨ps, kvs, rfl, q1, q2, q3⟩ := prs_at rs2 e3
          exact call_dictP hc pins s σ H _ us Q I rv ⟨a, ps, kvs, rfl, hq, q1, Aft.newD S hk.2.1 hk.1 q2 q3 q⟩
      · cases ho
theorem bi_max {md : Nat} (hc : X.calm = true) : CallR X (biV .max) (rBi X.K .max md) := by
  intro pins s σ H vs us Q I rv h
  obtain ⟨A, w, σ', ds, r, w', S, rs, ho, q⟩ := h
  match ds, ho with
  | [], ho => cases ho
  | d :: e :: _ :: _, ho => cases d <;> first | (cases ho) | (cases e <;> cases ho)
  | [d, e], ho =>
    obtain ⟨v, u, rfl, rd1, rd2⟩ := two_of rs
    cases d with
    | int i =>
      cases e with
      | int j =>
        cases ho
        obtain rfl : v = .int i := rd1
        obtain rfl : u = .int j := rd2
        exact call_max2 hc pins s σ H _ us Q I rv ⟨i, j, rfl, q.here S rfl⟩
      | _ => cases ho
    | _ => cases e <;> cases ho
  | [d], ho =>
    obtain ⟨v, rfl, rd1⟩ := one_of rs
    have ho : ((R.of ((w.seq d).bind intD)).bd fun xs => if xs.isEmpty then R.err else R.ok (D.int (maxL xs), w)) = .ok (r, w') := by
      rw [← ho]
      cases d <;> rfl
    obtain ⟨ns, e1, ho⟩ := bd_split ho
    split at ho
    · cases ho
    · rename_i he
      cases ho
      have hne : ns ≠ [] := fun z => he (by rw [z]; rfl)
      obtain ⟨m1, m2⟩ := maxL_spec ns hne
      obtain ⟨a, rfl, hq⟩ := intsA S rd1 (of_split e1)
      have fin : ∀ m, m ∈ ns → (∀ y, y ∈ ns → y ≤ m) → Q (.int m) H := fun m hm hle => by
        have em : m = maxL ns := Int.le_antisymm (m2 m hm) (hle _ m1)
        rw [em]
        exact q.here S rfl
      rcases hq with hq | hq
      · exact cr_maxT hc pins s σ H _ us Q I rv ⟨a, ns, rfl, hq, List.length_pos_iff.mpr hne, fin⟩
      · exact cr_max hc pins s σ H _ us Q I rv ⟨a, ns, rfl, hq, List.length_pos_iff.mpr hne, fin⟩
theorem bi_min {md : Nat} (hc : X.calm = true) : CallR X (biV .min) (rBi X.K .min md) := by
  intro pins s σ H vs us Q I rv h
  obtain ⟨A, w, σ', ds, r, w', S, rs, ho, q⟩ := h
  match ds, ho with
  | [], ho => cases ho
  | d :: e :: _ :: _, ho => cases d <;> first | (cases ho) | (cases e <;> cases ho)
  | [d, e], ho =>
    obtain ⟨v, u, rfl, rd1, rd2⟩ := two_of rs
    cases d with
    | int i =>
      cases e with
      | int j =>
        cases ho
        obtain rfl : v = .int i := rd1
        obtain rfl : u = .int j := rd2
        exact call_min2 hc pins s σ H _ us Q I rv ⟨i, j, rfl, q.here S rfl⟩
      | _ => cases ho
    | _ => cases e <;> cases ho
  | [d], ho =>
    obtain ⟨v, rfl, rd1⟩ := one_of rs
    have ho : ((R.of ((w.seq d).bind intD)).bd fun xs => if xs.isEmpty then R.err else R.ok (D.int (minL xs), w)) = .ok (r, w') := by
      rw [← ho]
      cases d <;> rfl
    obtain ⟨ns, e1, ho⟩ := bd_split ho
    split at ho
    · cases ho
    · rename_i he
      cases ho
      have hne : ns ≠ [] := fun z => he (by rw [z]; rfl)
      obtain ⟨m1, m2⟩ := minL_spec ns hne
      obtain ⟨a, rfl, hq⟩ := intsA S rd1 (of_split e1)
      have fin : ∀ m, m ∈ ns → (∀ y, y ∈ ns → m ≤ y) → Q (.int m) H := fun m hm hle => by
        have em : m = minL ns := Int.le_antisymm (hle _ m1) (m2 m hm)
        rw [em]
        exact q.here S rfl
      rcases hq with hq | hq
      · exact cr_minT hc pins s σ H _ us Q I rv ⟨a, ns, rfl, hq, List.length_pos_iff.mpr hne, fin⟩
      · exact cr_min hc pins s σ H _ us Q I rv ⟨a, ns, rfl, hq, List.length_pos_iff.mpr hne, fin⟩
theorem bi_tuple {md : Nat} : CallR X (biV .tuple) (rBi X.K .tuple md) := by
  intro pins s σ H vs us Q I rv h
  obtain ⟨A, w, σ', ds, r, w', S, rs, ho, q⟩ := h
  match ds, ho with
  | [], ho => cases ho
  | _ :: _ :: _, ho => cases ho
  | [d], ho =>
    obtain ⟨v, rfl, rd1⟩ := one_of rs
    obtain ⟨xs, e1, ho⟩ := bd_split (show ((R.of (w.seq d)).bd fun xs => newT xs w) = .ok (r, w') from ho)
    obtain ⟨a, ys, rfl, rs2, hq⟩ := S.seq rd1 (of_split e1)
    obtain ⟨_, qn⟩ := Aft.newT ho S rs2 q
    obtain ⟨rfl, rfl, _⟩ := newT_ok ho rs2
    rcases hq with ⟨_, hq⟩ | ⟨_, hq⟩
    · exact call_tuple_of pins s σ H _ us Q I rv ⟨a, ys, rfl, .inr ⟨hq, q.here S ⟨a, ys, rfl, hq, rs2⟩⟩⟩
    · exact call_tuple_of pins s σ H _ us Q I rv ⟨a, ys, rfl, .inl ⟨hq, qn⟩⟩
theorem bi_list {md : Nat} : CallR X (biV .list) (rBi X.K .list md) := by
  intro pins s σ H vs us Q I rv h
  obtain ⟨A, w, σ', ds, r, w', S, rs, ho, q⟩ := h
  match ds, ho with
  | [], ho => cases ho
  | _ :: _ :: _, ho => cases ho
  | [d], ho =>
    obtain ⟨v, rfl, rd1⟩ := one_of rs
    obtain ⟨xs, e1, ho⟩ := bd_split (show ((R.of (w.seq d)).bd fun xs => newL md xs w) = .ok (r, w') from ho)
    obtain ⟨a, ys, rfl, rs2, hq⟩ := S.seq rd1 (of_split e1)
    obtain ⟨_, qn⟩ := Aft.newL ho S rs2 q
    refine call_list_of pins s σ H _ us Q I rv ⟨a, ys, rfl, ?_, qn⟩
    rcases hq with ⟨_, hq⟩ | ⟨_, hq⟩
    · exact .inr hq
    · exact .inl hq
theorem bi_all {md : Nat} (hc : X.calm = true) : CallR X (biV .all) (rBi X.K .all md) := by
  intro pins s σ H vs us Q I rv h
  obtain ⟨A, w, σ', ds, r, w', S, rs, ho, q⟩ := h
  match ds, ho with
  | [], ho => cases ho
  | _ :: _ :: _, ho => cases ho
  | [d], ho =>
    obtain ⟨v, rfl, rd1⟩ := one_of rs
    have ho : (if isT d then R.err else (R.of ((w.seq d).bind boolD)).bd fun xs => R.ok (D.bl (xs.all id), w)) = .ok (r, w') := ho
    split at ho
    · cases ho
    · rename_i ht
      obtain ⟨ns, e1, ho⟩ := bd_split ho
      cases ho
      obtain ⟨a, rfl, hq⟩ := boolsL S rd1 (by simpa using ht) (of_split e1)
      exact cr_all hc pins s σ H _ us Q I rv ⟨a, ns, rfl, hq, q.here S rfl⟩
theorem bi_any {md : Nat} (hc : X.calm = true) : CallR X (biV .any) (rBi X.K .any md) := by
  intro pins s σ H vs us Q I rv h
  obtain ⟨A, w, σ', ds, r, w', S, rs, ho, q⟩ := h
  match ds, ho with
  | [], ho => cases ho
  | _ :: _ :: _, ho => cases ho
  | [d], ho =>
    obtain ⟨v, rfl, rd1⟩ := one_of rs
    have ho : (if isT d then R.err else (R.of ((w.seq d).bind boolD)).bd fun xs => R.ok (D.bl (xs.any id), w)) = .ok (r, w') := ho
    split at ho
    · cases ho
    · rename_i ht
      obtain ⟨ns, e1, ho⟩ := bd_split ho
      cases ho
      obtain ⟨a, rfl, hq⟩ := boolsL S rd1 (by simpa using ht) (of_split e1)
      exact cr_any hc pins s σ H _ us Q I rv ⟨a, ns, rfl, hq, q.here S rfl⟩
theorem bi_sound (b : Bi) (md : Nat) (hc : X.calm = true) (hn : X.base.NoDigits) (hg : X.A.guards = some []) (hu : X.A.units + 64 < cLine) : CallR X (biV b) (rBi X.K b md) := by
  cases b with
  | len => exact bi_len
  | abs => exact bi_abs
  | int => exact bi_int
  | bool => exact bi_bool
  | repr => exact bi_repr hn hg hu
  | sum => exact bi_sum hc
  | max => exact bi_max hc
  | min => exact bi_min hc
  | tuple => exact bi_tuple
  | list => exact bi_list
  | all => exact bi_all hc
  | any => exact bi_any hc
  | dict => exact bi_dict hc
  | sorted => exact bi_sorted
  | _ =>
    intro pins s σ H vs us Q I rv h
    obtain ⟨A, w, σ', ds, r, w', S, rs, ho, q⟩ := h
    cases ho
end
end Fz



/-! Q40: an own error whose __init__ says super().__init__(..), made. -/
namespace PySem
namespace FzX
open PySem.W PySem.Calls PyProof.Rows PySem.HandSPX
/-! ### the text of __init__ -/
def supE (p1 p2 p3 p4 : Pos) (args : List Expr) : Expr := .Call (.Attribute (.Call (.Name "super" p1) [] [] p2) "__init__" p3) args [] p4
def body0 (p1 p2 p3 p4 p5 : Pos) : List Stmt := [.Expr (supE p1 p2 p3 p4 []) p5]
def body1 (f : Str) (p1 p2 p3 p4 p5 p6 p7 p8 p9 p10 : Pos) : List Stmt := [.Expr (supE p1 p2 p3 p4 [.Name f p6]) p5, .Assign [.Attribute (.Name "self" p7) f p8] (.Name f p9) p10]
/-- what the written part says of the class at C -/
structure ErrC (K : Frag) (C : Addr) : Prop where
  cls : ∃ nm q N bs bm sn sub ab col dd k0 k1 k2 k3 k5, K.lookup C = some (excClassObj nm q C N bs bm true sn sub ab col dd k0 k1 k2 k3 k5 "ValueError.__new__") ∧ refsVE bm = true
  sa : findIn K (.ref C) "__setattr__" = some (some (.builtin "object.__setattr__"))
  kC : keepIn K (.ref C) = true
  exC : subIn K (.ref C) (.type "BaseException") = some true
  veC : subIn K (.ref C) (.type "ValueError") = some true
  tyC : typeIn K (.ref C) = some (.type "type")
  mro : mroIn K C (.ref C) = some true
  sup : ks_superIn K C C "__init__" = some (some (.builtin "ValueError.__init__"))
  opq : nsIn K cStatics "thirdparty.any" = some none
/-- .. and of its __init__, at fI -/
structure ErrI (prog : Program) (K : Frag) (C fI : Addr) (params : Arguments) (body : List Stmt) (scope : Scope) : Prop where
  iC : findIn K (.ref C) "__init__" = some (some (.ref fI))
  tI : typeIn K (.ref fI) = some (.type "function")
  fn : ∃ (oc : Value) (od : Option Addr) (nm qual : Str) (doc pm : Value) (an : Option Addr) (cda cc : Addr) (ct : Value) (osl : Array (Option Value)) (ccl cl : Value) (cdd cld : Option Addr) (vs : Array Value) (ccs csl : Array (Option Value)) (file : Str) (tf : Tok),
    K.lookup fI = some ⟨oc, od, .func (fnX nm qual params body scope [("__class__", cc)] .none .none doc pm an (.ref cda) ct), osl⟩ ∧ codeIn K (.ref cda) qual = true ∧
      K.lookup cda = some ⟨ccl, cdd, .fields vs, ccs⟩ ∧ vs[2]? = some (.str file tf) ∧ ((prog.main.file : Str) == file) = true ∧ K.lookup cc = some ⟨cl, cld, .cell (some (.ref C)), csl⟩
  top : (prog.main.scope.names.lookup ("super" : Str)).isSome = false
  hks : scope.names.lookup ("super" : Str) = some .globalImplicit
  hkc : scope.names.lookup ("__class__" : Str) = some .free
  hse : scope.names.lookup ("self" : Str) = some .local
  hk : scope.kind = .function
  hco : scope.isCoroutine = false
  hge : scope.isGenerator = false
  hce : ∀ x ∈ scope.names, x.2 ≠ .cell
theorem ldL {M : Model} {A : Around} {E : Value → Shared → Prop} {s : Shared} {env : Env} {m : Str → Option Value} {x : Str} {pos : Pos} {v : Value} {Q : Value → Shared → Prop} (hn : s.heap.Ns env.locals m) (hv : m x = some v) (h : Q v s)
    (hk : env.scope.kind = .function) (hl : env.kindOf x = some .local) (hd : (x == ("__debug__" : Str)) = false) : wpAny M A (eval (.Name x pos) env) Q E s := wpAny_Name (wpAny_loadName_local hk hl hn hv h) hd
section
variable {prog : Program} {w : World} {A : Around} {E : Value → Shared → Prop} {K : Frag} {C fI : Addr} {mg : Str → Option Value}
/-- the wrapper of ValueError.__init__, called -/
theorem call_mw {h : Heap} {g : Array GenState} {d : Drawn} {t : Nat} {os : OsState} {u e t0 : Addr} {rest : List Value} {Q : Value → Shared → Prop} (T : ErrC K C) (X : K.In h) (he : h.get? e = some (excO C t0)) (hu : h.get? u = some (kxs_mw "ValueError.__init__" e)) (hrest : rest.length ≤ sizeLine)
    (hq : ∀ h' t1, (∀ b o, b ≠ e → h.get? b = some o → h'.get? b = some o) → h'.get? e = some (excO C t1) → Q .none ⟨h', g, d, t, os⟩) :
    wpAny (model prog w) A (call (.ref u) rest) Q E ⟨h, g, d, t, os⟩ := by
  obtain ⟨nm, q, N, bs, bm, sn, sub, ab, col, dd, k0, k1, k2, k3, k5, hC, hbm⟩ := T.cls
  refine wpAny_call (codeAny_of_tree ?_)
  show wpAny _ A.in1 (callAny (.ref u) ⟨rest, []⟩) _ _ _
  simp only [callAny]
  refine wpAny_bind (wpAny_load hu ?_)
  simp only [kxs_mw, show (Value.type "method-wrapper" == Value.type "method" || Value.type "method-wrapper" == Value.type "builtin_function_or_method" || Value.type "method-wrapper" == Value.type "method-wrapper") = true by decide, if_true]
  refine KFB.if_so (by decide) ?_
  refine wpAny_bind (check_bound_init F.excBase_ValueError.toExcCallFacts (X _ _ hC) he rfl ?_)
  refine wpAny_bind (wpAny_pure (wpAny_pure ?_))
  refine ⟨plainId_quiet F.excBase_ValueError.init.plain _, codeAny_builtin F.excBase_ValueError.initEntry ?_⟩
  exact exc_init_tree (cls := .ref C) (t0 := t0) (dv := none) (c2 := .none) (c3 := .none) (b4 := .bool false) he hrest fun h' k e' _ => hq h' _ k e'
/-- super().__init__(..) -/
theorem sup_call {q : Str} {scope : Scope} {body : List Stmt} {params : Arguments} {cda cc L x t0 : Addr} {p1 p2 p3 p4 : Pos} {args : List Expr} {rest : List Value} {m mb : Str → Option Value} {s : Shared} {Q : Value → Shared → Prop}
    {oc ccl cl : Value} {od cdd cld : Option Addr} {nm qual : Str} {doc pm ct : Value} {an : Option Addr} {osl ccs csl : Array (Option Value)} {vs : Array Value} {file : Str} {tf : Tok} {ar : Arg}
    (T : ErrC K C) (I : ErrI prog K C fI params body scope) (X : K.In s.heap) (hg : s.heap.Ns mainGlobals mg) (hgs : mg "super" = none) (hb : s.heap.Ns builtinsNs mb) (hbb : ∀ x : Str, x ≠ "__name__" → mb x = bootBuiltins x)
    (hf : K.lookup fI = some ⟨oc, od, .func (fnX nm qual params body scope [("__class__", cc)] .none .none doc pm an (.ref cda) ct), osl⟩)
    (hcode : K.lookup cda = some ⟨ccl, cdd, .fields vs, ccs⟩) (hvs : vs[2]? = some (.str file tf)) (hfile : ((prog.main.file : Str) == file) = true) (hcell : K.lookup cc = some ⟨cl, cld, .cell (some (.ref C)), csl⟩)
    (hp : (params.posonlyargs ++ params.args).head? = some ar) (har : ar.arg = "self") (hn : s.heap.Ns L m) (hself : m "self" = some (.ref x)) (hx : s.heap.get? x = some (excO C t0)) (hpos : (p3.endLine == p4.line) = true)
    (hform : methodCallForm (args.length + 0) (backTo p4 (starEach args (ksEnv q scope L fI (.ref cda) cc))) [] = true) (hpl : (backTo p4 (starEach args (ksEnv q scope L fI (.ref cda) cc))).any (·.1) = false) (hrest : rest.length ≤ sizeLine)
    (ha : ∀ (u : Addr) (s' : Shared), s'.heap.Ns L m → wpAny (model prog w) A (evalArgs (.ref u) true (backTo p4 (starEach args (ksEnv q scope L fI (.ref cda) cc))) []) (fun ar s1 => ar = ⟨rest, []⟩ ∧ s1 = s') E s')
    (hq : ∀ h' tk t1, (∀ b o, b ≠ x → s.heap.get? b = some o → h'.get? b = some o) → h'.get? x = some (excO C t1) → Q .none { s with heap := h', toks := tk }) :
    _root_.PySem.wpAt (model prog w) A (.func body (ksEnv q scope L fI (.ref cda) cc)) (eval (supE p1 p2 p3 p4 args) (ksEnv q scope L fI (.ref cda) cc)) Q E s := by
  obtain ⟨hh, g, d, t, os⟩ := s
  obtain ⟨cnm, cq, N, bs, bm, sn, sub, ab, col, dd, k0, k1, k2, k3, k5, hC, hbm⟩ := T.cls
  have hxne : ∀ c, (excO C t0).data ≠ .cls c := fun c z => by cases (show Data.fields _ = Data.cls c from z)
  have hcl : clsIn K C = some { name := cnm, bases := bs, mro := .ref C :: bm, ns := N, qualname := cq, hasDict := true, slotNames := sn, subclasses := sub, abstract := ab, collection := col, hasDel := false } := by unfold clsIn; rw [hC] <;> rfl
  have hnotC : x ≠ C := fun z => by
    subst z
    have e := X _ _ hC
    rw [hx] at e
    cases e
  show _root_.PySem.wpAt _ _ _ (attributeBase (.Call (.Name "super" p1) [] [] p2) "__init__" (ksEnv q scope L fI (.ref cda) cc) (eval (.Call (.Name "super" p1) [] [] p2) (ksEnv q scope L fI (.ref cda) cc)) >>= fun ov => standAt p3.atName >>= fun _ =>
    methodCall (.Call (.Name "super" p1) [] [] p2) "__init__" p3 p4 (ksEnv q scope L fI (.ref cda) cc) ov (args.length + 0) (backTo p4 (starEach args (ksEnv q scope L fI (.ref cda) cc))) []) _ _ _
  refine wpAt_bind (ks_wpAt_super_base (env := ksEnv q scope L fI (.ref cda) cc) I.hks I.hkc rfl rfl (X _ _ hf) rfl hp rfl (X _ _ hcode) rfl hvs hfile I.top ?_)
  refine ks_loadName_global I.hk I.hks (loadGlobal_builtin (env := ksEnv q scope L fI (.ref cda) cc) hg hgs hb ((hbb _ (by decide +kernel)).trans rfl) ⟨rfl, ?_⟩)
  refine wpAny_loadName_free I.hk I.hkc rfl ⟨_, X _ _ hcell, rfl⟩ ?_
  rw [har]
  refine wpAny_loadName_local I.hk I.hse hn hself ?_
  refine ks_wpAny_isType_cls (X _ _ hC) rfl ⟨rfl, ?_⟩
  refine ks_wpAny_call_super (X _ _ hC) rfl hx rfl hxne (looks_mroIn X T.mro) (fun h' e k => ?_)
  refine wpAt_of_wpAny (wpAny_bind (wpAny_standAt ?_))
  unfold methodCall
  have X' : K.In h' := X.keeps k
  have hx' := k _ _ hx
  have J : InstAt h' x (excO C t0) C none := ⟨hx', rfl, rfl, trivial⟩
  refine wpAny_bind (wpAny_holding ?_)
  unfold calleeOf
  rw [hform]
  refine kxs_getMethod kxs_ValueError e (looks_opaque X' T.opq) (l₀ := .ref C :: bm) (fun A Q E s k q => wpAny_bind ((looks_clsIn X' hcl) A _ E s k (wpAny_pure q))) rfl X' ?_ (J.type.andThen (looks_subIn X' T.veC)) hnotC rfl ?_
  · have z := T.sup
    unfold ks_superIn at z
    rw [hcl] at z
    exact z
  · have hm : methodCallPos true (.Call (.Name "super" p1) [] [] p2) (ksEnv q scope L fI (.ref cda) cc) p3 p4 = pure p4 := by
      unfold methodCallPos
      rw [hpos]
      rfl
    rw [hm]
    refine wpAny_bind (wpAny_pure ?_)
    have up : ∀ b o, h'.get? b = some o → (h'.push (kxs_mw "ValueError.__init__" x)).get? b = some o := fun b o e => Heap.get?_push_of_some _ e
    obtain ⟨oL, esL, epL, hL, hdL⟩ := hn
    refine kxs_callWith (i := "ValueError.__init__") (x := x) hpl (wpAny_mono (ha _ _ ⟨oL, esL, epL, up _ _ (k _ _ hL), hdL⟩) (fun ar s1 hh => ?_) fun _ _ z => z)
    obtain ⟨rfl, rfl⟩ := hh
    refine ⟨Heap.get?_push_at rfl rfl, ?_⟩
    refine call_mw (t0 := t0) T (X'.keeps up) (up _ _ hx') (Heap.get?_push_at rfl rfl) hrest fun h2 t1 k2 e2 => hq _ _ t1 (fun b o hb eo => k2 b o hb (up _ _ (k _ _ eo))) e2
theorem inter {env : Env} (h : env.scope.kind = .function) : interactive env = false := by
  unfold interactive
  rw [h]
  rfl
/-- the parameters of __init__ -/
def iA0 (p1 : Pos) : Arguments := { posonlyargs := [], args := [{ arg := "self", annotation := none, pos := p1 }], vararg := none, kwonlyargs := [], kw_defaults := [], kwarg := none, defaults := [] }
def iA1 (f : Str) (p1 p2 : Pos) : Arguments := { posonlyargs := [], args := [{ arg := "self", annotation := none, pos := p1 }, { arg := f, annotation := none, pos := p2 }], vararg := none, kwonlyargs := [], kw_defaults := [], kwarg := none, defaults := [] }
theorem kept_but {K : Frag} {h h' : Heap} {x : Addr} (X : K.In h) (hx : K.lookup x = none) (k : ∀ b o, b ≠ x → h.get? b = some o → h'.get? b = some o) : K.In h' := fun a o e =>
  k a o (fun z => by rw [z, hx] at e; cases e) (X a o e)
theorem one_size (v : Value) : [v].length ≤ sizeLine := by
  rw [sizeLine_eq]
  exact (by decide : 1 ≤ 16777216)
theorem init0 {scope : Scope} {p1 p2 p3 p4 p5 q1 : Pos} {x t0 : Addr} {mb : Str → Option Value} {R : Result → Shared → Prop} {s : Shared} (T : ErrC K C) (I : ErrI prog K C fI (iA0 q1) (body0 p1 p2 p3 p4 p5) scope) (hpos : (p3.endLine == p4.line) = true)
    (X : K.In s.heap) (hg : s.heap.Ns mainGlobals mg) (hgs : mg "super" = none) (hb : s.heap.Ns builtinsNs mb) (hbb : ∀ x : Str, x ≠ "__name__" → mb x = bootBuiltins x) (hlim : s.heap.NoLimit) (hx : s.heap.get? x = some (excO C t0)) (hroom : A.depth < recursionLimit)
    (hq : ∀ h' tk t1, (∀ b o, b ≠ x → s.heap.get? b = some o → h'.get? b = some o) → h'.get? x = some (excO C t1) → R (.ok (.ret .none)) { s with heap := h', toks := tk }) :
    codeAny (model prog w) A (.call (.ref fI) ⟨[.ref x], []⟩) R s := by
  obtain ⟨oc, od, nm, qual, doc, pm, an, cda, cc, ct, osl, ccl, cl, cdd, cld, vs, ccs, csl, file, tf, hf, hcd, hcode, hvs, hfile, hcell⟩ := I.fn
  refine ks_codeAny_call_defAt (binds := [("self", .ref x)]) hroom (X _ _ hf) rfl hlim (codeRec_of X hcd) rfl (BindsTo.of_eq (by first | rfl | with_unfolding_all rfl)) I.hce ?_ (fun h₀ hn k => ?_) I.hco I.hge I.hk
  · intro y hy
    rcases List.mem_cons.mp hy with rfl | hy
    · exact I.hse
    · cases hy
  · refine ks_wpAt_execs_cons (ks_wpAt_Expr_any ?_ (inter I.hk) (by rfl))
    refine sup_call (s := { s with heap := h₀, toks := s.toks + 1 }) (m := fun y => List.lookup y [(("self" : Str), Value.ref x)]) (rest := []) T I (X.keeps k) (hg.keeps k) hgs (hb.keeps k) hbb hf hcode hvs hfile hcell rfl rfl hn rfl (k _ _ hx) hpos rfl rfl (Nat.zero_le _) (fun u s' _ => evalArgs_empty ⟨rfl, rfl⟩) ?_
    intro h' tk t1 k2 e2
    refine wpAt_of_wpAny (wpAny_execs_nil ?_)
    exact hq h' tk t1 (fun b o hb e => k2 b o hb (k _ _ e)) e2
theorem init1 {f : Str} {scope : Scope} {p1 p2 p3 p4 p5 p6 p7 p8 p9 p10 q1 q2 : Pos} {x t0 : Addr} {v : Value} {mb : Str → Option Value} {R : Result → Shared → Prop} {s : Shared} (T : ErrC K C) (I : ErrI prog K C fI (iA1 f q1 q2) (body1 f p1 p2 p3 p4 p5 p6 p7 p8 p9 p10) scope) (hpos : (p3.endLine == p4.line) = true)
    (hfl : scope.names.lookup f = some .local) (hfs : f ≠ "self") (hdb : (f == ("__debug__" : Str)) = false) (noN : findIn K (.ref C) f = some none)
    (X : K.In s.heap) (hg : s.heap.Ns mainGlobals mg) (hgs : mg "super" = none) (hb : s.heap.Ns builtinsNs mb) (hbb : ∀ x : Str, x ≠ "__name__" → mb x = bootBuiltins x) (hlim : s.heap.NoLimit) (hx : s.heap.get? x = some (excO C t0)) (hnx : K.lookup x = none) (hroom : A.depth < recursionLimit)
    (hbind : ∀ (nm qual : Str) (doc pm : Value) (an : Option Addr) (cdv ct : Value) (cl : List (Str × Addr)), bindArgs (fnX nm qual (iA1 f q1 q2) (body1 f p1 p2 p3 p4 p5 p6 p7 p8 p9 p10) scope cl .none .none doc pm an cdv ct) ⟨[.ref x, v], []⟩ = pure [(("self" : Str), .ref x), (f, v)])
    (hq : ∀ h' tk t1 dx, (∀ b o, b ≠ x → s.heap.get? b = some o → h'.get? b = some o) → h'.get? x = some { cls := .ref C, dict := some dx, data := .fields #[.ref t1, .none, .none, .none, .bool false, .none] } → s.heap.objs.size ≤ dx → dx ≠ x →
      h'.Ns1 dx (fun y => if y = f then some v else none) → R (.ok (.ret .none)) { s with heap := h', toks := tk }) :
    codeAny (model prog w) A (.call (.ref fI) ⟨[.ref x, v], []⟩) R s := by
  obtain ⟨oc, od, nm, qual, doc, pm, an, cda, cc, ct, osl, ccl, cl, cdd, cld, vs, ccs, csl, file, tf, hf, hcd, hcode, hvs, hfile, hcell⟩ := I.fn
  obtain ⟨cnm, cq, N, bs, bm, sn, sub, ab, col, dd, k0, k1, k2, k3, k5, hC, hbm⟩ := T.cls
  have hcl : clsIn K C = some { name := cnm, bases := bs, mro := .ref C :: bm, ns := N, qualname := cq, hasDict := true, slotNames := sn, subclasses := sub, abstract := ab, collection := col, hasDel := false } := by unfold clsIn; rw [hC] <;> rfl
  have hlk : List.lookup f [(f, v), (("self" : Str), Value.ref x)] = some v := by simp [List.lookup]
  have hlk2 : List.lookup ("self" : Str) [(f, v), (("self" : Str), Value.ref x)] = some (.ref x) := by
    have e : (("self" : Str) == f) = false := by
      simpa using fun z => hfs z.symm
    simp [List.lookup, e]
  refine ks_codeAny_call_defAt (binds := [("self", .ref x), (f, v)]) hroom (X _ _ hf) rfl hlim (codeRec_of X hcd) rfl (BindsTo.of_eq (hbind _ _ _ _ _ _ _ _)) I.hce ?_ (fun h₀ hn k => ?_) I.hco I.hge I.hk
  · intro y hy
    rcases List.mem_cons.mp hy with rfl | hy
    · exact I.hse
    · rcases List.mem_cons.mp hy with rfl | hy
      · exact hfl
      · cases hy
  · have hn : h₀.Ns s.heap.objs.size (fun y => List.lookup y [(f, v), (("self" : Str), Value.ref x)]) := hn
    refine ks_wpAt_execs_cons (ks_wpAt_Expr_any ?_ (inter I.hk) (by rfl))
    refine sup_call (s := { s with heap := h₀, toks := s.toks + 2 }) (m := fun y => List.lookup y [(f, v), (("self" : Str), Value.ref x)]) (rest := [v]) T I (X.keeps k) (hg.keeps k) hgs (hb.keeps k) hbb hf hcode hvs hfile hcell rfl rfl hn hlk2 (k _ _ hx) hpos rfl rfl (one_size v) (fun u s' hn' => ?_) ?_
    · refine evalArgs_plain ?_
      refine Calls.spliced_cons ?_
      refine ldL (v := v) hn' hlk ?_ I.hk hfl hdb
      exact Calls.spliced_nil ⟨rfl, rfl⟩
    · intro h' tk t1 k2 e2
      have xL : s.heap.objs.size ≠ x := fun z => Nat.lt_irrefl _ (by rw [← z] at hx; exact Heap.lt_size hx)
      obtain ⟨oL, esL, epL, hL, hdL⟩ := hn
      have hn2 : h'.Ns s.heap.objs.size (fun y => List.lookup y [(f, v), (("self" : Str), Value.ref x)]) := ⟨oL, esL, epL, k2 _ _ xL hL, hdL⟩
      have X2 : K.In h' := kept_but (X.keeps k) hnx k2
      refine wpAt_of_wpAny (wpAny_execs_cons (plainObj_wpAny_Assign_Attribute ?_ (by rfl)))
      refine ldL (v := v) hn2 hlk ?_ I.hk hfl hdb
      refine ldL (v := .ref x) hn2 hlk2 ?_ I.hk I.hse rfl
      refine set_plain X2 (ox := excO C t1) (od := none) ⟨e2, rfl, rfl, trivial⟩ T.sa ?_
      refine exc_osa X2 e2 hcl (show refsVE (.ref C :: bm) = true from hbm) rfl noN (fun h3 tk3 dx k3 dn dne hx3 hn3 => ?_)
      refine wpAny_execs_nil ?_
      have z : s.heap.objs.size < h'.objs.size := Heap.lt_size (k2 _ _ xL hL)
      exact hq h3 tk3 t1 dx (fun b o hb e => k3 b o hb (k2 b o hb (k _ _ e))) hx3 (Nat.le_of_lt (Nat.lt_of_lt_of_le z dn)) dne hn3
/-- a made error, without a field -/
theorem made0 {scope : Scope} {p1 p2 p3 p4 p5 q1 : Pos} {mb : Str → Option Value} {R : Result → Shared → Prop} {s : Shared} (T : ErrC K C) (I : ErrI prog K C fI (iA0 q1) (body0 p1 p2 p3 p4 p5) scope) (hpos : (p3.endLine == p4.line) = true)
    (X : K.In s.heap) (hg : s.heap.Ns mainGlobals mg) (hgs : mg "super" = none) (hb : s.heap.Ns builtinsNs mb) (hbb : ∀ x : Str, x ≠ "__name__" → mb x = bootBuiltins x) (hlim : s.heap.NoLimit) (hroom : A.depth + 1 < recursionLimit)
    (hq : ∀ h' tk e t1, (∀ b o, s.heap.get? b = some o → h'.get? b = some o) → s.heap.objs.size ≤ e → h'.get? e = some (excO C t1) → R (.ok (.ret (.ref e))) { s with heap := h', toks := tk }) :
    codeAny (model prog w) A (.call (.ref C) ⟨[], []⟩) R s := by
  obtain ⟨nm, q, N, bs, bm, sn, sub, ab, col, dd, k0, k1, k2, k3, k5, hC, hbm⟩ := T.cls
  obtain ⟨hp, g, dr, tk, os⟩ := s
  have k : ∀ b o, hp.get? b = some o → ((hp.push (kdv_tup [])).push (excO C hp.objs.size)).get? b = some o := fun b o e => Heap.get?_push_of_some _ (Heap.get?_push_of_some _ e)
  have hget : ((hp.push (kdv_tup [])).push (excO C hp.objs.size)).get? (hp.objs.size + 1) = some (excO C hp.objs.size) := by heap_get
  refine call_own F.excBase_ValueError (fun X => refsVE_contains X bm hbm) (X _ _ hC) (looks_findIn X I.iC) (fun self => bind_fn X self I.tI) (Nat.zero_le _) ?_
  refine init0 (s := ⟨(hp.push (kdv_tup [])).push (excO C hp.objs.size), g, dr, tk, os⟩) T I hpos (X.keeps k) (hg.keeps k) hgs (hb.keeps k) hbb (hlim.keeps k) hget ?_ fun h' tk' t1 k' hx => ?_
  · show A.depth + 1 < recursionLimit
    exact hroom
  · have old : ∀ b o, hp.get? b = some o → h'.get? b = some o := fun b o e => k' b o (Nat.ne_of_lt (Nat.lt_succ_of_lt (Heap.lt_size e))) (k b o e)
    exact ⟨rfl, hq h' tk' (hp.objs.size + 1) t1 old (Nat.le_succ _) hx⟩
/-- .. with a field -/
theorem made1 {f : Str} {scope : Scope} {p1 p2 p3 p4 p5 p6 p7 p8 p9 p10 q1 q2 : Pos} {v : Value} {mb : Str → Option Value} {R : Result → Shared → Prop} {s : Shared} (T : ErrC K C) (I : ErrI prog K C fI (iA1 f q1 q2) (body1 f p1 p2 p3 p4 p5 p6 p7 p8 p9 p10) scope) (hpos : (p3.endLine == p4.line) = true)
    (hfl : scope.names.lookup f = some .local) (hfs : f ≠ "self") (hdb : (f == ("__debug__" : Str)) = false) (noN : findIn K (.ref C) f = some none)
    (X : K.In s.heap) (hg : s.heap.Ns mainGlobals mg) (hgs : mg "super" = none) (hb : s.heap.Ns builtinsNs mb) (hbb : ∀ x : Str, x ≠ "__name__" → mb x = bootBuiltins x) (hlim : s.heap.NoLimit) (hroom : A.depth + 1 < recursionLimit)
    (hbind : ∀ (x : Addr) (nm qual : Str) (doc pm : Value) (an : Option Addr) (cdv ct : Value) (cl : List (Str × Addr)), bindArgs (fnX nm qual (iA1 f q1 q2) (body1 f p1 p2 p3 p4 p5 p6 p7 p8 p9 p10) scope cl .none .none doc pm an cdv ct) ⟨[.ref x, v], []⟩ = pure [(("self" : Str), .ref x), (f, v)])
    (hq : ∀ h' tk e d t1, (∀ b o, s.heap.get? b = some o → h'.get? b = some o) → s.heap.objs.size ≤ e → h'.get? e = some { cls := .ref C, dict := some d, data := .fields #[.ref t1, .none, .none, .none, .bool false, .none] } → s.heap.objs.size ≤ d → d ≠ e →
      h'.Ns1 d (fun y => if y = f then some v else none) → R (.ok (.ret (.ref e))) { s with heap := h', toks := tk }) :
    codeAny (model prog w) A (.call (.ref C) ⟨[v], []⟩) R s := by
  obtain ⟨nm, q, N, bs, bm, sn, sub, ab, col, dd, k0, k1, k2, k3, k5, hC, hbm⟩ := T.cls
  obtain ⟨hp, g, dr, tk, os⟩ := s
  have k : ∀ b o, hp.get? b = some o → ((hp.push (kdv_tup [v])).push (excO C hp.objs.size)).get? b = some o := fun b o e => Heap.get?_push_of_some _ (Heap.get?_push_of_some _ e)
  have hget : ((hp.push (kdv_tup [v])).push (excO C hp.objs.size)).get? (hp.objs.size + 1) = some (excO C hp.objs.size) := by heap_get
  have hnx : K.lookup (hp.objs.size + 1) = none := by
    cases e : K.lookup (hp.objs.size + 1) with
    | none => rfl
    | some o =>
      have z : hp.get? (hp.objs.size + 1) = some o := X _ _ e
      exact absurd (Nat.lt_of_succ_lt (Heap.lt_size z)) (Nat.lt_irrefl _)
  refine call_own F.excBase_ValueError (fun X => refsVE_contains X bm hbm) (X _ _ hC) (looks_findIn X I.iC) (fun self => bind_fn X self I.tI) (one_size v) ?_
  refine init1 (s := ⟨(hp.push (kdv_tup [v])).push (excO C hp.objs.size), g, dr, tk, os⟩) T I hpos hfl hfs hdb noN (X.keeps k) (hg.keeps k) hgs (hb.keeps k) hbb (hlim.keeps k) hget hnx ?_ (hbind _) fun h' tk' t1 dx k' hx dn dne hns => ?_
  · show A.depth + 1 < recursionLimit
    exact hroom
  · have old : ∀ b o, hp.get? b = some o → h'.get? b = some o := fun b o e => k' b o (Nat.ne_of_lt (Nat.lt_succ_of_lt (Heap.lt_size e))) (k b o e)
    have z : hp.objs.size + 1 + 1 ≤ dx := by
      first
        | (simpa only [Heap.size_push] using dn)
        | exact dn
        | (have q := dn; rw [Heap.size_push, Heap.size_push] at q; exact q)
    exact ⟨rfl, hq h' tk' (hp.objs.size + 1) dx t1 old (Nat.le_succ _) hx (Nat.le_trans (Nat.le_trans (Nat.le_succ _) (Nat.le_succ _)) z) dne hns⟩
end
end FzX
end PySem
namespace L2
open PySem PySem.Spec PyProof.Rows
section
variable {X : Cx} {C fI : Addr}
/-- C() -/
theorem pmk_err0 {c : Str} {p pos : Pos} {k : Nat} {scope : Scope} {p1 p2 p3 p4 p5 q1 : Pos} (T : PySem.FzX.ErrC X.K C) (I0 : PySem.FzX.ErrI X.prog X.K C fI (PySem.FzX.iA0 q1) (PySem.FzX.body0 p1 p2 p3 p4 p5) scope) (hpos : (p3.endLine == p4.line) = true)
    (gC : X.mg c = some (.ref C)) (gs : X.mg "super" = none) (hr : Room k X.A) (hg : Gl X c) (hdb : (c == ("__debug__" : Str)) = false) :
    PMk X (.Call (.Name c p) [] [] pos) (fun _ H Q => Q (.ref C) none H) := by
  intro pins s σ H Q I h
  refine wpAny_Call_Name_kw (ld_glob I hg gC ?_ hdb)
  refine PySem.W.callWith_K0 I.kIn T.kC ?_
  show wpAny _ _ (call (.ref C) []) _ _ _
  have hlim := I.nolimit
  obtain ⟨mb, hb, hbb⟩ := I.mod.blt
  have hb := hb.keeps I.bk
  have hgl := I.mod.glob.keeps I.bk
  obtain ⟨hp, g, dr, tk, os⟩ := s
  refine wpAny_call (PySem.FzX.made0 T I0 hpos I.kIn hgl gs hb hbb hlim (by have := hr.dp; omega) fun h' tk' e t1 old new ho => ?_)
  show MkP X pins σ Q (.ref e) ⟨h', g, dr, tk', os⟩
  refine ⟨e, _, _, ⟨hp, g, dr, tk, os⟩, H, .ref C, none, rfl, I, old, ?_, ho, ⟨rfl, rfl⟩, rfl, rfl, I.hok.fresh new, rfl, I.bare, raises_own T.exC T.tyC, h⟩
  show hp.get? e = none
  cases z : hp.get? e with
  | none => rfl
  | some o => exact absurd (Heap.lt_size z) (Nat.not_lt.mpr new)
/-- C(a) -/
def tMk1 (C : Addr) (f : Str) (ta : TA) : St → Hp → XK → Prop := fun σ H Q => ta σ H fun vs H1 => ∃ v, vs = [v] ∧ ∀ d, H1 d = none → Q (.ref C) (some d) (upd H1 d (.xd [(f, v)]))
theorem relO_one {f : Str} {v : V} {v' : Value} (r : RelV v v') (y : Str) : RelO (List.lookup y [(f, v)]) (if y = f then some v' else none) := by
  by_cases hw : y = f
  · subst hw
    rw [if_pos rfl]
    have q : List.lookup y [(y, v)] = some v := by simp [List.lookup]
    rw [q]
    exact r
  · rw [if_neg hw]
    have qw : (y == f) = false := by simpa using hw
    have q2 : List.lookup y [(f, v)] = none := by simp [List.lookup, qw]
    rw [q2]
    trivial
theorem pmk_err1 {c f : Str} {a : Expr} {ta : TA} {p pos : Pos} {k : Nat} {scope : Scope} {p1 p2 p3 p4 p5 p6 p7 p8 p9 p10 q1 q2 : Pos} (T : PySem.FzX.ErrC X.K C) (I0 : PySem.FzX.ErrI X.prog X.K C fI (PySem.FzX.iA1 f q1 q2) (PySem.FzX.body1 f p1 p2 p3 p4 p5 p6 p7 p8 p9 p10) scope) (hpos : (p3.endLine == p4.line) = true)
    (hfl : scope.names.lookup f = some .local) (hfs : f ≠ "self") (hdf : (f == ("__debug__" : Str)) = false) (noN : PySem.W.findIn X.K (.ref C) f = some none)
    (hbind : ∀ (v : Value) (x : Addr) (nm qual : Str) (doc pm : Value) (an : Option Addr) (cdv ct : Value) (cl : List (Str × Addr)), bindArgs (PySem.W.fnX nm qual (PySem.FzX.iA1 f q1 q2) (PySem.FzX.body1 f p1 p2 p3 p4 p5 p6 p7 p8 p9 p10) scope cl .none .none doc pm an cdv ct) ⟨[.ref x, v], []⟩ = pure [(("self" : Str), .ref x), (f, v)])
    (gC : X.mg c = some (.ref C)) (gs : X.mg "super" = none) (hr : Room k X.A) (hg : Gl X c) (hdb : (c == ("__debug__" : Str)) = false) (ha : PA X [a] ta)
    (he : starEach (a :: []) X.env = (false, eval a X.env) :: starEach [] X.env) :
    PMk X (.Call (.Name c p) [a] [] pos) (tMk1 C f ta) := by
  intro pins s σ H Q I h
  refine wpAny_Call_Name_kw (ld_glob I hg gC ?_ hdb)
  refine PySem.W.callWith_K (h₀ := X.base) I.ok.mod.kin T.kC (thn (ha.run pos pins s σ H _ I h) fun us s1 hh => ?_) he rfl
  obtain ⟨vs, H1, I1, r1, v, ev, q1⟩ := hh
  subst ev
  refine ⟨I1.kIn, ?_⟩
  cases r1 with
  | cons rv rn =>
    rename_i v' us'
    cases rn
    show wpAny _ _ (call (.ref C) [v']) _ _ _
    have hlim := I1.nolimit
    obtain ⟨mb, hb, hbb⟩ := I1.mod.blt
    have hb := hb.keeps I1.bk
    have hgl := I1.mod.glob.keeps I1.bk
    obtain ⟨hp, g, dr, tk, os⟩ := s1
    refine wpAny_call (PySem.FzX.made1 T I0 hpos hfl hfs hdf noN I1.kIn hgl gs hb hbb hlim (by have := hr.dp; omega) (hbind v') fun h' tk' e d t1 kold new ho dbig dne hns => ?_)
    show MkP X pins σ Q (.ref e) ⟨h', g, dr, tk', os⟩
    obtain ⟨G', g1, g2⟩ := restrict h' fun b => decide (b ≠ e)
    have gk : ∀ b, b ≠ e → G'.get? b = h'.get? b := fun b hb => g1 b (decide_eq_true hb)
    have ge : G'.get? e = none := g2 e (by simp)
    have old : ∀ b o, hp.get? b = some o → G'.get? b = some o := fun b o q => (gk b (Nat.ne_of_lt (Nat.lt_of_lt_of_le (Heap.lt_size q) new))).trans (kold b o q)
    have ob : ObjOk X.prog X.w (upd H1 d (.xd [(f, v)])) G' d (.xd [(f, v)]) :=
      ⟨_, hns.at (fun o q => (gk d dne).trans q), fun y => relO_one rv y⟩
    have J : Inv X pins σ (upd H1 d (.xd [(f, v)])) ⟨G', g, dr, tk', os⟩ := I1.laid (t' := tk') old dbig ob
    refine ⟨e, _, _, ⟨G', g, dr, tk', os⟩, _, .ref C, some d, rfl, J, fun b o q => ?_, ge, ho, ⟨rfl, rfl⟩, rfl, rfl, ?_, rfl, I1.bare, raises_own T.exC T.tyC, q1 d (I1.hok.fresh dbig)⟩
    · by_cases hb : b = e
      · have q' : G'.get? b = some o := q
        rw [hb, ge] at q'; cases q'
      · exact (gk b hb).symm.trans q
    · rw [upd_ne (Ne.symm dne)]
      exact I1.hok.fresh new
end
end L2

/-! Q8: methods; what a def promises; the context. -/
namespace Fz
open PySem PySem.Spec PyProof.Rows L2

/-! ### methods -/
def meName : Me → Str
  | .append => "append"
  | .extend => "extend"
  | .pop => "pop"
  | .insert => "insert"
  | .index => "index"
  | .count => "count"
  | .remove => "remove"
def rMe (K : PySem.W.Frag) (m : Me) : V → List V → Hp → VK → Prop := fun x vs H Q => ∃ A w σ d ds r w', Sim K H A w σ ∧ RD K H A d x ∧ RDs K H A ds vs ∧ meF m d ds w = .ok (r, w') ∧ Aft K A H σ r w' Q
section
variable {X : Cx}
theorem put_use {K : PySem.W.Frag} {H : Hp} {A : Ad} {w w' : Wd} {σ : Sl} {d r : D} {v : V} {xs ys : List D} {Q : VK} (S : Sim K H A w σ) (r1 : RD K H A d v) (e1 : w.seq d = some xs) (e2 : w.put d ys = some w') (q : Aft K A H σ r w' Q) :
    ∃ a us, v = .ref a ∧ H a = some (.lst us) ∧ RDs K H A xs us ∧ ∀ vs z, RDs K H A ys vs → RD K H A r z → Q z (upd H a (.lst vs)) := by
  obtain ⟨a, us, ys', rfl, h1, h2, h3, h4⟩ := put_ok e1 e2 S r1
  rw [e1] at h2
  cases h2
  refine ⟨a, us, rfl, h1, h3, fun vs z hv hz => ?_⟩
  obtain ⟨s, S'⟩ := h4 vs hv
  exact q A z _ s S' (hz.step s.toCar)
theorem me_append : MtM X "list.append" (rMe X.K .append) := by
  intro pins s σ H x vs v us Q I rx rv h
  obtain ⟨A, w, σ', d, ds, r, w', S, rd1, rs, ho, q⟩ := h
  match ds, ho with
  | [], ho => cases ho
  | _ :: _ :: _, ho => cases ho
  | [e], ho =>
    obtain ⟨u, rfl, rd2⟩ := one_of rs
    obtain ⟨xs, e1, ho⟩ := bd_split (show ((R.of (w.seq d)).bd fun xs => if xs.length < mxLen then (R.of (w.put d (xs ++ [e]))).bd fun w' => R.ok (D.non, w') else R.err) = .ok (r, w') from ho)
    split at ho
    · rename_i hz
      obtain ⟨w2, e2, ho⟩ := bd_split ho
      cases ho
      obtain ⟨a, ys, rfl, h1, h2, h3⟩ := put_use S rd1 (of_split e1) (of_split e2) q
      exact mt_append pins s σ H _ _ v us Q I rx rv ⟨a, ys, u, rfl, rfl, h1, Nat.lt_of_lt_of_le (by rw [h2.length]; exact hz) (by decide), h3 _ _ (h2.append (RDs.one rd2)) rfl⟩
    · cases ho
theorem me_extend : MtM X "list.extend" (rMe X.K .extend) := by
  intro pins s σ H x vs v us Q I rx rv h
  obtain ⟨A, w, σ', d, ds, r, w', S, rd1, rs, ho, q⟩ := h
  match ds, ho with
  | [], ho => cases ho
  | _ :: _ :: _, ho => cases ho
  | [e], ho =>
    obtain ⟨u, rfl, rd2⟩ := one_of rs
    have ho : (if isL e && !deq e d then (R.of (w.seq d)).bd fun xs => (R.of (w.seq e)).bd fun ys => if xs.length + ys.length ≤ mxLen then (R.of (w.put d (xs ++ ys))).bd fun w' => R.ok (D.non, w') else R.err else R.err) = .ok (r, w') := ho
    split at ho
    · rename_i hl
      obtain ⟨xs, e1, ho⟩ := bd_split ho
      obtain ⟨ys, e2, ho⟩ := bd_split ho
      split at ho
      · rename_i hz
        obtain ⟨w2, e3, ho⟩ := bd_split ho
        cases ho
        obtain ⟨b, zs, rfl, h5, h6⟩ := S.lst rd2 (Bool.and_eq_true_iff.mp hl).1 (of_split e2)
        obtain ⟨a, ys', rfl, h1, h2, h3⟩ := put_use S rd1 (of_split e1) (of_split e3) q
        exact mt_extend pins s σ H _ _ v us Q I rx rv ⟨a, b, ys', zs, rfl, rfl, h1, h6, Nat.le_trans (by rw [h2.length, h5.length]; exact hz) (by decide), h3 _ _ (h2.append h5) rfl⟩
      · cases ho
    · cases ho
theorem ixI_seq {n : Nat} {i : Int} {j : Nat} (h : ixI n i = some j) : seqIndex? i n = some j ∧ j < n ∧ -(n : Int) ≤ i ∧ i < n := ixN_seq h
theorem me_pop : MtM X "list.pop" (rMe X.K .pop) := by
  intro pins s σ H x vs v us Q I rx rv h
  obtain ⟨A, w, σ', d, ds, r, w', S, rd1, rs, ho, q⟩ := h
  match ds, ho with
  | e :: _ :: _, ho => cases e <;> cases ho
  | [], ho =>
    obtain rfl : vs = [] := rs
    obtain ⟨xs, e1, ho⟩ := bd_split (show ((R.of (w.seq d)).bd fun xs => (R.of xs[xs.length - 1]?).bd fun y => (R.of (w.put d xs.dropLast)).bd fun w' => R.ok (y, w')) = .ok (r, w') from ho)
    obtain ⟨y, e2, ho⟩ := bd_split ho
    obtain ⟨w2, e3, ho⟩ := bd_split ho
    cases ho
    obtain ⟨a, ys, rfl, h1, h2, h3⟩ := put_use S rd1 (of_split e1) (of_split e3) q
    obtain ⟨z, hz, rz⟩ := h2.get (of_split e2)
    exact mt_pop pins s σ H _ _ v us Q I rx rv ⟨a, ys, z, rfl, rfl, h1, by rw [h2.length]; exact hz, h3 _ _ h2.dropLast rz⟩
  | [e], ho =>
    cases e with
    | int i =>
      obtain ⟨u, rfl, rd2⟩ := one_of rs
      obtain rfl : u = .int i := rd2
      obtain ⟨xs, e1, ho⟩ := bd_split (show ((R.of (w.seq d)).bd fun xs => (R.of (ixI xs.length i)).bd fun k => (R.of xs[k]?).bd fun y => (R.of (w.put d (xs.eraseIdx k))).bd fun w' => R.ok (y, w')) = .ok (r, w') from ho)
      obtain ⟨k, e4, ho⟩ := bd_split ho
      obtain ⟨y, e2, ho⟩ := bd_split ho
      obtain ⟨w2, e3, ho⟩ := bd_split ho
      cases ho
      obtain ⟨a, ys, rfl, h1, h2, h3⟩ := put_use S rd1 (of_split e1) (of_split e3) q
      obtain ⟨z, hz, rz⟩ := h2.get (of_split e2)
      obtain ⟨l1, l2, l3, l4⟩ := ixI_seq (of_split e4)
      have zl : xs.length ≤ sizeLine := by
        obtain ⟨_, _, _, _, z⟩ := I.lst h1
        rw [← h2.length]
        exact z
      rw [sizeLine_eq] at zl
      exact mt_popAt pins s σ H _ _ v us Q I rx rv ⟨a, ys, i, k, z, rfl, rfl, h1, by omega, by omega, by rw [h2.length]; exact l1, hz, h3 _ _ (h2.eraseIdx k) rz⟩
    | _ => cases ho
end

/-! ### a def's promise -/
/-- a def by what it is worth -/
def spD (K : PySem.W.Frag) (F : List D → List (List D) → R (D × List (List D))) (n : Nat) : Sp := fun vs H Q _ => ∃ (A : Ad) (g : List (List D)) (ds : List D) (d : D) (g' : List (List D)), A.mu = [] ∧ A.cn = [] ∧ Sim K H A ⟨[], [], g⟩ [] ∧ RDs K H A ds vs ∧ ds.length = n ∧ F ds g = .ok (d, g') ∧
  ∀ A' v H', Step A H A' H' → A'.mu = [] → Sim K H' A' ⟨[], [], g'⟩ [] → RD K H' A' d v → Q v H'
/-- FnOk with no guard around -/
structure FnG (P : Program) (w : World) (K : PySem.W.Frag) (mg : Str → Option Value) (base : Heap) (k : Nat) (f : Addr) (fd : FuncData) (ps : List Str) (sp : Sp) : Prop where
  run : ∀ (A : Around) (outer : List Env) (s : Shared) (H : Hp) (args : Args) (us : List Value) (vs : List V) (Q : VK) (E : XK), Room k A → A.guards = some [] → Env0 P w K mg base A outer s H → BindsTo s fd args (ps.zip us) → Vals vs us → sp vs H Q E →
    codeAny (model P w) A (.call (.ref f) args) (CR CX0 outer P w H s Q E) s
theorem FnG.mono {P : Program} {w : World} {K : PySem.W.Frag} {mg : Str → Option Value} {base : Heap} {j k : Nat} {f : Addr} {fd : FuncData} {ps : List Str} {sp : Sp} (F : FnG P w K mg base j f fd ps sp) (h : j ≤ k) : FnG P w K mg base k f fd ps sp :=
  ⟨fun A outer s H args us vs Q E hr => F.run A outer s H args us vs Q E (hr.mono h)⟩

structure Tb where
  free : List Str
  defs : List (Str × List Str)
  cons : List (Str × D)
  /-- def, positional values, keywords, the order -/
  binds : List (Nat × Nat × List Str × Option (List Nat))
  /-- the package's errors, with the fields' names; what they stand under -/
  errs : List (Str × Option Str) := []
  eb : Str := ""
/-! ### errors -/
/-- what the written part says of an error's class -/
structure ErrA (prog : Program) (K : PySem.W.Frag) (C B : Addr) (f : Option Str) : Prop where
  c : PySem.FzX.ErrC K C
  i0 : f = none → ∃ (fI : Addr) (q1 p1 p2 p3 p4 p5 : Pos) (scope : Scope), PySem.FzX.ErrI prog K C fI (PySem.FzX.iA0 q1) (PySem.FzX.body0 p1 p2 p3 p4 p5) scope ∧ (p3.endLine == p4.line) = true
  i1 : ∀ n, f = some n → ∃ (fI : Addr) (q1 q2 p1 p2 p3 p4 p5 p6 p7 p8 p9 p10 : Pos) (scope : Scope), PySem.FzX.ErrI prog K C fI (PySem.FzX.iA1 n q1 q2) (PySem.FzX.body1 n p1 p2 p3 p4 p5 p6 p7 p8 p9 p10) scope ∧ (p3.endLine == p4.line) = true ∧
    scope.names.lookup n = some .local ∧ n ≠ "self" ∧ (n == ("__debug__" : Str)) = false ∧ PySem.W.findIn K (.ref C) n = some none ∧
      ∀ (v : Value) (x : Addr) (nm qual : Str) (doc pm : Value) (an : Option Addr) (cdv ct : Value) (cl : List (Str × Addr)), bindArgs (PySem.W.fnX nm qual (PySem.FzX.iA1 n q1 q2) (PySem.FzX.body1 n p1 p2 p3 p4 p5 p6 p7 p8 p9 p10) scope cl .none .none doc pm an cdv ct) ⟨[.ref x, v], []⟩ = pure [(("self" : Str), .ref x), (n, v)]
  x : ExcC K C
  kb : PySem.W.kitOne K (.ref C) (.ref B) = some true
  mt : PySem.W.exmOne K (.ref C) (.ref C) = some true
/-- an error in the air: its class, its dict -/
def Exo (mg : Str → Option Value) (er : List (Str × Option Str)) (K : PySem.W.Frag) (H : Hp) (A : Ad) (c : Str) (es : List D) (cls : Value) (d : Option Addr) : Prop :=
  ∃ C f, mg c = some (.ref C) ∧ cls = .ref C ∧ (c, f) ∈ er ∧ ((f = none ∧ es = [] ∧ d = none) ∨ ∃ n x v dd, f = some n ∧ es = [x] ∧ d = some dd ∧ H dd = some (.xd [(n, v)]) ∧ RD K H A x v ∧ immD x = true)
/-- a def that raises, by what it is worth -/
def spX (mg : Str → Option Value) (er : List (Str × Option Str)) (K : PySem.W.Frag) (F : List D → List (List D) → R (D × List (List D))) (n : Nat) (vs : List V) (H : Hp) (E : XK) : Prop :=
  ∃ (A : Ad) (g : List (List D)) (ds : List D) (c : Str) (es : List D) (g' : List (List D)), A.mu = [] ∧ A.cn = [] ∧ Sim K H A ⟨[], [], g⟩ [] ∧ RDs K H A ds vs ∧ ds.length = n ∧ F ds g = .exc c es g' ∧
    ∀ A' H' cls d, Step A H A' H' → A'.mu = [] → Sim K H' A' ⟨[], [], g'⟩ [] → Exo mg er K H' A' c es cls d → E cls d H'
structure FnX (P : Program) (w : World) (K : PySem.W.Frag) (mg : Str → Option Value) (base : Heap) (k : Nat) (f : Addr) (fd : FuncData) (ps : List Str) (er : List (Str × Option Str)) (F : List D → List (List D) → R (D × List (List D))) : Prop where
  run : ∀ (A : Around) (outer : List Env) (s : Shared) (H : Hp) (args : Args) (us : List Value) (vs : List V) (E : XK), Room k A → A.guards = some [] → Env0 P w K mg base A outer s H → BindsTo s fd args (ps.zip us) → Vals vs us → spX mg er K F ps.length vs H E →
    codeAny (model P w) A (.call (.ref f) args) (fun r s' => match r with
      | .error e => L2.CX P w outer H s E e s'
      | .ok _ => False) s
theorem FnX.mono {P : Program} {w : World} {K : PySem.W.Frag} {mg : Str → Option Value} {base : Heap} {j k : Nat} {f : Addr} {fd : FuncData} {ps : List Str} {er : List (Str × Option Str)} {Fv : List D → List (List D) → R (D × List (List D))} (F : FnX P w K mg base j f fd ps er Fv) (h : j ≤ k) : FnX P w K mg base k f fd ps er Fv :=
  ⟨fun A outer s H args us vs E hr => F.run A outer s H args us vs E (hr.mono h)⟩
def BindOk (fd : FuncData) (ps : List Str) (n : Nat) (ks : List Str) (p : Option (List Nat)) : Prop :=
  ∀ (s : Shared) (us ws zs : List Value), us.length = n → ws.length = ks.length → arrD p (us ++ ws) = some zs → BindsTo s fd ⟨us, ks.zip ws⟩ (ps.zip zs)
/-- cells that may be stored -/
def wrT (top : Option Scope) (x : Str) : Bool := match top with
  | none => true
  | some scope => scope.names.lookup x == some .cell
structure GX (T : Tb) (P : Pg) (lv : Nat) (N : List Str) (sc : Scope) (top : Option Scope) (X : Cx) : Prop where
  hN : X.N = N
  nd : N.Nodup
  sco : X.env.scope = sc
  kind : sc.kind = .function
  calm : X.calm = true
  po : PassesOwn (model X.prog X.w) X.A X.env X.xe
  sf : top = none → X.stack = X.env :: X.outer ∧ X.env.frame = some X.env.locals
  er : ∀ c f, (c, f) ∈ T.errs → ∃ C B, X.mg c = some (.ref C) ∧ X.mg T.eb = some (.ref B) ∧ (c == ("__debug__" : Str)) = false ∧ ErrA X.prog X.K C B f
  room : Room lv X.A
  gd : X.A.guards = some []
  dig : X.base.NoDigits
  fn : ∀ x, wrT top x = true → X.fn x = true
  free : ∀ x ∈ T.free, X.mg x = none
  defs : ∀ (j : Nat) d, T.defs[j]? = some d → j < lv → ∃ f fd, X.mg d.1 = some (.ref f) ∧ PySem.W.keepIn X.K (.ref f) = true ∧ FnG X.prog X.w X.K X.mg X.base lv f fd d.2 (spD X.K (P.F j) d.2.length) ∧
    (∀ n ks p, (j, n, ks, p) ∈ T.binds → BindOk fd d.2 n ks p) ∧ (∀ ds g r g', P.F j ds g = .ok (r, g') → okRet r = true) ∧ FnX X.prog X.w X.K X.mg X.base lv f fd d.2 T.errs (P.F j)
  cons : ∀ (i : Nat) c, T.cons[i]? = some c → P.C[i]? = some c.2 ∧ ∃ u v, X.mg c.1 = some u ∧ RelV v u ∧ ∀ H A, RD X.K H A c.2 v
theorem blkScope {X : Cx} {scope : Scope} {cl : List (Str × Addr)} {C : Addr} {s : Shared} {H : Hp} {fp : List Addr} : (X.blk s H scope (compEnvC scope cl C X.env) fp).env.scope = relS scope X.env.scope := rfl
theorem GX.blk {T : Tb} {P : Pg} {lv : Nat} {N : List Str} {sc : Scope} {top : Option Scope} {X : Cx} (G : GX T P lv N sc top X) {scope : Scope} (hk : scope.kind = .function) (s : Shared) (H : Hp) (C : Addr) (cl : List (Str × Addr)) (fp : List Addr) :
    GX T P lv N (relS scope sc) (some scope) (X.blk s H scope (compEnvC scope cl C X.env) fp) where
  hN := G.hN
  nd := G.nd
  sco := by rw [blkScope, G.sco]
  kind := hk
  calm := G.calm
  po := PassesOwn.never
  sf := fun z => nomatch z
  er := G.er
  room := G.room
  gd := G.gd
  dig := G.dig
  fn := fun x h => h
  free := G.free
  defs := G.defs
  cons := G.cons
end Fz

/-! Q9: comprehensions: the list in the making; targets; what is walked. -/
namespace Fz
open PySem PySem.Spec PyProof.Rows L2
section
variable {K : PySem.W.Frag} {H H' : Hp} {A A' : Ad} {w : Wd} {σ : Sl}
/-- a list in the making -/
theorem Car.opens {p : Addr} (hp : H p = none) (o : HO) : Car A H { A with cn := p :: A.cn } (upd H p o) := by
  refine ⟨fun a u h x => ⟨upd_some hp h, x.1, x.2.1, fun z => ?_⟩, fun a vs h => upd_some hp h, fun a o u h => upd_some hp h, fun _ _ h => h, fun _ _ h => h, rfl⟩
  rcases List.mem_cons.mp z with rfl | z
  · rw [hp] at h
    cases h
  · exact x.2.2 z
theorem Sim.opens (S : Sim K H A w σ) {p : Addr} (hp : H p = none) (vs : List V) : Sim K (upd H p (.lst vs)) { A with cn := p :: A.cn } w σ := by
  have c : Car A H { A with cn := p :: A.cn } (upd H p (.lst vs)) := Car.opens hp _
  obtain ⟨⟨f1, f2, f4⟩, f3⟩ := S.fresh hp
  refine ⟨fun i d e => let ⟨v, e1, r⟩ := S.loc i d e; ⟨v, e1, r.step c d v⟩, S.len, RL.carry (fun xs vs h => h.step c) (fun a _ vs h => upd_some hp h) S.mu, RL.carry (fun xs vs h => h.step c) (fun a _ vs h => upd_some hp h) S.ga, S.nd, S.ndg, S.dj, S.djg, fun a h => ?_, fun a h => ?_, fun a h => ?_, S.gk⟩
  · obtain ⟨o, e⟩ := S.bt a h
    exact ⟨o, upd_some hp e⟩
  · rcases List.mem_cons.mp h with rfl | h
    · exact ⟨vs, upd_same⟩
    · obtain ⟨us, e⟩ := S.cnt a h
      exact ⟨us, upd_some hp e⟩
  · rcases List.mem_cons.mp h with rfl | h
    · exact ⟨f1, f2, f3⟩
    · exact S.cnd a h
theorem Sim.grow (S : Sim K H A w σ) {p : Addr} (hp : p ∈ A.cn) {us : List V} (e : H p = some (.lst us)) (vs : List V) : Sim K (upd H p (.lst vs)) A w σ := by
  have c : Car A H A (upd H p (.lst vs)) := Car.store (.inr (.inr hp)) e
  obtain ⟨c1, c2, c3⟩ := S.cnd p hp
  refine ⟨fun i d e => let ⟨v, e1, r⟩ := S.loc i d e; ⟨v, e1, r.step c d v⟩, S.len, RL.carry (fun xs vs h => h.step c) (fun a ha ws h => ?_) S.mu, RL.carry (fun xs vs h => h.step c) (fun a ha ws h => ?_) S.ga, S.nd, S.ndg, S.dj, S.djg, fun a h => ?_, fun a h => ?_, S.cnd, S.gk⟩
  · rw [upd_ne (show a ≠ p from fun z => c1 (z ▸ ha))]
    exact h
  · rw [upd_ne (show a ≠ p from fun z => c2 (z ▸ ha))]
    exact h
  · obtain ⟨o, q⟩ := S.bt a h
    exact ⟨o, by rw [upd_ne (show a ≠ p from fun z => c3 (z ▸ h))]; exact q⟩
  · by_cases z : a = p
    · subst z
      exact ⟨vs, upd_same⟩
    · obtain ⟨ws, q⟩ := S.cnt a h
      exact ⟨ws, by rw [upd_ne z]; exact q⟩
/-- the slots of an earlier state -/
theorem Sim.back {w0 : Wd} {H0 : Hp} {A0 : Ad} {σ0 : Sl} (S : Sim K H A w σ) (S0 : Sim K H0 A0 w0 σ0) (c : Car A0 H0 A H) : Sim K H A { w with σ := w0.σ } σ0 :=
  ⟨fun i d e => let ⟨v, e1, r⟩ := S0.loc i d e; ⟨v, e1, r.step c d v⟩, S0.len, S.mu, S.ga, S.nd, S.ndg, S.dj, S.djg, S.bt, S.cnt, S.cnd, S.gk⟩
/-- the list is made: it becomes a value -/
theorem Sim.closes {md : Nat} {xs : List D} {vs : List V} {d : D} {w' : Wd} {p : Addr} {cn : List Addr} (e : newL md xs w = .ok (d, w')) (S : Sim K H A w σ) (hc : A.cn = p :: cn) (hn : p ∉ cn) (hp : H p = some (.lst vs)) (r : RDs K H A xs vs) :
    ∃ A', Car A H A' H ∧ A'.cn = cn ∧ Sim K H A' w' σ ∧ RD K H A' d (.ref p) := by
  unfold newL at e
  by_cases hl : xs.length ≤ mxLen
  · rw [if_pos hl] at e
    have hpc : p ∈ A.cn := by rw [hc]; exact List.mem_cons_self
    have sub : ∀ {a}, a ∈ cn → a ∈ A.cn := fun h => by rw [hc]; exact List.mem_cons_of_mem _ h
    have out : ∀ {a}, A.out a → a ≠ p := fun h z => by subst z; exact h.2.2 hpc
    obtain ⟨c1, c2, c3⟩ := S.cnd p hpc
    match md, e with
    | 0, e =>
      cases e
      have c : Car A H { A with cn := cn } H := ⟨fun a u h x => ⟨h, x.1, x.2.1, fun z => x.2.2 (sub z)⟩, fun _ _ h => h, fun _ _ _ h => h, fun _ _ h => h, fun _ _ h => h, rfl⟩
      exact ⟨_, c, rfl, ⟨fun i d e => let ⟨v, e1, r⟩ := S.loc i d e; ⟨v, e1, r.step c d v⟩, S.len, RL.carry (fun xs vs h => h.step c) (fun a _ vs h => h) S.mu, RL.carry (fun xs vs h => h.step c) (fun a _ vs h => h) S.ga, S.nd, S.ndg, S.dj, S.djg, S.bt, fun a h => S.cnt a (sub h), fun a h => S.cnd a (sub h), S.gk⟩,
        p, vs, rfl, hp, ⟨c1, c2, hn⟩, c3, r.step c⟩
    | 1, e =>
      cases e
      have c : Car A H { A with mu := A.mu ++ [p], cn := cn } H := ⟨fun a u h x => ⟨h, not_snoc x.1 (out x), x.2.1, fun z => x.2.2 (sub z)⟩, fun _ _ h => h, fun _ _ _ h => h, fun k a h => get_snoc h, fun _ _ h => h, rfl⟩
      refine ⟨_, c, rfl, ⟨fun i d e => let ⟨v, e1, r⟩ := S.loc i d e; ⟨v, e1, r.step c d v⟩, S.len, ?_, RL.carry (fun xs vs h => h.step c) (fun a _ vs h => h) S.ga, nodup_snoc S.nd c1, S.ndg, fun a ha => ?_, S.djg, S.bt, fun a h => S.cnt a (sub h),
        fun a h => ⟨not_snoc (S.cnd a (sub h)).1 (fun z => hn (z ▸ h)), (S.cnd a (sub h)).2⟩, S.gk⟩, p, ?_, rfl⟩
      · exact RL.append (RL.carry (fun xs vs h => h.step c) (fun a _ vs h => h) S.mu) ⟨xs, [], rfl, Cell.mk hp (r.step c), rfl⟩
      · rcases List.mem_append.mp ha with z | z
        · exact S.dj a z
        · have e : a = p := by simpa using z
          subst e
          exact ⟨c2, c3⟩
      · show (A.mu ++ [p])[w.m.length]? = some p
        rw [S.mu.length]
        simp
    | n + 2, e =>
      have e : (if xs.all gOk then R.ok (D.g w.g.length, { w with g := w.g ++ [xs] }) else R.err) = .ok (d, w') := e
      split at e
      case isFalse => cases e
      rename_i hg
      cases e
      have c : Car A H { A with ga := A.ga ++ [p], cn := cn } H := ⟨fun a u h x => ⟨h, x.1, not_snoc x.2.1 (out x), fun z => x.2.2 (sub z)⟩, fun _ _ h => h, fun _ _ _ h => h, fun _ _ h => h, fun k a h => get_snoc h, rfl⟩
      refine ⟨_, c, rfl, ⟨fun i d e => let ⟨v, e1, r⟩ := S.loc i d e; ⟨v, e1, r.step c d v⟩, S.len, RL.carry (fun xs vs h => h.step c) (fun a _ vs h => h) S.mu, ?_, S.nd, nodup_snoc S.ndg c2, fun a ha => ⟨not_snoc (S.dj a ha).1 (fun z => c1 (z ▸ ha)), (S.dj a ha).2⟩, fun a ha => not_snoc (S.djg a ha) (fun z => c3 (z ▸ ha)), S.bt, fun a h => S.cnt a (sub h),
        fun a h => ⟨(S.cnd a (sub h)).1, not_snoc (S.cnd a (sub h)).2.1 (fun z => hn (z ▸ h)), (S.cnd a (sub h)).2.2⟩, fun ys hy => (List.mem_append.mp hy).elim (S.gk ys) fun z => (by simpa using z : ys = xs) ▸ hg⟩, p, ?_, rfl⟩
      · exact RL.append (RL.carry (fun xs vs h => h.step c) (fun a _ vs h => h) S.ga) ⟨xs, [], rfl, Cell.mk hp (r.step c), rfl⟩
      · show (A.ga ++ [p])[w.g.length]? = some p
        rw [S.ga.length]
        simp
  · rw [if_neg hl] at e
    cases e

/-! ### slots forgotten -/
theorem wipe_get (σ : Sl) : ∀ (vs : List Nat) (j : Nat), (wipe σ vs)[j]? = if j ∈ vs then (σ[j]?).map (fun _ => none) else σ[j]?
  | [], j => by simp [wipe]
  | v :: vs, j => by
    show ((wipe σ vs).set v none)[j]? = _
    rw [List.getElem?_set, wipe_get σ vs j, wipe_length]
    by_cases e : v = j
    · subst e
      simp only [if_true, List.mem_cons, true_or, if_true]
      by_cases h : v < σ.length
      · simp [h]
      · simp [h, List.getElem?_eq_none (Nat.le_of_not_lt h)]
    · rw [if_neg e]
      simp only [List.mem_cons, show ¬ j = v from fun z => e z.symm, false_or]
theorem wipeD_get (σ : List (Option D)) : ∀ (vs : List Nat) (j : Nat), (wipeD σ vs)[j]? = if j ∈ vs then (σ[j]?).map (fun _ => none) else σ[j]?
  | [], j => by simp [wipeD]
  | v :: vs, j => by
    have hl : ∀ vs : List Nat, (wipeD σ vs).length = σ.length := fun vs => by
      induction vs with
      | nil => rfl
      | cons v vs ih =>
        show ((wipeD σ vs).set v none).length = _
        rw [List.length_set, ih]
    show ((wipeD σ vs).set v none)[j]? = _
    rw [List.getElem?_set, wipeD_get σ vs j, hl]
    by_cases e : v = j
    · subst e
      simp only [if_true, List.mem_cons, true_or, if_true]
      by_cases h : v < σ.length
      · simp [h]
      · simp [h, List.getElem?_eq_none (Nat.le_of_not_lt h)]
    · rw [if_neg e]
      simp only [List.mem_cons, show ¬ j = v from fun z => e z.symm, false_or]
theorem wipeD_length (σ : List (Option D)) : ∀ vs : List Nat, (wipeD σ vs).length = σ.length
  | [] => rfl
  | v :: vs => by
    show ((wipeD σ vs).set v none).length = _
    rw [List.length_set, wipeD_length σ vs]
theorem wipe_set (σ : Sl) {vs : List Nat} {i : Nat} (h : i ∈ vs) (v : Option V) : wipe (σ.set i v) vs = wipe σ vs := by
  apply List.ext_getElem?
  intro j
  rw [wipe_get, wipe_get]
  by_cases e : j ∈ vs
  · rw [if_pos e, if_pos e, List.getElem?_set]
    by_cases z : i = j
    · subst z
      rw [if_pos rfl]
      by_cases q : i < σ.length
      · simp [q]
      · simp [q, List.getElem?_eq_none (Nat.le_of_not_lt q)]
    · rw [if_neg z]
  · rw [if_neg e, if_neg e, List.getElem?_set_ne (show i ≠ j from fun z => e (z ▸ h))]
theorem Sim.wiped (S : Sim K H A w σ) (vs : List Nat) : Sim K H A { w with σ := wipeD w.σ vs } (wipe σ vs) := by
  refine ⟨fun i d e => ?_, by rw [wipe_length]; exact (wipeD_length _ _).trans S.len, S.mu, S.ga, S.nd, S.ndg, S.dj, S.djg, S.bt, S.cnt, S.cnd, S.gk⟩
  have e : (wipeD w.σ vs)[i]? = some (some d) := e
  rw [wipeD_get] at e
  rw [wipe_get]
  by_cases h : i ∈ vs
  · rw [if_pos h] at e
    cases q : w.σ[i]? <;> rw [q] at e <;> cases e
  · rw [if_neg h] at e ⊢
    exact S.loc i d e
end

/-! ### targets -/
mutual
def slotsT : Tg → List Nat
  | .nm i => [i]
  | .tu ts => slotsTs ts
def slotsTs : List Tg → List Nat
  | [] => []
  | t :: ts => slotsT t ++ slotsTs ts
end
def gD (K : PySem.W.Frag) (t : Tg) : TG := fun v σ H Q => ∃ A w d w', Sim K H A w σ ∧ RD K H A d v ∧ asg t d w = some w' ∧
  ∀ σ', Sim K H A w' σ' → w'.m = w.m → w'.g = w.g → (∀ own : List Nat, (∀ i ∈ slotsT t, i ∈ own) → wipe σ' own = wipe σ own) → Q σ' H
def gDs (K : PySem.W.Frag) (ts : List Tg) : TGs := fun vs σ H Q => ∃ A w ds w', Sim K H A w σ ∧ RDs K H A ds vs ∧ asgL ts ds w = some w' ∧
  ∀ σ', Sim K H A w' σ' → w'.m = w.m → w'.g = w.g → (∀ own : List Nat, (∀ i ∈ slotsTs ts, i ∈ own) → wipe σ' own = wipe σ own) → Q σ' H
/-- (a, b, ..) = a tuple or a list of that length -/
def gTup2 (K : PySem.W.Frag) (n : Nat) (t : TGs) : TG := fun v σ H Q => ∃ a xs, v = .ref a ∧ (SqT K H a xs ∨ SqL K H a xs) ∧ xs.length = n ∧ t xs σ H Q
theorem pg_tup2 {X : Cx} {pos : Pos} {es : List Expr} {k : Nat} {t : TGs} {n : Nat} (hc : X.calm = true) (h : PGs X es t)
    (hn : (assignEach es X.env).length = n) (hst : (assignEach es X.env).findIdx? (·.1) = none) : PG X (.Tuple es k pos) (gTup2 X.K n t) := by
  refine ⟨fun pins s σ H v u Q I r hw => ?_⟩
  obtain ⟨a, xs, e1, hq, hl, hw⟩ := hw
  subst e1
  cases r
  rcases hq with hq | hq
  · obtain ⟨its, rv, ht, hz⟩ := I.tuple hq
    refine assign_Tuple_tuple (I.ok.hd hc) ht (by simp [hn, ← hl, rv.length]) hst fun h' hx => ?_
    have I1 : Inv X pins σ H { s with heap := h' } := I.kept (t' := s.toks) fun b o e => hx b o (Nat.ne_of_lt (Heap.lt_size e)) e
    exact h.run pins _ σ H xs _ Q I1 (by simpa using rv) hw
  · obtain ⟨its, rv, ht, hz⟩ := I.list hq
    have en : (assignEach es X.env).length = its.toArray.size := by simp [hn, ← hl, rv.length]
    rw [assign_Tuple]
    refine wpAny_bind (wpAny_standAt ?_)
    unfold unpack
    rw [en, hst]
    refine wpAny_bind (wpAny_holding (PySem.W.kun_itemsOf (I.ok.hd hc) ht.isList fun h' hx => ?_))
    have I1 : Inv X pins σ H { s with heap := h' } := I.kept (t' := s.toks) fun b o e => hx b o (Nat.ne_of_lt (Heap.lt_size e)) e
    exact h.run pins _ σ H xs _ Q I1 (by simpa using rv) hw
theorem PGimp {X : Cx} {e : Expr} {t t' : TG} (h : PG X e t) (i : ∀ v σ H Q, t' v σ H Q → t v σ H Q) : PG X e t' := ⟨fun pins s σ H v u Q I r q => h.run pins s σ H v u Q I r (i v σ H Q q)⟩
theorem PGsimp {X : Cx} {e : List Expr} {t t' : TGs} (h : PGs X e t) (i : ∀ v σ H Q, t' v σ H Q → t v σ H Q) : PGs X e t' := ⟨fun pins s σ H v u Q I r q => h.run pins s σ H v u Q I r (i v σ H Q q)⟩
theorem Sim.set {K : PySem.W.Frag} {H : Hp} {A : Ad} {w : Wd} {σ : Sl} (S : Sim K H A w σ) (i : Nat) {d : D} {v : V} (r : RD K H A d v) : Sim K H A { w with σ := w.σ.set i (some d) } (σ.set i (some v)) := by
  refine ⟨fun j e q => ?_, by
    show (w.σ.set i (some d)).length = (σ.set i (some v)).length
    rw [List.length_set, List.length_set]
    exact S.len, S.mu, S.ga, S.nd, S.ndg, S.dj, S.djg, S.bt, S.cnt, S.cnd, S.gk⟩
  have q : (w.σ.set i (some d))[j]? = some (some e) := q
  rw [List.getElem?_set] at q ⊢
  by_cases z : i = j
  · subst z
    rw [if_pos rfl] at q ⊢
    rw [← S.len]
    by_cases l : i < w.σ.length
    · rw [if_pos l] at q ⊢
      cases q
      exact ⟨v, rfl, r⟩
    · rw [if_neg l] at q
      cases q
  · rw [if_neg z] at q ⊢
    exact S.loc j e q
def noStar : Expr → Bool
  | .Starred _ _ => false
  | _ => true
theorem assignEach_cons {e : Expr} {es : List Expr} {env : Env} (h : noStar e = true) : assignEach (e :: es) env = (false, assign e env) :: assignEach es env := by
  cases e <;> first | rfl | cases h
/-- a name that may be stored -/
def wrB (sc : Scope) (top : Option Scope) (x : Str) : Bool := match sc.names.lookup x with
  | some .local => true
  | some .cell => wrT top x
  | _ => false
mutual
def ckT (N : List Str) (sc : Scope) (top : Option Scope) : Tg → Expr → Bool
  | .nm i, .Name x _ => decide (N[i]? = some x) && wrB sc top x
  | .tu ts, .Tuple es _ _ => ckTs N sc top ts es
  | _, _ => false
def ckTs (N : List Str) (sc : Scope) (top : Option Scope) : List Tg → List Expr → Bool
  | [], [] => true
  | t :: ts, e :: es => noStar e && ckT N sc top t e && ckTs N sc top ts es
  | _, _ => false
end
section
variable {T : Tb} {P : Pg} {lv : Nat} {N : List Str} {sc : Scope} {top : Option Scope} {X : Cx}
theorem assignEach_plain : ∀ {ts : List Tg} {es : List Expr} {env : Env}, ckTs N sc top ts es = true → (assignEach es env).length = ts.length ∧ (assignEach es env).findIdx? (·.1) = none
  | [], [], _, _ => ⟨rfl, rfl⟩
  | [], _ :: _, _, h => nomatch h
  | _ :: _, [], _, h => nomatch h
  | t :: ts, e :: es, env, h => by
    simp only [ckTs, Bool.and_eq_true] at h
    obtain ⟨h1, h2⟩ := assignEach_plain (env := env) h.2
    rw [assignEach_cons h.1.1]
    refine ⟨by simp [h1], ?_⟩
    simp [List.findIdx?_cons, h2]
mutual
theorem sndT (G : GX T P lv N sc top X) : ∀ (t : Tg) (e : Expr), ckT N sc top t e = true → PG X e (gD X.K t)
  | .nm i, e, h => by
    cases e with
    | Name x pos =>
      simp only [ckT, Bool.and_eq_true, decide_eq_true_eq] at h
      obtain ⟨h1, h2⟩ := h
      have hx : Loc X.env.scope x ∧ (X.fn x = true ∨ X.env.scope.names.lookup x = some .local) := by
        unfold wrB at h2
        rw [G.sco]
        cases q : sc.names.lookup x with
        | none => rw [q] at h2; cases h2
        | some k =>
          rw [q] at h2
          cases k with
          | «local» => exact ⟨.inl q, .inr rfl⟩
          | cell => exact ⟨.inr q, .inl (G.fn x h2)⟩
          | _ => cases h2
      refine PGimp (pg_name (i := i) (by rw [G.hN]; exact G.nd) (by rw [G.hN]; exact h1) hx.1 hx.2) fun v σ H Q q => ?_
      obtain ⟨A, w, d, w', S, r, ha, q⟩ := q
      cases ha
      refine q _ (S.set i r) rfl rfl fun own ho => ?_
      exact wipe_set σ (ho i (by simp [slotsT])) _
    | _ => cases h
  | .tu ts, e, h => by
    cases e with
    | Tuple es k pos =>
      simp only [ckT] at h
      obtain ⟨h1, h2⟩ := assignEach_plain (env := X.env) h
      have hl : ∀ {ts : List Tg} {ds : List D} {w w' : Wd}, asgL ts ds w = some w' → ds.length = ts.length := fun {ts} => by
        induction ts with
        | nil =>
          intro ds w w' e
          cases ds with
          | nil => rfl
          | cons _ _ => cases e
        | cons t ts ih =>
          intro ds w w' e
          cases ds with
          | nil => cases e
          | cons d ds =>
            obtain ⟨w1, _, e2⟩ := Option.bind_eq_some_iff.mp (show (asg t d w).bind (fun w' => asgL ts ds w') = some w' from e)
            rw [List.length_cons, List.length_cons, ih e2]
      refine PGimp (pg_tup2 (n := ts.length) G.calm (sndTs G ts es h) h1 h2) fun v σ H Q q => ?_
      obtain ⟨A, w, d, w', S, r, ha, q⟩ := q
      cases d with
      | tup ds =>
        obtain ⟨a, vs, rfl, ht, rs⟩ := r
        have ha : asgL ts ds w = some w' := ha
        refine ⟨a, vs, rfl, .inl ht, by rw [rs.length]; exact hl ha, A, w, ds, w', S, rs, ha, fun σ' S' m g ho => q σ' S' m g fun own h => ho own h⟩
      | lst ds =>
        obtain ⟨a, vs, rfl, ht, _, _, rs⟩ := r
        have ha : asgL ts ds w = some w' := ha
        refine ⟨a, vs, rfl, .inr (.inl (.inl ht)), by rw [rs.length]; exact hl ha, A, w, ds, w', S, rs, ha, fun σ' S' m g ho => q σ' S' m g fun own h => ho own h⟩
      | _ => cases ha
    | _ => cases h
theorem sndTs (G : GX T P lv N sc top X) : ∀ (ts : List Tg) (es : List Expr), ckTs N sc top ts es = true → PGs X es (gDs X.K ts)
  | [], es, h => by
    cases es with
    | nil =>
      refine PGsimp pgs_nil fun vs σ H Q q => ?_
      obtain ⟨A, w, ds, w', S, rs, ha, q⟩ := q
      cases ds with
      | nil =>
        cases ha
        exact ⟨rs, q σ S rfl rfl fun _ _ => rfl⟩
      | cons _ _ => cases ha
    | cons _ _ => cases h
  | t :: ts, es, h => by
    cases es with
    | nil => cases h
    | cons e es =>
      simp only [ckTs, Bool.and_eq_true] at h
      refine PGsimp (pgs_cons (sndT G t e h.1.2) (sndTs G ts es h.2) (by rw [assignEach_cons h.1.1]; rfl)) fun vs σ H Q q => ?_
      obtain ⟨A, w, ds, w', S, rs, ha, q⟩ := q
      cases ds with
      | nil => cases ha
      | cons d ds =>
        obtain ⟨v, r, rfl, r1, r2⟩ := rs
        obtain ⟨w1, e1, e2⟩ := Option.bind_eq_some_iff.mp (show (asg t d w).bind (fun w' => asgL ts ds w') = some w' from ha)
        refine ⟨v, r, rfl, A, w, d, w1, S, r1, e1, fun σ1 S1 m1 g1 o1 => ?_⟩
        refine ⟨A, w1, ds, w', S1, r2, e2, fun σ2 S2 m2 g2 o2 => q σ2 S2 (m2.trans m1) (g2.trans g1) fun own ho => ?_⟩
        have ho' : ∀ i, i ∈ slotsT t ++ slotsTs ts → i ∈ own := fun i hi => ho i (by simpa [slotsTs] using hi)
        exact (o2 own fun i hi => ho' i (List.mem_append_right _ hi)).trans (o1 own fun i hi => ho' i (List.mem_append_left _ hi))
end
end

/-! ### what is walked -/
structure WalkD (K : PySem.W.Frag) (J : L2.It) (it : Itd) (A0 : Ad) (H0 : Hp) : Prop where
  go : ∀ A H w σ i, Car A0 H0 A H → Sim K H A w σ → it.ok w = true → i < it.xs.length → J.go i H ∧ ∀ v H', J.yld i H v H' → Step A H A H' ∧ Sim K H' A w σ ∧ ∀ d, it.xs[i]? = some d → RD K H' A d v
  stop : ∀ A H w σ, Car A0 H0 A H → Sim K H A w σ → it.ok w = true → J.stop it.xs.length H
def rdI (K : PySem.W.Frag) (f : Wd → R (Itd × Wd)) : TI := fun σ H Rr => ∃ A w, Sim K H A w σ ∧ ∃ it w', f w = .ok (it, w') ∧ ∀ A' H' J, Step A H A' H' → Sim K H' A' w' σ → it.ok w' = true → WalkD K J it A' H' → Rr J H'
theorem PIimp {X : Cx} {tg e : Expr} {t t' : TI} (h : PI X tg e t) (i : ∀ σ H Q, t' σ H Q → t σ H Q) : PI X tg e t' := ⟨fun pins s σ H Q I q => h.run pins s σ H Q I (i σ H Q q)⟩
/-- a list or a tuple, whichever comes -/
def iSeq (K : PySem.W.Frag) (tl : TE) : TI := fun σ H Rr => tl σ H fun x H1 => ∃ a, x = .ref a ∧ ((∃ xs, SqL K H1 a xs ∧ Rr (Itl K a) H1) ∨ ∃ xs, SqT K H1 a xs ∧ Rr (Itt K a) H1)
theorem pi_seq {X : Cx} {tg l : Expr} {tl : TE} (hl : PE X l tl) : PI X tg l (iSeq X.K tl) := by
  refine ⟨fun pins s σ H Rr I h => ?_⟩
  refine thn (hl.run pins s σ H _ I h) fun v s1 ⟨x, H1, I1, r1, a, e, q⟩ => ?_
  subst e
  cases r1
  have fp : ∀ b ∈ [s1.heap.objs.size], FpOk X pins H1 b := fun b hb => by
    obtain rfl : b = s1.heap.objs.size := by simpa using hb
    exact I1.fpOk (Nat.le_refl _) (I1.hok.fresh (Nat.le_refl _))
  rcases q with ⟨xs, hq, q⟩ | ⟨xs, hq, q⟩
  · obtain ⟨its, rv, p, hz⟩ := I1.list hq
    refine wpAny_pyIter_list p.isList ⟨_, [s1.heap.objs.size], _, _, H1, rfl, ?_, turn_list a _, ⟨_, Heap.get?_push_size _ rfl, rfl, rfl⟩, fp, q⟩
    exact I1.kept (t' := s1.toks) fun b o e => Heap.get?_push_of_some _ e
  · obtain ⟨its, rv, p, hz⟩ := I1.tuple hq
    refine wpAny_pyIter_tuple (show s1.heap.IsTuple a its.toArray from p) ⟨_, [s1.heap.objs.size], _, _, H1, rfl, ?_, turn_tuple a _, ⟨_, Heap.get?_push_size _ rfl, rfl, rfl⟩, fp, q⟩
    exact I1.kept (t' := s1.toks) fun b o e => Heap.get?_push_of_some _ e
theorem src_seq {w : Wd} {d : D} {xs : List D} {w0 : Wd} (e : w0.seq d = some xs) (h : (srcOf d).ok xs w = true) : w.seq d = some xs := by
  cases d with
  | ref k =>
    have h : (w.m[k]?).any (fun ys => deqL ys xs) = true := h
    obtain ⟨_, n⟩ := seq_ref_some e
    show (w.m[k]?).bind lsq = some xs
    cases q : w.m[k]? with
    | none => rw [q] at h; cases h
    | some ys =>
      rw [q] at h
      rw [deqL_eq ys xs h]
      show lsq xs = some xs
      unfold lsq
      rw [n]
      rfl
  | g k =>
    have h : (w.g[k]?).any (fun ys => deqL ys xs) = true := h
    show w.g[k]? = some xs
    cases q : w.g[k]? with
    | none => rw [q] at h; cases h
    | some ys => rw [q] at h; rw [deqL_eq ys xs h]
  | _ => exact e
theorem src_ok {w : Wd} {d : D} {xs : List D} (e : w.seq d = some xs) : (srcOf d).ok xs w = true := by
  cases d with
  | ref k =>
    have e : w.m[k]? = some xs := (seq_ref_some e).1
    show (w.m[k]?).any (fun ys => deqL ys xs) = true
    rw [e]
    exact deqL_refl xs
  | g k =>
    have e : w.g[k]? = some xs := e
    show (w.g[k]?).any (fun ys => deqL ys xs) = true
    rw [e]
    exact deqL_refl xs
  | _ => rfl
theorem walk_l {K : PySem.W.Frag} {A0 : Ad} {H0 : Hp} {w0 : Wd} {d : D} {a : Addr} {xs : List D} (e : w0.seq d = some xs) (r : RD K H0 A0 d (.ref a)) (t : isT d = false) : WalkD K (Itl K a) ⟨xs, (srcOf d).ok xs⟩ A0 H0 := by
  have get : ∀ {A H w σ}, Car A0 H0 A H → Sim K H A w σ → (srcOf d).ok xs w = true → ∃ vs, SqL K H a vs ∧ RDs K H A xs vs := fun {A H w σ} c S ok => by
    obtain ⟨b, vs, eb, rs, h⟩ := S.seq (r.step c d _) (src_seq e ok)
    cases eb
    rcases h with ⟨h, _⟩ | ⟨_, h⟩
    · rw [t] at h; cases h
    · exact ⟨vs, h, rs⟩
  refine ⟨fun A H w σ i c S ok hi => ?_, fun A H w σ c S ok => ?_⟩
  · obtain ⟨vs, h, rs⟩ := get c S ok
    obtain ⟨v, hv, rv⟩ := rs.get (List.getElem?_eq_getElem hi)
    refine ⟨⟨vs, v, h, hv⟩, fun x H' y => ?_⟩
    obtain ⟨rfl, y⟩ := y
    have ev := (y vs h).symm.trans hv
    cases ev
    exact ⟨Step.refl A _, S, fun d' e' => by rw [List.getElem?_eq_getElem hi] at e'; cases e'; exact rv⟩
  · obtain ⟨vs, h, rs⟩ := get c S ok
    exact ⟨vs, h, Nat.le_of_eq rs.length⟩
theorem walk_t {K : PySem.W.Frag} {A0 : Ad} {H0 : Hp} {w0 : Wd} {d : D} {a : Addr} {xs : List D} (e : w0.seq d = some xs) (r : RD K H0 A0 d (.ref a)) (t : isT d = true) : WalkD K (Itt K a) ⟨xs, (srcOf d).ok xs⟩ A0 H0 := by
  have get : ∀ {A H w σ}, Car A0 H0 A H → Sim K H A w σ → (srcOf d).ok xs w = true → ∃ vs, SqT K H a vs ∧ RDs K H A xs vs := fun {A H w σ} c S ok => by
    obtain ⟨b, vs, eb, rs, h⟩ := S.seq (r.step c d _) (src_seq e ok)
    cases eb
    rcases h with ⟨_, h⟩ | ⟨h, _⟩
    · exact ⟨vs, h, rs⟩
    · rw [t] at h; cases h
  refine ⟨fun A H w σ i c S ok hi => ?_, fun A H w σ c S ok => ?_⟩
  · obtain ⟨vs, h, rs⟩ := get c S ok
    obtain ⟨v, hv, rv⟩ := rs.get (List.getElem?_eq_getElem hi)
    refine ⟨⟨vs, v, h, hv⟩, fun x H' y => ?_⟩
    obtain ⟨rfl, y⟩ := y
    have ev := (y vs h).symm.trans hv
    cases ev
    exact ⟨Step.refl A _, S, fun d' e' => by rw [List.getElem?_eq_getElem hi] at e'; cases e'; exact rv⟩
  · obtain ⟨vs, h, rs⟩ := get c S ok
    exact ⟨vs, h, Nat.le_of_eq rs.length⟩
theorem rngL_get : ∀ (n : Nat) (lo : Int) (i : Nat), i < n → (rngL lo n)[i]? = some (.int (lo + i))
  | 0, _, _, h => absurd h (Nat.not_lt_zero _)
  | n + 1, lo, 0, _ => by simp [rngL]
  | n + 1, lo, i + 1, h => by
    show (rngL (lo + 1) n)[i]? = _
    rw [rngL_get n (lo + 1) i (by omega)]
    congr 2
    omega
theorem rngL_length : ∀ (n : Nat) (lo : Int), (rngL lo n).length = n
  | 0, _ => rfl
  | n + 1, lo => by
    show (rngL (lo + 1) n).length + 1 = _
    rw [rngL_length n]
theorem stepL_get : ∀ (n : Nat) (lo c : Int) (i : Nat), i < n → (stepL lo c n)[i]? = some (.int (lo + (i : Nat) * c))
  | 0, _, _, _, h => absurd h (Nat.not_lt_zero _)
  | n + 1, lo, c, 0, _ => by simp [stepL]
  | n + 1, lo, c, i + 1, h => by
    show (stepL (lo + c) c n)[i]? = _
    rw [stepL_get n (lo + c) c i (by omega)]
    congr 2
    rw [Int.natCast_succ, Int.add_mul, Int.one_mul]
    omega
theorem stepL_length : ∀ (n : Nat) (lo c : Int), (stepL lo c n).length = n
  | 0, _, _ => rfl
  | n + 1, lo, c => by
    show (stepL (lo + c) c n).length + 1 = _
    rw [stepL_length n]
theorem walk_c {K : PySem.W.Frag} {A0 : Ad} {H0 : Hp} {lo c : Int} {n : Nat} : WalkD K (Itc lo c n) ⟨stepL lo c n, fun _ => true⟩ A0 H0 := by
  refine ⟨fun A H w σ i _ S ok hi => ?_, fun A H w σ _ S ok => Nat.le_of_eq (stepL_length n lo c).symm⟩
  have hi : i < n := by rw [← stepL_length n lo c]; exact hi
  refine ⟨hi, fun x H' y => ?_⟩
  obtain ⟨rfl, rfl⟩ := y
  refine ⟨Step.refl A _, S, fun d' e' => ?_⟩
  rw [show (⟨stepL lo c n, fun _ => true⟩ : Itd).xs = stepL lo c n from rfl, stepL_get n lo c i hi] at e'
  cases e'
  exact rfl
theorem walk_r {K : PySem.W.Frag} {A0 : Ad} {H0 : Hp} {lo : Int} {n : Nat} : WalkD K (Itr lo n) ⟨rngL lo n, fun _ => true⟩ A0 H0 := by
  refine ⟨fun A H w σ i c S ok hi => ?_, fun A H w σ c S ok => Nat.le_of_eq (rngL_length n lo).symm⟩
  have hi : i < n := by rw [← rngL_length n lo]; exact hi
  refine ⟨hi, fun x H' y => ?_⟩
  obtain ⟨rfl, rfl⟩ := y
  refine ⟨Step.refl A _, S, fun d' e' => ?_⟩
  rw [show (⟨rngL lo n, fun _ => true⟩ : Itd).xs = rngL lo n from rfl, rngL_get n lo i hi] at e'
  cases e'
  exact rfl
end Fz

/-! Q9e: enumerate of lists and tuples, zip of two lists, of two tuples. -/
namespace Fz
open PySem PySem.Spec PyProof.Rows L2

theorem meets_enum1 {v : Value} {o : Obj} {H : Heap → Prop} (B : Begins v o H) :
    Meets (Builtin.«enumerate.__new__» ⟨[.type "enumerate", v], []⟩) (fun _ R s => H s.heap ∧
      R (.ok (.ret (.ref (s.heap.push o).objs.size))) { s with heap := (s.heap.push o).push { cls := .type "enumerate", data := .fields #[.none, .bool false, .ref s.heap.objs.size, rawInt 0, .none, .none] } }) :=
  .of_wp fun prog w A R s h => by
    obtain ⟨hp, g, d, tk, os⟩ := s
    obtain ⟨h1, h⟩ := h
    have hsub := sub_enumerate
    have q1 : ∀ {A' : Around} {E : Value → Shared → Prop} {Q : Value → Shared → Prop}, Q (.ref hp.objs.size) ⟨hp.push o, g, d, tk, os⟩ → wpAny (model prog w) A' (pyIter v) Q E ⟨hp, g, d, tk, os⟩ := fun q => B.iter prog w _ _ ⟨hp, g, d, tk, os⟩ _ h1 q
    wp_walk using q1
    refine wpAny_stack_any fun st => wpAny_pure ?_
    split
    · rename_i c _ _ _ _ _
      cases (c == Value.type "enumerate")
      · wp_walk using q1
        exact ⟨_, rfl, h⟩
      · wp_walk using q1
        exact ⟨_, rfl, h⟩
    · wp_walk using q1
      exact ⟨_, rfl, h⟩
theorem call_enum1 {prog : Program} {w : World} {A : Around} {E : Value → Shared → Prop} {s : Shared} {v : Value} {o : Obj} {H : Heap → Prop} {Q : Value → Shared → Prop} (B : Begins v o H) (h1 : H s.heap)
    (h : ∀ h', IsEnum h' (s.heap.objs.size + 1) s.heap.objs.size 0 .none → h'.get? s.heap.objs.size = some o → h'.objs.size = s.heap.objs.size + 2 → (∀ b o, s.heap.get? b = some o → h'.get? b = some o) → Q (.ref (s.heap.objs.size + 1)) { s with heap := h' }) :
    wpAny (model prog w) A (call (.type "enumerate") [v]) Q E s := by
  refine callType_new F.called_enumerate (by decide) (F.typeCall_enumerate_1 _) (F.newCall_enumerate_1 _) (fun obj => F.args_object_init_2 obj _) F.entry_enumerate_new (meets_enum1 B) ⟨h1, ?_⟩
  have hz : (s.heap.push o).objs.size = s.heap.objs.size + 1 := Heap.size_push ..
  show _ ∧ _
  rw [hz]
  have he : IsEnum ((s.heap.push o).push { cls := .type "enumerate", data := .fields #[.none, .bool false, .ref s.heap.objs.size, rawInt 0, .none, .none] }) (s.heap.objs.size + 1) s.heap.objs.size 0 .none := by
    have := Heap.get?_push_size (s.heap.push o) (o := { cls := .type "enumerate", data := .fields #[.none, .bool false, .ref s.heap.objs.size, rawInt 0, .none, .none] }) rfl
    rw [hz] at this
    exact this
  exact ⟨⟨_, he, rfl⟩, h _ he (Heap.get?_push_of_some _ (Heap.get?_push_size _ B.free)) (by rw [Heap.size_push, hz]) fun b o x => Heap.get?_push_of_some _ (Heap.get?_push_of_some _ x)⟩
theorem enumT_end {prog : Program} {w : World} {A : Around} {E : Value → Shared → Prop} {s : Shared} {e it l : Addr} {i : Nat} {items : Array Value} {old : Value} {Q : Option Value → Shared → Prop} (hh : A.handled = none)
    (he : IsEnum s.heap e it i old) (hit : s.heap.IsTupleIter it l i) (hl : s.heap.IsTuple l items) (hx : items[i]? = none)
    (hQ : ∀ h', Heap.ExtBut it s.heap h' → Q none { s with heap := h' }) : wpAny (model prog w) A (pyNext (.ref e)) Q E s := by
  have hT : s.TypeIs (.ref e) "enumerate" := ⟨_, he, rfl⟩
  unfold pyNext
  refine wpAny_bind (wpAny_attempt (wpAny_callSpecial?_slot (name := Str.ofString "__next__") hT F.slot_enumerate_next (wpAny_call_entry F.slot_enumerate_next hT F.entry_enumerate_next ?_ (F.args_enumerate_next_1 _))))
  show wpAny _ _ (field (.ref e) 2 >>= _) _ _ _
  refine wpAny_bind (wpAny_field he rfl (x := .ref it) rfl ?_)
  refine wpAny_bind (wpAny_nextOf_tuple_end hh hit hl hx fun h' x he' hx' => ?_)
  obtain ⟨o, ho, hc⟩ := hx'
  refine wpAny_bind (wpAny_isInstance (T := "StopIteration") (b := true) ⟨o, ho, hc⟩ isSubtype_stop ?_)
  exact wpAny_pure (hQ _ he')
/-- the tuple at a, each item in a new pair -/
def IteT (K : PySem.W.Frag) (a : Addr) : L2.It :=
  ⟨fun i H => ∃ (xs : List V) (x : V), SqT K H a xs ∧ xs[i]? = some x, fun i H v H' => ∃ T x, v = .ref T ∧ H T = none ∧ H' = upd H T (.tup [.int (i : Nat), x]) ∧ ∀ xs, SqT K H a xs → xs[i]? = some x, fun i H => ∃ xs : List V, SqT K H a xs ∧ xs.length ≤ i⟩
theorem turn_enumT {P : Program} {w : World} {K : PySem.W.Frag} {elts : List Expr} {kk : Nat} {tpos : Pos} (a e it : Addr) :
    Turn P w K (.Tuple elts kk tpos) (IteT K a) [e, it] e (fun i h => (∃ old, IsEnum h e it ((i : Nat) : Int) old) ∧ h.IsTupleIter it a i ∧ e ≠ it) where
  mem := by simp
  obj := fun i h st b hb => by
    obtain ⟨⟨old, he⟩, ⟨o, ho, hc, hd⟩, _⟩ := st
    have e' : b = e ∨ b = it := by simpa using hb
    rcases e' with z | z
    · rw [z]; exact ⟨_, he, fun v q => nomatch q⟩
    · rw [z]; exact ⟨o, ho, fun v q => by rw [hd] at q; cases q⟩
  keep := fun i h h' st k => let ⟨⟨old, he⟩, hi, hne⟩ := st; ⟨⟨old, k e (by simp) _ he⟩, hi.at fun o q => k it (by simp) o q, hne⟩
  item := by
    intro X hP hw hK hc i pins s σ H E I hf st hg
    subst hP hw hK
    obtain ⟨⟨old, he⟩, hit, hne⟩ := st
    obtain ⟨xs, x, hq, hx⟩ := hg
    obtain ⟨its, rv, p, hz⟩ := I.tuple hq
    have p : s.heap.IsTuple a its.toArray := p
    obtain ⟨u, hu, ru⟩ := rv.get hx
    have hel : e < s.heap.objs.size := Heap.lt_size he
    have hil : it < s.heap.objs.size := by obtain ⟨_, q, _⟩ := hit; exact Heap.lt_size q
    have hai : a ≠ it := by
      rintro rfl
      obtain ⟨o1, e1, c1, _⟩ := p
      obtain ⟨o2, e2, c2, _⟩ := hit
      rw [e1] at e2; cases e2
      rw [c1] at c2; exact absurd c2 (by decide)
    have hea : e ≠ a := by
      rintro rfl
      obtain ⟨o1, e1, c1, _⟩ := p
      have he2 : s.heap.get? e = some _ := he
      rw [he2] at e1; cases e1
      exact absurd (show Value.type "enumerate" = Value.type "tuple" from c1) (by decide)
    have hlt : i < its.length := by
      have l := rv.length
      have := (List.getElem?_eq_some_iff.mp hx).1
      omega
    refine wpAny_pyNext_enum_itemC (Draws.tuple (A := X.A.in1) (prog := X.prog) (w := X.w) (I.ok.hd hc) it a hai its.toArray) he ⟨hit, p⟩ (by simpa using hlt) hne (by simp [hne, hea]) fun x' h' tk hx' ho hst' hT hsz hk => ?_
    have hx' : its.toArray[i]? = some x' := hx'
    have ex : x' = u := by
      have : its[i]? = some x' := by simpa using hx'
      rw [hu] at this
      cases this
      rfl
    subst ex
    refine ⟨_, rfl, wpAny_letOwnedTupleGo_enum (s := { s with heap := h', toks := tk + 1 }) ho fun h'' he' sb => ?_⟩
    have hT2 : h''.get? s.heap.objs.size = some { cls := .type "tuple", data := .seq #[.int i tk, x'] } := (sb.2 _ (Nat.ne_of_gt hel)).trans hT
    have new : ObjOk X.prog X.w (upd H s.heap.objs.size (.tup [.int (i : Nat), x])) h'' s.heap.objs.size (.tup [.int (i : Nat), x]) :=
      ⟨by show 2 ≤ sizeLine; decide, [.int i tk, x'], .cons ⟨_, rfl⟩ (.cons ru .nil), ⟨_, hT2, rfl, _, rfl⟩⟩
    have I1 : Inv X pins σ (upd H s.heap.objs.size (.tup [.int (i : Nat), x])) { s with heap := h'', toks := tk + 1 } :=
      I.turnedNew (ch := [e, it]) (fun b ob hb q => (sb.2 b (fun z => hb (by simp [z]))).trans (hk b ob (fun z => hb (by simp [z])) (fun z => hb (by simp [z])) q)) hf (Nat.le_refl _) new
    refine ⟨.ref s.heap.objs.size, _, I1, rfl, ⟨_, x, rfl, I.hok.fresh (Nat.le_refl _), rfl, fun ys hy => by rw [I.tuple_inj hy hq]; exact hx⟩, ⟨⟨x', ?_⟩, hst'.1.at fun o q => (sb.2 it (Ne.symm hne)).trans q, hne⟩, fun b hb => ?_⟩
    · have e1 : ((i + 1 : Nat) : Int) = (i : Int) + 1 := by omega
      rw [e1]
      exact he'
    · have hb' : b < s.heap.objs.size := by
        have e' : b = e ∨ b = it := by simpa using hb
        rcases e' with z | z
        · rw [z]; exact hel
        · rw [z]; exact hil
      rw [upd_ne (Nat.ne_of_lt hb')]
      exact (hf b hb).1
  done := by
    intro X hP hw hK hc i pins s σ H E I hf st hg
    subst hP hw hK
    obtain ⟨⟨old, he⟩, hit, hne⟩ := st
    obtain ⟨xs, hq, hx⟩ := hg
    obtain ⟨its, rv, p, hz⟩ := I.tuple hq
    have p : s.heap.IsTuple a its.toArray := p
    obtain ⟨f0, f1, f2, f3, f4, f5⟩ := hf it (by simp)
    have hl := rv.length
    exact enumT_end (I.ok.hd hc) he hit p (by simp; omega) fun h' eb => ⟨rfl, I.turned (t' := s.toks) (fun b o hb q => eb b o hb q) f0 f1 f3 f4 f5⟩
  self := fun A i s Q E st h => let ⟨⟨_, he⟩, _⟩ := st; wpAny_pyIter_enum he h
def iEnu (K : PySem.W.Frag) (ta : TA) : TI := fun σ H Rr => ta σ H fun vs H1 => ∃ a, vs = [.ref a] ∧ ((∃ xs, SqL K H1 a xs ∧ Rr (Ite K a) H1) ∨ ∃ xs, SqT K H1 a xs ∧ Rr (IteT K a) H1)
theorem pi_enu {X : Cx} {e : Expr} {ta : TA} {p pos tpos : Pos} {elts : List Expr} {kk : Nat} (hg : Gl X "enumerate") (hm : X.mg "enumerate" = none) (ha : PA X [e] ta) (hs : starEach [e] X.env = [(false, eval e X.env)]) :
    PI X (.Tuple elts kk tpos) (.Call (.Name "enumerate" p) [e] [] pos) (iEnu X.K ta) := by
  refine ⟨fun pins s σ H R I h => ?_⟩
  refine Call_ (ld_blt I hg hm boot_enumerate (PyProof.Rows.callWith_type1 (thn (ha.run pos pins s σ H _ I h) fun us s1 ⟨vs, H1, I1, r1, q1⟩ => ?_) hs rfl))
  obtain ⟨a, ex, q⟩ := q1
  subst ex
  cases r1 with
  | cons r rr =>
    cases rr
    cases r
    have fp : ∀ b ∈ [s1.heap.objs.size + 1, s1.heap.objs.size], FpOk X pins H1 b := fun b hb => by
      have e' : b = s1.heap.objs.size + 1 ∨ b = s1.heap.objs.size := by simpa using hb
      have hle : s1.heap.objs.size ≤ b := by
        rcases e' with z | z
        · rw [z]; exact Nat.le_add_right _ _
        · rw [z]; exact Nat.le_refl _
      exact I1.fpOk hle (I1.hok.fresh hle)
    rcases q with ⟨xs, hq, q⟩ | ⟨xs, hq, q⟩
    · obtain ⟨its, rv, p', hz⟩ := I1.list hq
      refine call_enumerate_list p'.isList fun h' he hit hsz hk => wpAny_pyIter_enum he ?_
      have I2 : Inv X pins σ H1 { s1 with heap := h' } := I1.kept (t' := s1.toks) hk
      exact ⟨s1.heap.objs.size + 1, [s1.heap.objs.size + 1, s1.heap.objs.size], _, _, H1, rfl, I2, turn_enum a (s1.heap.objs.size + 1) s1.heap.objs.size, ⟨⟨.none, he⟩, hit, Nat.succ_ne_self _⟩, fp, q⟩
    · obtain ⟨its, rv, p', hz⟩ := I1.tuple hq
      refine call_enum1 (begins_tuple a its.toArray) (show s1.heap.IsTuple a its.toArray from p') fun h' he hit hsz hk => wpAny_pyIter_enum he ?_
      have I2 : Inv X pins σ H1 { s1 with heap := h' } := I1.kept (t' := s1.toks) hk
      exact ⟨s1.heap.objs.size + 1, [s1.heap.objs.size + 1, s1.heap.objs.size], _, _, H1, rfl, I2, turn_enumT a (s1.heap.objs.size + 1) s1.heap.objs.size, ⟨⟨.none, he⟩, ⟨_, hit, rfl, rfl⟩, Nat.succ_ne_self _⟩, fp, q⟩
theorem enuL_get : ∀ (xs : List D) (k : Int) (i : Nat) (x : D), xs[i]? = some x → (enuL k xs)[i]? = some (.tup [.int (k + i), x])
  | [], _, _, _, h => by simp at h
  | y :: ys, k, 0, x, h => by
    simp at h
    subst h
    simp [enuL]
  | y :: ys, k, i + 1, x, h => by
    show (enuL (k + 1) ys)[i]? = _
    rw [enuL_get ys (k + 1) i x (by simpa using h)]
    congr 3
    simp
    omega
theorem enuL_len : ∀ (xs : List D) (k : Int), (enuL k xs).length = xs.length
  | [], _ => rfl
  | y :: ys, k => by show (enuL (k + 1) ys).length + 1 = _; rw [enuL_len ys]; rfl
theorem get_l {K : PySem.W.Frag} {A0 : Ad} {H0 : Hp} {w0 : Wd} {d : D} {a : Addr} {xs : List D} (e : w0.seq d = some xs) (r : RD K H0 A0 d (.ref a)) (t : isT d = false) {A : Ad} {H : Hp} {w : Wd} {σ : Sl} (c : Car A0 H0 A H) (S : Sim K H A w σ) (ok : (srcOf d).ok xs w = true) :
    ∃ vs, SqL K H a vs ∧ RDs K H A xs vs := by
  obtain ⟨b, vs, eb, rs, h⟩ := S.seq (r.step c d _) (src_seq e ok)
  cases eb
  rcases h with ⟨h, _⟩ | ⟨_, h⟩
  · rw [t] at h; cases h
  · exact ⟨vs, h, rs⟩
theorem get_t {K : PySem.W.Frag} {A0 : Ad} {H0 : Hp} {w0 : Wd} {d : D} {a : Addr} {xs : List D} (e : w0.seq d = some xs) (r : RD K H0 A0 d (.ref a)) (t : isT d = true) {A : Ad} {H : Hp} {w : Wd} {σ : Sl} (c : Car A0 H0 A H) (S : Sim K H A w σ) (ok : (srcOf d).ok xs w = true) :
    ∃ vs, SqT K H a vs ∧ RDs K H A xs vs := by
  obtain ⟨b, vs, eb, rs, h⟩ := S.seq (r.step c d _) (src_seq e ok)
  cases eb
  rcases h with ⟨_, h⟩ | ⟨h, _⟩
  · exact ⟨vs, h, rs⟩
  · rw [t] at h; cases h
theorem pair_new {K : PySem.W.Frag} {A : Ad} {H : Hp} {w : Wd} {σ : Sl} {T : Addr} {x y : D} {u v : V} (S : Sim K H A w σ) (hT : H T = none) (rx : RD K H A x u) (ry : RD K H A y v) :
    Step A H A (upd H T (.tup [u, v])) ∧ Sim K (upd H T (.tup [u, v])) A w σ ∧ RD K (upd H T (.tup [u, v])) A (.tup [x, y]) (.ref T) := by
  have hc := (S.fresh hT).1.2.2
  exact ⟨Step.new hT hc, S.new hT, RD.newT hT hc ⟨_, _, rfl, rx, _, _, rfl, ry, rfl⟩⟩
theorem walk_e {K : PySem.W.Frag} {A0 : Ad} {H0 : Hp} {w0 : Wd} {d : D} {a : Addr} {xs : List D} (e : w0.seq d = some xs) (r : RD K H0 A0 d (.ref a)) (t : isT d = false) : WalkD K (Ite K a) ⟨enuL 0 xs, (srcOf d).ok xs⟩ A0 H0 := by
  refine ⟨fun A H w σ i c S ok hi => ?_, fun A H w σ c S ok => ?_⟩
  · have hi : i < xs.length := by rw [← enuL_len xs 0]; exact hi
    obtain ⟨vs, h, rs⟩ := get_l e r t c S ok
    obtain ⟨v, hv, rv⟩ := rs.get (List.getElem?_eq_getElem hi)
    refine ⟨⟨vs, v, h, hv⟩, fun x H' y => ?_⟩
    obtain ⟨T, x', rfl, hT, rfl, f⟩ := y
    have ev := (f vs h).symm.trans hv
    cases ev
    obtain ⟨a1, a2, a3⟩ := pair_new (x := .int i) (u := .int (i : Nat)) S hT rfl rv
    refine ⟨a1, a2, fun d' e' => ?_⟩
    rw [enuL_get xs 0 i _ (List.getElem?_eq_getElem hi)] at e'
    cases e'
    rw [Int.zero_add]
    exact a3
  · obtain ⟨vs, h, rs⟩ := get_l e r t c S ok
    exact ⟨vs, h, by rw [enuL_len]; exact Nat.le_of_eq rs.length⟩
theorem walk_et {K : PySem.W.Frag} {A0 : Ad} {H0 : Hp} {w0 : Wd} {d : D} {a : Addr} {xs : List D} (e : w0.seq d = some xs) (r : RD K H0 A0 d (.ref a)) (t : isT d = true) : WalkD K (IteT K a) ⟨enuL 0 xs, (srcOf d).ok xs⟩ A0 H0 := by
  refine ⟨fun A H w σ i c S ok hi => ?_, fun A H w σ c S ok => ?_⟩
  · have hi : i < xs.length := by rw [← enuL_len xs 0]; exact hi
    obtain ⟨vs, h, rs⟩ := get_t e r t c S ok
    obtain ⟨v, hv, rv⟩ := rs.get (List.getElem?_eq_getElem hi)
    refine ⟨⟨vs, v, h, hv⟩, fun x H' y => ?_⟩
    obtain ⟨T, x', rfl, hT, rfl, f⟩ := y
    have ev := (f vs h).symm.trans hv
    cases ev
    obtain ⟨a1, a2, a3⟩ := pair_new (x := .int i) (u := .int (i : Nat)) S hT rfl rv
    refine ⟨a1, a2, fun d' e' => ?_⟩
    rw [enuL_get xs 0 i _ (List.getElem?_eq_getElem hi)] at e'
    cases e'
    rw [Int.zero_add]
    exact a3
  · obtain ⟨vs, h, rs⟩ := get_t e r t c S ok
    exact ⟨vs, h, by rw [enuL_len]; exact Nat.le_of_eq rs.length⟩
theorem zipD_get : ∀ (xs ys : List D) (i : Nat) (x y : D), xs[i]? = some x → ys[i]? = some y → (zipD xs ys)[i]? = some (.tup [x, y])
  | [], _, _, _, _, h, _ => by simp at h
  | _ :: _, [], _, _, _, _, h => by simp at h
  | a :: as, b :: bs, 0, x, y, h, h2 => by
    simp at h h2
    subst h h2
    rfl
  | a :: as, b :: bs, i + 1, x, y, h, h2 => zipD_get as bs i x y (by simpa using h) (by simpa using h2)
theorem zipD_len : ∀ (xs ys : List D), (zipD xs ys).length = min xs.length ys.length
  | [], _ => by simp [zipD]
  | _ :: _, [] => by simp [zipD]
  | a :: as, b :: bs => by show (zipD as bs).length + 1 = _; rw [zipD_len as bs]; simp
theorem walk_z {K : PySem.W.Frag} {A0 : Ad} {H0 : Hp} {w0 : Wd} {d d2 : D} {a b : Addr} {xs ys : List D} (e : w0.seq d = some xs) (e2 : w0.seq d2 = some ys) (r : RD K H0 A0 d (.ref a)) (r2 : RD K H0 A0 d2 (.ref b)) (t : isT d = false) (t2 : isT d2 = false) :
    WalkD K (Itz K a b) ⟨zipD xs ys, fun w => (srcOf d).ok xs w && (srcOf d2).ok ys w⟩ A0 H0 := by
  refine ⟨fun A H w σ i c S ok hi => ?_, fun A H w σ c S ok => ?_⟩
  · obtain ⟨o1, o2⟩ := Bool.and_eq_true_iff.mp ok
    have hi : i < (zipD xs ys).length := hi
    rw [zipD_len] at hi
    have hx : i < xs.length := by omega
    have hy : i < ys.length := by omega
    obtain ⟨vs, h, rs⟩ := get_l e r t c S o1
    obtain ⟨us, h2, rs2⟩ := get_l e2 r2 t2 c S o2
    obtain ⟨v, hv, rv⟩ := rs.get (List.getElem?_eq_getElem hx)
    obtain ⟨u, hu, ru⟩ := rs2.get (List.getElem?_eq_getElem hy)
    refine ⟨⟨vs, us, v, u, h, h2, hv, hu⟩, fun x H' y => ?_⟩
    obtain ⟨T, x', y', rfl, hT, rfl, f, f2⟩ := y
    have ev := (f vs h).symm.trans hv
    have eu := (f2 us h2).symm.trans hu
    cases ev
    cases eu
    obtain ⟨a1, a2, a3⟩ := pair_new S hT rv ru
    refine ⟨a1, a2, fun d' e' => ?_⟩
    rw [zipD_get xs ys i _ _ (List.getElem?_eq_getElem hx) (List.getElem?_eq_getElem hy)] at e'
    cases e'
    exact a3
  · obtain ⟨o1, o2⟩ := Bool.and_eq_true_iff.mp ok
    obtain ⟨vs, h, rs⟩ := get_l e r t c S o1
    obtain ⟨us, h2, rs2⟩ := get_l e2 r2 t2 c S o2
    refine ⟨vs, us, h, h2, ?_⟩
    have l1 := rs.length
    have l2 := rs2.length
    show vs.length ≤ (zipD xs ys).length ∨ us.length ≤ (zipD xs ys).length
    rw [zipD_len]
    omega
theorem walk_zt {K : PySem.W.Frag} {A0 : Ad} {H0 : Hp} {w0 : Wd} {d d2 : D} {a b : Addr} {xs ys : List D} (e : w0.seq d = some xs) (e2 : w0.seq d2 = some ys) (r : RD K H0 A0 d (.ref a)) (r2 : RD K H0 A0 d2 (.ref b)) (t : isT d = true) (t2 : isT d2 = true) :
    WalkD K (RZ.ItzT K a b) ⟨zipD xs ys, fun w => (srcOf d).ok xs w && (srcOf d2).ok ys w⟩ A0 H0 := by
  refine ⟨fun A H w σ i c S ok hi => ?_, fun A H w σ c S ok => ?_⟩
  · obtain ⟨o1, o2⟩ := Bool.and_eq_true_iff.mp ok
    have hi : i < (zipD xs ys).length := hi
    rw [zipD_len] at hi
    have hx : i < xs.length := by omega
    have hy : i < ys.length := by omega
    obtain ⟨vs, h, rs⟩ := get_t e r t c S o1
    obtain ⟨us, h2, rs2⟩ := get_t e2 r2 t2 c S o2
    obtain ⟨v, hv, rv⟩ := rs.get (List.getElem?_eq_getElem hx)
    obtain ⟨u, hu, ru⟩ := rs2.get (List.getElem?_eq_getElem hy)
    refine ⟨⟨vs, us, v, u, h, h2, hv, hu⟩, fun x H' y => ?_⟩
    obtain ⟨T, x', y', rfl, hT, rfl, f, f2⟩ := y
    have ev := (f vs h).symm.trans hv
    have eu := (f2 us h2).symm.trans hu
    cases ev
    cases eu
    obtain ⟨a1, a2, a3⟩ := pair_new S hT rv ru
    refine ⟨a1, a2, fun d' e' => ?_⟩
    rw [zipD_get xs ys i _ _ (List.getElem?_eq_getElem hx) (List.getElem?_eq_getElem hy)] at e'
    cases e'
    exact a3
  · obtain ⟨o1, o2⟩ := Bool.and_eq_true_iff.mp ok
    obtain ⟨vs, h, rs⟩ := get_t e r t c S o1
    obtain ⟨us, h2, rs2⟩ := get_t e2 r2 t2 c S o2
    refine ⟨vs, us, h, h2, ?_⟩
    have l1 := rs.length
    have l2 := rs2.length
    show vs.length ≤ (zipD xs ys).length ∨ us.length ≤ (zipD xs ys).length
    rw [zipD_len]
    omega
end Fz

/-! Q10: handing data to a callee and back; the checker of expressions. -/
namespace Fz
open PySem PySem.Spec PyProof.Rows L2
section
variable {K : PySem.W.Frag} {H H' : Hp} {A A' : Ad} {w : Wd} {σ : Sl}
mutual
theorem rs_rd {ρ : Nat → Option D} {φ : Bool} (hk : ∀ (k : Nat) a d', ρ k = some d' → A.mu[k]? = some a → RD K H A' d' (.ref a)) (ho : ∀ a, A.out a → A'.out a) (hb : ∀ a, A.out a → a ∉ A.bad → a ∉ A'.bad) (hg : A'.ga = A.ga) :
    ∀ (d : D) (v : V) (d' : D), rs ρ φ d = some d' → RD K H A d v → RD K H A' d' v
  | .non, _, _, e, h => by cases e; exact h
  | .bl _, _, _, e, h => by cases e; exact h
  | .int _, _, _, e, h => by cases e; exact h
  | .str _, _, _, e, h => by cases e; exact h
  | .tup ds, _, _, e, h => by
    obtain ⟨a, vs, rfl, q, r⟩ := h
    simp only [rs, Option.map_eq_some_iff] at e
    obtain ⟨es, e1, rfl⟩ := e
    exact ⟨a, vs, rfl, q, rsL_rd hk ho hb hg ds vs es e1 r⟩
  | .lst ds, _, _, e, h => by
    obtain ⟨a, vs, rfl, q, x, y, r⟩ := h
    simp only [rs, Option.map_eq_some_iff] at e
    obtain ⟨es, e1, rfl⟩ := e
    exact ⟨a, vs, rfl, q, ho a x, hb a x y, rsL_rd hk ho hb hg ds vs es e1 r⟩
  | .fl ds, _, _, e, h => by
    obtain ⟨a, vs, rfl, q, x, r⟩ := h
    simp only [rs] at e
    split at e
    · obtain ⟨es, e1, rfl⟩ := Option.map_eq_some_iff.mp e
      exact ⟨a, vs, rfl, q, ho a x, rsL_rd hk ho hb hg ds vs es e1 r⟩
    · cases e
  | .sc ds, _, _, e, h => by
    obtain ⟨a, vs, rfl, q, r⟩ := h
    simp only [rs] at e
    split at e
    · obtain ⟨es, e1, rfl⟩ := Option.map_eq_some_iff.mp e
      exact ⟨a, vs, rfl, q, rsL_rd hk ho hb hg ds vs es e1 r⟩
    · cases e
  | .ref k, _, _, e, h => by
    obtain ⟨a, q, rfl⟩ := h
    exact hk k a _ e q
  | .g k, _, _, e, h => by
    cases e
    obtain ⟨a, q, rfl⟩ := h
    exact ⟨a, by rw [hg]; exact q, rfl⟩
  | .dic ks ds, _, _, e, h => by
    obtain ⟨a, rfl, x, y, h⟩ := h
    simp only [rs, Option.map_eq_some_iff] at e
    obtain ⟨es, e1, rfl⟩ := e
    rcases h with ⟨k0, d0, q⟩ | ⟨vs, q, z, r⟩
    · subst d0
      cases e1
      exact ⟨a, rfl, ho a x, hb a x y, .inl ⟨k0, rfl, q⟩⟩
    · exact ⟨a, rfl, ho a x, hb a x y, .inr ⟨vs, q, z, rsL_rd hk ho hb hg ds _ es e1 r⟩⟩
theorem rsL_rd {ρ : Nat → Option D} {φ : Bool} (hk : ∀ (k : Nat) a d', ρ k = some d' → A.mu[k]? = some a → RD K H A' d' (.ref a)) (ho : ∀ a, A.out a → A'.out a) (hb : ∀ a, A.out a → a ∉ A.bad → a ∉ A'.bad) (hg : A'.ga = A.ga) :
    ∀ (ds : List D) (vs : List V) (ds' : List D), rsL ρ φ ds = some ds' → RDs K H A ds vs → RDs K H A' ds' vs
  | [], _, _, e, h => by cases e; exact h
  | d :: ds, _, _, e, h => by
    obtain ⟨v, r, rfl, x, y⟩ := h
    simp only [rsL, Option.bind_eq_some_iff, Option.map_eq_some_iff] at e
    obtain ⟨d', e1, es, e2, rfl⟩ := e
    exact ⟨v, r, rfl, rs_rd hk ho hb hg d v d' e1 x, rsL_rd hk ho hb hg ds r es e2 y⟩
end
/-- the refs from L on as what they hold -/
theorem up_rd (S : Sim K H A w σ) {mk : List D → D} {L : Nat} {φ : Bool} (ho : ∀ a, A.out a → A'.out a) (hb : ∀ a, A.out a → a ∉ A.bad → a ∉ A'.bad) (hg : A'.ga = A.ga)
    (hlow : ∀ (k : Nat) a, k < L → A.mu[k]? = some a → A'.mu[k]? = some a) (hmk : ∀ (k : Nat) a ys vs, ¬ k < L → A.mu[k]? = some a → H a = some (.lst vs) → RDs K H A' ys vs → RD K H A' (mk ys) (.ref a)) :
    ∀ (n k : Nat) (a : Addr) (d' : D), up mk L w.m φ n k = some d' → A.mu[k]? = some a → RD K H A' d' (.ref a)
  | 0, k, a, d', e, h => by
    simp only [up] at e
    split at e
    · rename_i hl
      cases e
      exact ⟨a, hlow k a hl h, rfl⟩
    · cases e
  | n + 1, k, a, d', e, h => by
    simp only [up] at e
    split at e
    · rename_i hl
      cases e
      exact ⟨a, hlow k a hl h, rfl⟩
    · rename_i hl
      simp only [Option.bind_eq_some_iff, Option.map_eq_some_iff] at e
      obtain ⟨ds, e1, ys, e2, rfl⟩ := e
      obtain ⟨e1, n1⟩ := seq_ref_some (Option.bind_eq_some_iff.mpr e1)
      obtain ⟨vs, q2, q3⟩ := S.mu.get h e1 n1
      exact hmk k a ys vs hl h q2 (rsL_rd (fun k a d' e h => up_rd S ho hb hg hlow hmk n k a d' e h) ho hb hg ds vs ys e2 q3)
/-- what a callee stands upon -/
def Ad.sub (A : Ad) : Ad := ⟨[], A.ga, A.bad ++ (A.mu ++ A.cn), []⟩
theorem Ad.sub_out {a : Addr} (h : A.out a) : A.sub.out a := ⟨by simp [Ad.sub], h.2.1, by simp [Ad.sub]⟩
theorem Ad.sub_bad {a : Addr} (h : A.out a) (h2 : a ∉ A.bad) : a ∉ A.sub.bad := fun z => by
  rcases List.mem_append.mp z with z | z
  · exact h2 z
  · rcases List.mem_append.mp z with z | z
    · exact h.1 z
    · exact h.2.2 z
theorem lendL_rd (S : Sim K H A w σ) {ds ds' : List D} {vs : List V} (e : lendL w ds = some ds') (r : RDs K H A ds vs) : RDs K H A.sub ds' vs := by
  refine rsL_rd (fun k a d' e h => up_rd S (fun a h => Ad.sub_out h) (fun a => Ad.sub_bad) rfl (fun k a h => absurd h (Nat.not_lt_zero _)) (fun k a ys vs _ h1 h2 h3 => ?_) 4 k a d' e h) (fun a h => Ad.sub_out h) (fun a => Ad.sub_bad) rfl ds vs ds' e r
  exact ⟨a, vs, rfl, h2, ⟨by simp [Ad.sub], (S.dj a (List.mem_of_getElem? h1)).1, by simp [Ad.sub]⟩, h3⟩
theorem gOk_rd (hg : A'.ga = A.ga ∨ ∀ (k : Nat) a, A.ga[k]? = some a → A'.ga[k]? = some a) : ∀ {xs : List D} {vs : List V}, xs.all gOk = true → RDs K H A xs vs → RDs K H' A' xs vs
  | [], _, _, h => h
  | d :: ds, _, g, h => by
    obtain ⟨v, r, e, x, y⟩ := h
    obtain ⟨g1, g2⟩ := Bool.and_eq_true_iff.mp (show (gOk d && ds.all gOk) = true from g)
    refine ⟨v, r, e, ?_, gOk_rd hg g2 y⟩
    cases d with
    | g k =>
      obtain ⟨a, q, e⟩ := x
      refine ⟨a, ?_, e⟩
      rcases hg with hg | hg
      · rw [hg]; exact q
      · exact hg k a q
    | non => exact x
    | bl _ => exact x
    | int _ => exact x
    | str _ => exact x
    | _ => cases g1
theorem RL.gok (k : ∀ a vs, H a = some (.lst vs) → a ∈ A.ga → H' a = some (.lst vs)) (hg : A'.ga = A.ga ∨ ∀ (k : Nat) a, A.ga[k]? = some a → A'.ga[k]? = some a) : ∀ {as : List Addr} {ms : List (List D)}, (∀ a ∈ as, a ∈ A.ga) → (∀ xs ∈ ms, xs.all gOk = true) → RL K H A as ms → RL K H' A' as ms
  | [], _, _, _, h => h
  | a :: as, _, hm, g, h => by
    obtain ⟨xs, r, rfl, x, z⟩ := h
    obtain ⟨vs, x, y⟩ := x.lst (gOk_noDc (g xs List.mem_cons_self))
    exact ⟨xs, r, rfl, Cell.mk (k a vs x (hm a List.mem_cons_self)) (gOk_rd hg (g xs List.mem_cons_self) y), RL.gok k hg (fun b hb => hm b (List.mem_cons_of_mem _ hb)) (fun ys hy => g ys (List.mem_cons_of_mem _ hy)) z⟩
theorem Sim.sub (S : Sim K H A w σ) : Sim K H A.sub ⟨[], [], w.g⟩ [] where
  loc := fun i d e => by simp at e
  len := rfl
  mu := rfl
  ga := RL.gok (A := A) (A' := A.sub) (fun _ _ h _ => h) (.inl rfl) (fun _ h => h) S.gk S.ga
  nd := List.nodup_nil
  ndg := S.ndg
  dj := fun a h => by simp [Ad.sub] at h
  djg := fun a h => by
    rcases List.mem_append.mp h with h | h
    · exact S.djg a h
    · rcases List.mem_append.mp h with h | h
      · exact (S.dj a h).1
      · exact (S.cnd a h).2.1
  bt := fun a h => by
    rcases List.mem_append.mp h with h | h
    · exact S.bt a h
    · rcases List.mem_append.mp h with h | h
      · exact (S.mu.tracked h).elim fun vs e => ⟨_, e⟩
      · exact (S.cnt a h).elim fun vs e => ⟨_, e⟩
  cnt := fun a h => by simp [Ad.sub] at h
  cnd := fun a h => by simp [Ad.sub] at h
  gk := S.gk
mutual
/-- a callee's result at the caller's -/
theorem ret_rd (ho : ∀ a, A.out a → a ∉ A.bad → A'.out a ∧ a ∉ A'.bad) (hg : A'.ga = A.ga) : ∀ (d : D) (v : V), okRet d = true → RD K H A d v → RD K H A' d v
  | .non, _, _, h => h
  | .bl _, _, _, h => h
  | .int _, _, _, h => h
  | .str _, _, _, h => h
  | .tup ds, _, o, h => by
    obtain ⟨a, vs, rfl, q, r⟩ := h
    exact ⟨a, vs, rfl, q, rets_rd ho hg ds vs (by simpa [okRet] using o) r⟩
  | .lst ds, _, o, h => by
    obtain ⟨a, vs, rfl, q, x, y, r⟩ := h
    obtain ⟨x', y'⟩ := ho a x y
    exact ⟨a, vs, rfl, q, x', y', rets_rd ho hg ds vs (by simpa [okRet] using o) r⟩
  | .fl _, _, o, _ => nomatch o
  | .sc _, _, o, _ => nomatch o
  | .ref _, _, o, _ => nomatch o
  | .g k, _, _, h => by
    obtain ⟨a, q, rfl⟩ := h
    exact ⟨a, by rw [hg]; exact q, rfl⟩
  | .dic ks ds, _, o, h => by
    obtain ⟨a, rfl, x, y, h⟩ := h
    obtain ⟨x', y'⟩ := ho a x y
    rcases h with ⟨k0, d0, q⟩ | ⟨vs, q, z, r⟩
    · exact ⟨a, rfl, x', y', .inl ⟨k0, d0, q⟩⟩
    · exact ⟨a, rfl, x', y', .inr ⟨vs, q, z, rets_rd ho hg ds _ (by simpa [okRet] using o) r⟩⟩
theorem rets_rd (ho : ∀ a, A.out a → a ∉ A.bad → A'.out a ∧ a ∉ A'.bad) (hg : A'.ga = A.ga) : ∀ (ds : List D) (vs : List V), okRets ds = true → RDs K H A ds vs → RDs K H A' ds vs
  | [], _, _, h => h
  | d :: ds, _, o, h => by
    obtain ⟨v, r, rfl, x, y⟩ := h
    obtain ⟨o1, o2⟩ := Bool.and_eq_true_iff.mp (show (okRet d && okRets ds) = true by simpa [okRets] using o)
    exact ⟨v, r, rfl, ret_rd ho hg d v o1 x, rets_rd ho hg ds r o2 y⟩
end
/-- behind a call -/
theorem Sim.behind {A1 : Ad} {g' : List (List D)} {d : D} {v : V} (S : Sim K H A w σ) (st : Step A.sub H A1 H') (hm : A1.mu = []) (S1 : Sim K H' A1 ⟨[], [], g'⟩ []) (o : okRet d = true) (r : RD K H' A1 d v) :
    ∃ A', Step A H A' H' ∧ Sim K H' A' { w with g := g' } σ ∧ RD K H' A' d v := by
  have hc : A1.cn = [] := st.cn
  have hbad : A1.bad = A.bad ++ (A.mu ++ A.cn) := st.bad
  have kp : ∀ a o, H a = some o → a ∉ A.ga → H' a = some o ∧ a ∉ A1.ga := fun a o e h =>
    let ⟨q, x⟩ := st.kept a o e ⟨by simp [Ad.sub], h, by simp [Ad.sub]⟩
    ⟨q, x.2.1⟩
  have c : Car A H ⟨A.mu, A1.ga, A.bad, A.cn⟩ H' := ⟨fun a o e x => let ⟨q, y⟩ := kp a o e x.2.1; ⟨q, x.1, y, x.2.2⟩, st.tup, st.frz, fun _ _ h => h, st.ga, rfl⟩
  have mt : ∀ a ∈ A.mu, ∃ o, H a = some o := fun a h => S.mu.tracked h
  refine ⟨⟨A.mu, A1.ga, A.bad, A.cn⟩, ⟨c, rfl, fun a h => ?_⟩, ⟨fun i d e => let ⟨v, e1, r⟩ := S.loc i d e; ⟨v, e1, r.step c d v⟩, S.len, RL.carry (fun xs vs h => h.step c) (fun a ha vs h => (kp a _ h (S.dj a ha).1).1) S.mu, ?_, S.nd, S1.ndg, fun a ha => ⟨?_, (S.dj a ha).2⟩, fun a ha => ?_, fun a ha => ?_, fun a ha => ?_, fun a ha => ⟨(S.cnd a ha).1, ?_, (S.cnd a ha).2.2⟩, S1.gk⟩, ?_⟩
  · obtain ⟨vs, e⟩ := S.cnt a h
    rw [e]
    exact (kp a _ e (S.cnd a h).2.1).1
  · exact RL.gok (A := A1) (A' := ⟨A.mu, A1.ga, A.bad, A.cn⟩) (fun _ _ h _ => h) (.inl rfl) (fun _ h => h) S1.gk S1.ga
  · obtain ⟨vs, e⟩ := mt a ha
    exact (kp a _ e (S.dj a ha).1).2
  · obtain ⟨o, e⟩ := S.bt a ha
    exact (kp a _ e (S.djg a ha)).2
  · obtain ⟨o, e⟩ := S.bt a ha
    exact ⟨o, (kp a _ e (S.djg a ha)).1⟩
  · obtain ⟨vs, e⟩ := S.cnt a ha
    exact ⟨vs, (kp a _ e (S.cnd a ha).2.1).1⟩
  · obtain ⟨vs, e⟩ := S.cnt a ha
    exact (kp a _ e (S.cnd a ha).2.1).2
  · refine ret_rd (A := A1) (A' := ⟨A.mu, A1.ga, A.bad, A.cn⟩) (fun a x y => ?_) rfl d v o r
    rw [hbad] at y
    exact ⟨⟨fun z => y (List.mem_append_right _ (List.mem_append_left _ z)), x.2.1, fun z => y (List.mem_append_right _ (List.mem_append_right _ z))⟩, fun z => y (List.mem_append_left _ z)⟩
end
theorem arr_vals : ∀ {p : List Nat} {vs : List V} {us : List Value} {vs' : List V}, Vals vs us → arr p vs = some vs' → ∃ us', arr p us = some us' ∧ Vals vs' us'
  | [], _, _, _, _, e => by cases e; exact ⟨[], rfl, .nil⟩
  | i :: p, vs, us, _, r, e => by
    simp only [arr, Option.bind_eq_some_iff, Option.map_eq_some_iff] at e ⊢
    obtain ⟨v, e1, ys, e2, rfl⟩ := e
    obtain ⟨u, h1, h2⟩ := r.get e1
    obtain ⟨zs, h3, h4⟩ := arr_vals (p := p) r e2
    exact ⟨u :: zs, ⟨u, h1, zs, h3, rfl⟩, .cons h2 h4⟩
theorem arr_rds {K : PySem.W.Frag} {H : Hp} {A : Ad} : ∀ {p : List Nat} {ds : List D} {vs : List V} {ds' : List D}, RDs K H A ds vs → arr p ds = some ds' → ∃ vs', arr p vs = some vs' ∧ RDs K H A ds' vs'
  | [], _, _, _, _, e => by cases e; exact ⟨[], rfl, rfl⟩
  | i :: p, ds, vs, _, r, e => by
    simp only [arr, Option.bind_eq_some_iff, Option.map_eq_some_iff] at e ⊢
    obtain ⟨d, e1, ys, e2, rfl⟩ := e
    obtain ⟨v, h1, h2⟩ := r.get e1
    obtain ⟨zs, h3, h4⟩ := arr_rds (p := p) r e2
    exact ⟨v :: zs, ⟨v, h1, zs, h3, rfl⟩, v, zs, rfl, h2, h4⟩
theorem arrD_rds {K : PySem.W.Frag} {H : Hp} {A : Ad} {p : Option (List Nat)} {ds : List D} {vs : List V} {ds' : List D} {us : List Value} (r : RDs K H A ds vs) (q : Vals vs us) (e : arrD p ds = some ds') :
    ∃ vs' us', arrD p us = some us' ∧ Vals vs' us' ∧ RDs K H A ds' vs' := by
  cases p with
  | none =>
    cases e
    exact ⟨vs, us, rfl, q, r⟩
  | some p =>
    obtain ⟨vs', e1, r'⟩ := arr_rds r e
    obtain ⟨us', e2, q'⟩ := arr_vals q e1
    exact ⟨vs', us', e2, q', r'⟩
section
variable {T : Tb} {P : Pg} {lv : Nat} {N : List Str} {sc : Scope} {top : Option Scope} {X : Cx}
/-- a def is called -/
theorem call_sound (G : GX T P lv N sc top X) {j : Nat} {dd : Str × List Str} (hj : T.defs[j]? = some dd) (hlv : j < lv) :
    ∃ f, X.mg dd.1 = some (.ref f) ∧ PySem.W.keepIn X.K (.ref f) = true ∧ ∀ (n : Nat) (ks : List Str) (p : Option (List Nat)), (j, n, ks, p) ∈ T.binds →
      ∀ (pins : List (Addr × Obj)) (s : Shared) (σ : Sl) (H : Hp) (Q : VK) (us ws : List Value) (vs zs : List V) (A : Ad) (w : Wd) (ds es as bs : List D) (d : D) (g' : List (List D)),
        Inv X pins σ H s → Vals vs us → Vals zs ws → Sim X.K H A w σ → RDs X.K H A ds vs → RDs X.K H A es zs → ds.length = n → es.length = ks.length → lendL w (ds ++ es) = some as → arrD p as = some bs → bs.length = dd.2.length →
        P.F j bs w.g = .ok (d, g') → Aft X.K A H σ d { w with g := g' } Q → wpAny (model X.prog X.w) X.A (call (.ref f) us (ks.zip ws)) (EP X pins σ Q) X.xe s := by
  obtain ⟨f, fd, h1, h2, F, hb, hr, _⟩ := G.defs j dd hj hlv
  refine ⟨f, h1, h2, fun n ks p hm pins s σ H Q us ws vs zs A w ds es as bs d g' I r1 r2 S q1 q2 l1 l2 e1 e2 l3 e3 q => ?_⟩
  have rr := lendL_rd S e1 (q1.append q2)
  obtain ⟨vs', us', e4, q', r'⟩ := arrD_rds rr (r1.append r2) e2
  have hbind := hb n ks p hm s us ws us' (by rw [← r1.length, q1.length]; exact l1) (by rw [← r2.length, q2.length]; exact l2) e4
  have hs : spD X.K (P.F j) dd.2.length vs' H (fun v H' => Q v H') (fun _ _ _ => False) := by
    refine ⟨A.sub, w.g, bs, d, g', rfl, rfl, S.sub, r', l3, e3, fun A1 v H' st hm S1 rv => ?_⟩
    obtain ⟨A', st', S', r''⟩ := S.behind st hm S1 (hr _ _ _ _ e3) rv
    exact q A' v H' st' S' r''
  refine wpAny_call (codeAny_mono (F.run X.A X.stack s H ⟨us, ks.zip ws⟩ us' vs' _ (fun _ _ _ => False) G.room G.gd I.env0 hbind q' hs) fun r s' hq => ?_)
  cases r with
  | error e => exact hq.elim
  | ok fl =>
    cases fl with
    | ret u => exact I.after hq
    | next => exact False.elim hq
    | brk => exact False.elim hq
    | cont => exact False.elim hq
end
end Fz

/-! Q10t: a tuple turned about. -/
namespace HT
open PySem PySem.Spec PyProof.Rows
section
variable {prog : Program} {w : World} {A : Around} {E : Value → Shared → Prop} {s : Shared}
theorem sliceApplied_rev {sl : Addr} {vl vu vs : Value} {n : Nat} {Q : Int × Int × Nat → Shared → Prop} (hs : s.heap.IsSliceOf sl vl vu vs) (pl : IsPart vl none) (pu : IsPart vu none) (ps : IsPart vs (some (-1)))
    (h : Q ((n : Int) - 1, -1, n) s) : wpAny (model prog w) A (Builtin.Slice.sliceApplied (.ref sl) (pure (n : Int))) Q E s := by
  obtain ⟨os, hos, hcs, hds⟩ := id hs
  unfold Builtin.Slice.sliceApplied Builtin.Slice.sliceFields
  refine wpAny_bind (wpAny_bind (wpAny_field hos hds (x := vl) rfl (wpAny_bind (wpAny_field hos hds (x := vu) rfl (wpAny_bind (wpAny_field hos hds (x := vs) rfl (wpAny_pure ?_)))))))
  refine wpAny_bind (slicePart_ ps ?_)
  show wpAny _ _ (if ((-1 : Int) == 0) = true then _ else _) _ _ s
  rw [if_neg (by decide)]
  refine wpAny_bind (slicePart_ pl (wpAny_bind (slicePart_ pu (wpAny_bind (wpAny_pure ?_)))))
  show wpAny _ _ (match Builtin.Slice.sliceAdjust none none (-1) (n : Int) with | (lo, hi) => pure (lo, (-1 : Int), Builtin.Slice.slicePlaces lo hi (-1))) _ _ s
  have e1 : Builtin.Slice.sliceAdjust none none (-1) (n : Int) = ((n : Int) - 1, -1) := rfl
  have e2 : Builtin.Slice.slicePlaces ((n : Int) - 1) (-1) (-1) = n := by
    unfold Builtin.Slice.slicePlaces
    have h1 : ¬ ((-1 : Int) > 0) := by omega
    simp only [h1, if_false]
    split
    · have : (- -1 : Int) = 1 := by decide
      rw [this, Int.ediv_one]
      omega
    · omega
  rw [e1]
  show wpAny _ _ (pure ((n : Int) - 1, (-1 : Int), Builtin.Slice.slicePlaces ((n : Int) - 1) (-1) (-1))) _ _ s
  rw [e2]
  exact wpAny_pure h
theorem pick_rev (xs : Array Value) : ((List.range xs.size).filterMap fun (m : Nat) => xs[(((xs.size : Int) - 1) + (m : Int) * (-1)).toNat]?).toArray = xs.toList.reverse.toArray := by
  congr 1
  have e : ∀ l : List Nat, (∀ m ∈ l, m < xs.size) → (l.filterMap fun (m : Nat) => xs[(((xs.size : Int) - 1) + (m : Int) * (-1)).toNat]?) = (l.map fun k => xs.size - 1 - k).filterMap (xs[·]?) := by
    intro l
    induction l with
    | nil => intro _; rfl
    | cons m l ih =>
      intro hl
      have := hl m List.mem_cons_self
      have e : (((xs.size : Int) - 1) + (m : Int) * (-1)).toNat = xs.size - 1 - m := by omega
      rw [List.filterMap_cons, List.map_cons, List.filterMap_cons, ih fun k hk => hl k (List.mem_cons_of_mem _ hk), e]
  rw [e _ fun m hm => List.mem_range.mp hm, PySem.W.krv_range, List.filterMap_reverse, PySem.W.krv_all]
theorem getItem_tuple_rev {t sl : Addr} {items : Array Value} {vl vu vs : Value} {Q : Value → Shared → Prop} (ht : IsTup s.heap t items) (hs : s.heap.IsSliceOf sl vl vu vs) (pl : IsPart vl none) (pu : IsPart vu none) (ps : IsPart vs (some (-1)))
    (h : Q (.ref s.heap.objs.size) { s with heap := s.heap.push { cls := .type "tuple", data := .seq items.toList.reverse.toArray } })
    (hsz : items.size ≤ sizeLine) : wpAny (model prog w) A (getItem (.ref t) (.ref sl)) Q E s := by
  have htake : sizeOk (.seq items.toList.reverse.toArray) := by
    show items.toList.reverse.toArray.size ≤ sizeLine
    rw [List.size_toArray, List.length_reverse, Array.length_toList]
    omega
  obtain ⟨os, hos, hcs, hds⟩ := id hs
  have hTs : s.TypeIs (.ref sl) "slice" := ⟨os, hos, hcs⟩
  unfold getItem
  try with_reducible refine wpAny_holding ?_
  first | refine wpAny_bind (wpAny_pure ?_) | skip
  refine wpAny_bind (wpAny_sequenceKey ht.typeIs (by decide) ?_)
  refine wpAny_bind (wpAny_callSpecial?_slot (name := Str.ofString "__getitem__") ht.typeIs PyProof.Rows.slot_tuple_getitem
    (wpAny_call_entry PyProof.Rows.slot_tuple_getitem ht.typeIs entry_tuple_getitem ?_ (args_tuple_getitem _ _)))
  show wpAny _ _ (Builtin.Tuple.tupleItemsOf (.ref t) >>= _) _ _ s
  refine wpAny_bind (tupleItemsOf_ ht ?_)
  refine wpAny_bind (wpAny_typeOf hTs ?_)
  rw [if_pos (by decide)]
  refine wpAny_bind (sliceApplied_rev hs pl pu ps ?_)
  have hno : ¬ ((((items.size : Int) - 1) == 0 && (-1 : Int) == 1 && items.size == items.size) = true) := by
    intro q
    rw [Bool.and_eq_true, Bool.and_eq_true] at q
    exact absurd q.1.2 (by decide)
  show wpAny _ _ (if (((items.size : Int) - 1) == 0 && (-1 : Int) == 1 && items.size == items.size) = true then _ else _) _ _ s
  rw [if_neg hno, pick_rev]
  first
    | exact wpAny_bind (m := Builtin.Tuple.tupleExact _) (wpAny_newObj_type (wpAny_pure ⟨_, rfl, wpAny_pure h⟩) htake)
    | exact wpAny_bind (m := Builtin.Tuple.tupleExact _) (wpAny_newObj_type (wpAny_bind (wpAny_pure (wpAny_pure ⟨_, rfl, wpAny_pure h⟩))) htake)
    | exact wpAny_bind (wpAny_bind (m := Builtin.Tuple.tupleExact _) (wpAny_newObj_type (wpAny_pure (wpAny_pure ⟨_, rfl, wpAny_pure h⟩)) htake))
    | exact wpAny_bind (wpAny_bind (m := Builtin.Tuple.tupleExact _) (wpAny_newObj_type (wpAny_pure ⟨_, rfl, wpAny_pure h⟩) htake))
end
end HT
namespace L2
open PySem PySem.Spec PyProof.Rows HT
section
variable {X : Cx}
def tRevA (K : PySem.W.Frag) (te : TE) : TE := fun σ H Q => te σ H fun x H1 => ∃ a xs, x = .ref a ∧ ((SqL K H1 a xs ∧ ∀ p, H1 p = none → Q (.ref p) (upd H1 p (.lst xs.reverse))) ∨ (SqT K H1 a xs ∧ ∀ p, H1 p = none → Q (.ref p) (upd H1 p (.tup xs.reverse))))
theorem pe_revA {e : Expr} {te : TE} {k : Nat} {p1 p2 p3 pos : Pos} (he : PE X e te) : PE X (.Subscript e (.Slice none none (some (.UnaryOp .USub (.Constant (.int 1) k p1) p2)) p3) pos) (tRevA X.K te) := by
  refine ⟨fun pins s σ H Q I h => ?_⟩
  refine Subscript_ (thn (he.run pins s σ H _ I h) fun v s1 ⟨x, H1, I1, r1, q1⟩ => ?_)
  obtain ⟨a, xs, ex, hq⟩ := q1
  subst ex
  cases r1
  have hst : PO X (some (.UnaryOp .USub (.Constant (.int 1) k p1) p2)) (tPart (tUn (rU fun i => .int (-i)) (tC (.int 1)))) := po_some (pe_un un_neg pe_int)
  refine wpAny_Slice (thn (po_none.run pins s1 σ H1 (fun o H2 => o = none ∧ H2 = H1) I1 ⟨rfl, rfl⟩) fun vl s2 ⟨l, H2, I2, pl, el, e2⟩ => ?_)
  subst el e2
  refine thn (po_none.run pins s2 σ H2 (fun o H3 => o = none ∧ H3 = H2) I2 ⟨rfl, rfl⟩) fun vu s3 ⟨u, H3, I3, pu, eu, e3⟩ => ?_
  subst eu e3
  refine thn (hst.run pins s3 σ H3 (fun o H4 => o = some (-1) ∧ H4 = H3) I3 ⟨1, rfl, -1, rfl, rfl, rfl⟩) fun vs s4 ⟨o, H4, I4, ps, eo, e4⟩ => ?_
  subst eo e4
  have I5 : Inv X pins σ H4 { s4 with heap := s4.heap.push { cls := .type "slice", data := .fields #[vl, vu, vs] } } := I4.kept (t' := s4.toks) fun b ob q => Heap.get?_push_of_some _ q
  show wpAny (model X.prog X.w) X.A (subscriptTail e (.Slice none none (some (.UnaryOp .USub (.Constant (.int 1) k p1) p2)) p3) (.ref a) (.ref s4.heap.objs.size)) (EP X pins σ Q) X.xe { s4 with heap := s4.heap.push { cls := .type "slice", data := .fields #[vl, vu, vs] } }
  rcases hq with ⟨hx, q⟩ | ⟨hx, q⟩
  · obtain ⟨its, r, ht, hz⟩ := I5.list hx
    have hlen := r.length
    refine tail_any (ops := [.ref a, .ref s4.heap.objs.size]) ht.isList.typeIs (PySem.slot_list_getitem.lookup) ?_ (by with_unfolding_all rfl)
    refine wpAny_getItem_list_slice ht.isList (Heap.IsSliceOf.new _ vl vu vs) pl pu ps (by decide) ?_ (by rw [List.size_toArray]; omega)
    rw [PySem.W.krv_pick]
    refine ⟨.ref _, _, I5.laid (t' := s4.toks) (o := .lst xs.reverse) (fun b ob q => Heap.get?_push_of_some _ q) (Nat.le_refl _) ?_, rfl, q _ (I5.hok.fresh (Nat.le_refl _))⟩
    exact ⟨by rw [List.length_reverse]; exact hz, _, 0, r.reverse, Heap.get?_push_size _ rfl⟩
  · obtain ⟨its, r, ht, hz⟩ := I5.tuple hx
    have hlen : its.toArray.size = xs.length := by rw [List.size_toArray]; exact r.length.symm
    refine tail_any (ops := [.ref a, .ref s4.heap.objs.size]) ht.typeIs PyProof.Rows.slot_tuple_getitem.lookup ?_ (by with_unfolding_all rfl)
    refine getItem_tuple_rev ht (Heap.IsSliceOf.new _ vl vu vs) pl pu ps ?_ (by rw [hlen]; exact hz)
    refine ⟨.ref _, _, I5.laid (t' := s4.toks) (o := .tup xs.reverse) (fun b ob q => Heap.get?_push_of_some _ q) (Nat.le_refl _) ?_, rfl, q _ (I5.hok.fresh (Nat.le_refl _))⟩
    exact ⟨by rw [List.length_reverse]; exact hz, _, r.reverse, IsTup.new _ _⟩
end
end L2

/-! Q11: the rules of expressions over data. -/
namespace Fz
open PySem PySem.Spec PyProof.Rows L2

/-- an expression, as a value and as a test -/
structure Snd (X : Cx) (P : Pg) (e : E) (ex : Expr) : Prop where
  pe : PE X ex (rd X.K (evE P e))
  pt : PT X ex (rdT X.K (evT P e))
  pw : ∀ op vs pos, ex = .BoolOp op vs pos → PW X ex (rdT X.K (evT P e))
def okX : Expr → Bool
  | .Starred _ _ => false
  | .Set _ _ _ => false
  | .Slice _ _ _ _ => false
  | _ => true
/-- its test is the truth of its value -/
def plainT : Expr → Bool
  | .UnaryOp .Not _ _ => false
  | .BoolOp _ _ _ => false
  | .IfExp _ _ _ _ => false
  | .Compare _ _ _ _ => false
  | _ => true
theorem plainT_ok {e : Expr} {env : Env} (h : plainT e = true) (whole : Sem Value) : isTrue e env whole = (do let v ← whole; standAt e.pos; holding [v] (truthy v)) := by
  cases e with
  | UnaryOp op x pos => cases op <;> first | rfl | cases h
  | BoolOp op vs pos => cases h
  | IfExp a b c pos => cases h
  | Compare a b c pos => cases h
  | _ => rfl
theorem starEach_cons {e : Expr} {es : List Expr} {env : Env} (h : okX e = true) : starEach (e :: es) env = (false, eval e env) :: starEach es env := by
  cases e <;> first | rfl | cases h
theorem noStars {pos : Pos} {env : Env} : ∀ {es : List Expr}, es.all okX = true → (backTo pos (starEach es env)).any (·.1) = false
  | [], _ => rfl
  | e :: es, h => by
    obtain ⟨h1, h2⟩ := Bool.and_eq_true_iff.mp (show (okX e && es.all okX) = true from h)
    rw [starEach_cons h1]
    exact noStars (es := es) h2
theorem behind_ok {e : Expr} {op : CmpOp} (h : okX e = true) : behindInMarks op e = false := by
  cases e <;> first | rfl | cases h
theorem plainIx_ok {e : Expr} (h : okX e = true) : PlainIx e := by
  intro o i
  cases e <;> first | rfl | cases h
theorem folded_ok {e : Expr} {env : Env} (h : okX e = true) (x : Value) : foldedSetIterable e env x = pure x := by
  cases e <;> first | rfl | cases h
section
variable {T : Tb} {P : Pg} {lv : Nat} {N : List Str} {sc : Scope} {top : Option Scope} {X : Cx}
theorem GX.hu (G : GX T P lv N sc top X) : X.A.units + 64 < cLine := G.room.units
theorem GX.hu65 (G : GX T P lv N sc top X) : X.A.units + 65 < cLine := by have := G.room.un; omega
theorem GX.hu1 (G : GX T P lv N sc top X) : X.A.units + 1 < cLine := by have := G.hu; omega
/-- by its value -/
theorem Snd.plain {e : E} {ex : Expr} (h : PE X ex (rd X.K (evE P e))) (p : plainT ex = true) : Snd X P e ex := by
  refine ⟨h, PTimp (pt_truth h (fun w => plainT_ok p w)) fun σ H Q q => ?_, fun op vs pos z => by subst z; cases p⟩
  obtain ⟨A, w, S, b, w', e1, q⟩ := q
  obtain ⟨x, e2, e3⟩ := bd_split (show ((evE P e w).bd fun x => (R.of (x.2.tru x.1)).bd fun b => R.ok (b, x.2)) = .ok (b, w') from e1)
  obtain ⟨c, e4, e5⟩ := bd_split e3
  cases e5
  exact ⟨A, w, S, x.1, x.2, e2, fun A' v H' st S' r => ⟨b, S'.tru (of_split e4) r, q A' H' st S'⟩⟩
/-- two values, one rule -/
theorem rd2 {fa fb : Wd → R (D × Wd)} {k : D → D → Wd → R (D × Wd)} {r : R2}
    (hr : ∀ A w σ d e r' w' x y H Q, Sim X.K H A w σ → RD X.K H A d x → RD X.K H A e y → k d e w = .ok (r', w') → Aft X.K A H σ r' w' Q → r x y H Q) :
    ∀ σ H Q, rd X.K (fun w => (fa w).bd fun x => (fb x.2).bd fun y => k x.1 y.1 y.2) σ H Q → tOp r (rd X.K fa) (rd X.K fb) σ H Q := by
  intro σ H Q q
  obtain ⟨A, w, S, d, w', e1, q⟩ := q
  obtain ⟨x, ea, e1⟩ := bd_split e1
  obtain ⟨y, eb, e1⟩ := bd_split e1
  refine ⟨A, w, S, x.1, x.2, ea, fun A1 v H1 s1 S1 r1 => ⟨A1, x.2, S1, y.1, y.2, eb, fun A2 u H2 s2 S2 r2 => ?_⟩⟩
  exact hr A2 y.2 σ x.1 y.1 d w' v u H2 Q S2 (r1.step s2.toCar) r2 e1 (q.step (s1.trans s2))
theorem snd_var (G : GX T P lv N sc top X) {i : Nat} {x : Str} {pos : Pos} (h : N[i]? = some x) (hv : Vis sc x) (hd : (x == ("__debug__" : Str)) = false) (hc : (x == ("__classdict__" : Str)) = false) : PE X (.Name x pos) (rd X.K (evE P (.v i))) := by
  refine PEimp (pe_var (i := i) (by rw [G.hN]; exact h) (by rw [G.sco]; exact hv) hd hc) fun σ H Q q => ?_
  obtain ⟨A, w, S, d, w', e, q⟩ := q
  simp only [evE] at e
  split at e
  · rename_i d' hd'
    cases e
    obtain ⟨v, e1, r⟩ := S.loc i _ hd'
    exact ⟨v, e1, q.here S r⟩
  · cases e
theorem snd_const {d : D} {v : V} {ex : Expr} (h : PE X ex (tC v)) (hd : ∀ H A, RD X.K H A d v) : PE X ex (rd X.K (evE P (.k d))) := by
  refine PEimp h fun σ H Q q => ?_
  obtain ⟨A, w, S, d', w', e, q⟩ := q
  cases e
  exact q.here S (hd H A)
theorem snd_glob (G : GX T P lv N sc top X) {i : Nat} {c : Str × D} {pos : Pos} (h : T.cons[i]? = some c) (hg : sc.names.lookup c.1 = some .globalImplicit) (hd : (c.1 == ("__debug__" : Str)) = false) : PE X (.Name c.1 pos) (rd X.K (evE P (.gl i))) := by
  obtain ⟨hC, u, v, hm, r, hv⟩ := G.cons i c h
  refine PEimp (pe_glob (by show X.env.kindOf c.1 = _; unfold Env.kindOf; rw [G.sco]; exact hg) hm r hd) fun σ H Q q => ?_
  obtain ⟨A, w, S, d', w', e, q⟩ := q
  simp only [evE, hC] at e
  cases e
  exact q.here S (hv H A)
theorem snd_op (G : GX T P lv N sc top X) {o : Op} {md : Nat} {a b : E} {x y : Expr} {pos : Pos} (ha : Snd X P a x) (hb : Snd X P b y) : PE X (.BinOp x (oper o) y pos) (rd X.K (evE P (.op o md a b))) :=
  PEimp (pe_op (op_sound o md) ha.pe hb.pe) (rd2 (k := opF o md) fun A w σ d e r' w' x y H Q S r1 r2 e1 q => ⟨A, w, σ, d, e, r', w', S, r1, r2, e1, q⟩)
theorem snd_neg (G : GX T P lv N sc top X) {a : E} {x : Expr} {pos : Pos} (ha : Snd X P a x) : PE X (.UnaryOp .USub x pos) (rd X.K (evE P (.neg a))) := by
  refine PEimp (pe_un un_neg ha.pe) fun σ H Q q => ?_
  obtain ⟨A, w, S, d, w', e1, q⟩ := q
  obtain ⟨x, ea, e1⟩ := bd_split e1
  refine ⟨A, w, S, x.1, x.2, ea, fun A1 v H1 s1 S1 r1 => ?_⟩
  obtain ⟨d1, w1⟩ := x
  cases d1 with
  | int i =>
    cases e1
    exact ⟨i, r1, (q.step s1).here S1 rfl⟩
  | _ => cases e1
theorem snd_not (G : GX T P lv N sc top X) {a : E} {x : Expr} {pos : Pos} (ha : Snd X P a x) : Snd X P (.no a) (.UnaryOp .Not x pos) := by
  refine ⟨PEimp (pe_notT ha.pe) fun σ H Q q => ?_, PTimp (pt_not ha.pt) fun σ H Q q => ?_, fun _ _ _ z => nomatch z⟩
  · obtain ⟨A, w, S, d, w', e1, q⟩ := q
    obtain ⟨x, ea, e1⟩ := bd_split e1
    obtain ⟨b, eb, e1⟩ := bd_split e1
    cases e1
    exact ⟨A, w, S, x.1, x.2, ea, fun A1 v H1 s1 S1 r1 => ⟨b, S1.tru (of_split eb) r1, (q.step s1).here S1 rfl⟩⟩
  · obtain ⟨A, w, S, c, w', e1, q⟩ := q
    obtain ⟨y, e2, e1⟩ := bd_split e1
    obtain ⟨c', e3, e1⟩ := bd_split e1
    obtain ⟨x, ea, e2⟩ := bd_split e2
    obtain ⟨b, eb, e2⟩ := bd_split e2
    cases e2
    cases e1
    have ec := of_split e3
    cases ec
    refine ⟨A, w, S, b, x.2, ?_, fun A' H' st S' => q A' H' st S'⟩
    show ((evE P a w).bd fun x => (R.of (x.2.tru x.1)).bd fun b => R.ok (b, x.2)) = _
    rw [ea, R.bd_ok, eb]
    rfl
/-- and, or: from two parts -/
theorem snd_and (G : GX T P lv N sc top X) {a b : E} {x y : Expr} {r : List Expr} {pos : Pos} (ha : Snd X P a x) (hb : PE X (.BoolOp .And (y :: r) pos) (rd X.K (evE P b))) (hw : PW X (.BoolOp .And (y :: r) pos) (rdT X.K (evT P b))) :
    Snd X P (.an a b) (.BoolOp .And (x :: y :: r) pos) := by
  have w1 : PW X (.BoolOp .And (x :: y :: r) pos) (rdT X.K (evT P (.an a b))) := by
    refine ⟨fun wh pins s σ H Q I q => (pw_and ha.pt hw).run wh pins s σ H Q I ?_⟩
    obtain ⟨A, w, S, c, w', e1, q⟩ := q
    obtain ⟨z, e2, e1⟩ := bd_split e1
    obtain ⟨c', e3, e1⟩ := bd_split e1
    cases e1
    obtain ⟨x, ea, e2⟩ := bd_split e2
    obtain ⟨b', eb, e2⟩ := bd_split e2
    refine ⟨A, w, S, b', x.2, ?_, fun A1 H1 s1 S1 => ?_⟩
    · show ((evE P a w).bd fun x => (R.of (x.2.tru x.1)).bd fun b => R.ok (b, x.2)) = _
      rw [ea, R.bd_ok, eb]
      rfl
    · cases b' with
      | false =>
        rw [if_neg Bool.false_ne_true] at e2 ⊢
        cases e2
        have e4 := (of_split eb).symm.trans (of_split e3)
        cases e4
        exact q A1 H1 s1 S1
      | true =>
        rw [if_pos rfl] at e2 ⊢
        refine ⟨A1, x.2, S1, c, z.2, ?_, fun A2 H2 s2 S2 => q A2 H2 (s1.trans s2) S2⟩
        show ((evE P b x.2).bd fun x => (R.of (x.2.tru x.1)).bd fun b => R.ok (b, x.2)) = _
        rw [e2, R.bd_ok, e3]
        rfl
  refine ⟨PEimp (pe_andT ha.pe hb) fun σ H Q q => ?_, w1.pt, fun _ _ _ _ => w1⟩
  obtain ⟨A, w, S, d, w', e1, q⟩ := q
  obtain ⟨x, ea, e1⟩ := bd_split e1
  obtain ⟨c, eb, e1⟩ := bd_split e1
  refine ⟨A, w, S, x.1, x.2, ea, fun A1 v H1 s1 S1 r1 => ⟨c, S1.tru (of_split eb) r1, ?_⟩⟩
  cases c with
  | true =>
    rw [if_pos rfl] at e1 ⊢
    exact ⟨A1, x.2, S1, d, w', e1, q.step s1⟩
  | false =>
    rw [if_neg Bool.false_ne_true] at e1 ⊢
    cases e1
    exact (q.step s1).here S1 r1
theorem snd_or (G : GX T P lv N sc top X) {a b : E} {x y : Expr} {r : List Expr} {pos : Pos} (ha : Snd X P a x) (hb : PE X (.BoolOp .Or (y :: r) pos) (rd X.K (evE P b))) (hw : PW X (.BoolOp .Or (y :: r) pos) (rdT X.K (evT P b))) :
    Snd X P (.or a b) (.BoolOp .Or (x :: y :: r) pos) := by
  have w1 : PW X (.BoolOp .Or (x :: y :: r) pos) (rdT X.K (evT P (.or a b))) := by
    refine ⟨fun wh pins s σ H Q I q => (pw_or ha.pt hw).run wh pins s σ H Q I ?_⟩
    obtain ⟨A, w, S, c, w', e1, q⟩ := q
    obtain ⟨z, e2, e1⟩ := bd_split e1
    obtain ⟨c', e3, e1⟩ := bd_split e1
    cases e1
    obtain ⟨x, ea, e2⟩ := bd_split e2
    obtain ⟨b', eb, e2⟩ := bd_split e2
    refine ⟨A, w, S, b', x.2, ?_, fun A1 H1 s1 S1 => ?_⟩
    · show ((evE P a w).bd fun x => (R.of (x.2.tru x.1)).bd fun b => R.ok (b, x.2)) = _
      rw [ea, R.bd_ok, eb]
      rfl
    · cases b' with
      | true =>
        rw [if_pos rfl] at e2 ⊢
        cases e2
        have e4 := (of_split eb).symm.trans (of_split e3)
        cases e4
        exact q A1 H1 s1 S1
      | false =>
        rw [if_neg Bool.false_ne_true] at e2 ⊢
        refine ⟨A1, x.2, S1, c, z.2, ?_, fun A2 H2 s2 S2 => q A2 H2 (s1.trans s2) S2⟩
        show ((evE P b x.2).bd fun x => (R.of (x.2.tru x.1)).bd fun b => R.ok (b, x.2)) = _
        rw [e2, R.bd_ok, e3]
        rfl
  refine ⟨PEimp (pe_orT ha.pe hb) fun σ H Q q => ?_, w1.pt, fun _ _ _ _ => w1⟩
  obtain ⟨A, w, S, d, w', e1, q⟩ := q
  obtain ⟨x, ea, e1⟩ := bd_split e1
  obtain ⟨c, eb, e1⟩ := bd_split e1
  refine ⟨A, w, S, x.1, x.2, ea, fun A1 v H1 s1 S1 r1 => ⟨c, S1.tru (of_split eb) r1, ?_⟩⟩
  cases c with
  | false =>
    rw [if_neg Bool.false_ne_true] at e1 ⊢
    exact ⟨A1, x.2, S1, d, w', e1, q.step s1⟩
  | true =>
    rw [if_pos rfl] at e1 ⊢
    cases e1
    exact (q.step s1).here S1 r1
theorem snd_one {b : E} {y : Expr} {pos : Pos} (op : BoolOp) (h : Snd X P b y) : PE X (.BoolOp op [y] pos) (rd X.K (evE P b)) ∧ PW X (.BoolOp op [y] pos) (rdT X.K (evT P b)) := by
  refine ⟨pe_one h.pe, ?_⟩
  cases op with
  | And => exact pw_and1 h.pt
  | Or => exact pw_or1 h.pt
/-- a comparison as a test -/
theorem Snd.cmp {e : E} {ex : Expr} {t : TE} (h : PE X ex t) (h2 : PT X ex (tTest t)) (i : ∀ σ H Q, rd X.K (evE P e) σ H Q → t σ H Q) (hb : ∀ w d w', evE P e w = .ok (d, w') → ∃ b, d = .bl b) (hx : ∀ op vs pos, ex ≠ .BoolOp op vs pos) : Snd X P e ex := by
  refine ⟨PEimp h i, PTimp h2 fun σ H Q q => i σ H _ ?_, fun op vs pos z => absurd z (hx op vs pos)⟩
  obtain ⟨A, w, S, c, w', e1, q⟩ := q
  obtain ⟨x, ea, e1⟩ := bd_split e1
  obtain ⟨b', eb, e1⟩ := bd_split e1
  cases e1
  obtain ⟨b, hd⟩ := hb w x.1 x.2 ea
  refine ⟨A, w, S, x.1, x.2, ea, fun A1 v H1 s1 S1 r1 => ?_⟩
  rw [hd] at r1 eb
  have e4 := of_split eb
  cases e4
  exact ⟨c, r1, q A1 H1 s1 S1⟩
theorem snd_cm (G : GX T P lv N sc top X) {c : Cm} {a b : E} {x y : Expr} {pos : Pos} (ha : Snd X P a x) (hb : Snd X P b y) (hy : okX y = true) : Snd X P (.cm c a b) (.Compare x [cmOp c] [y] pos) := by
  refine Snd.cmp (pe_cmpR (cm_sound c G.hu65) ha.pe hb.pe (behind_ok hy)) (pt_cmpR (cm_sound c G.hu65) ha.pe hb.pe (behind_ok hy)) (fun σ H Q q => ?_) (fun w d w' e => ?_) fun _ _ _ z => nomatch z
  · refine rd2 (k := fun d e w => (R.of (cmF c d e w)).bd fun r => .ok (.bl r, w)) (fun A w σ d e r' w' x y H Q S r1 r2 e1 q => ?_) σ H Q q
    obtain ⟨r, e2, e1⟩ := bd_split e1
    cases e1
    exact ⟨A, w, σ, d, e, r, S, r1, r2, of_split e2, q.here S rfl⟩
  · obtain ⟨x, ea, e⟩ := bd_split e
    obtain ⟨y, eb, e⟩ := bd_split e
    obtain ⟨r, ec, e⟩ := bd_split e
    cases e
    exact ⟨r, rfl⟩
theorem snd_ch (G : GX T P lv N sc top X) {c c2 : Cm} {a b d : E} {x y z : Expr} {pos : Pos} (ha : Snd X P a x) (hb : Snd X P b y) (hd : Snd X P d z) (hy : okX y = true) (hz : okX z = true) :
    Snd X P (.ch a c b c2 d) (.Compare x [cmOp c, cmOp c2] [y, z] pos) := by
  have hm : lastMarks [cmOp c, cmOp c2] [y, z] = false := behind_ok hz
  refine Snd.cmp (pe_chain (cm_sound c G.hu65) (cm_sound c2 G.hu65) ha.pe hb.pe hd.pe hm) (pt_chain (cm_sound c G.hu65) (cm_sound c2 G.hu65) ha.pe hb.pe hd.pe hm) (fun σ H Q q => ?_) (fun w d w' e => ?_) fun _ _ _ z => nomatch z
  · obtain ⟨A, w, S, r, w', e1, q⟩ := q
    obtain ⟨x, ea, e1⟩ := bd_split e1
    obtain ⟨y, eb, e1⟩ := bd_split e1
    obtain ⟨k, ec, e1⟩ := bd_split e1
    refine ⟨A, w, S, x.1, x.2, ea, fun A1 v H1 s1 S1 r1 => ⟨A1, x.2, S1, y.1, y.2, eb, fun A2 u H2 s2 S2 r2 => ⟨A2, y.2, σ, x.1, y.1, k, S2, r1.step s2.toCar, r2, of_split ec, k, rfl, ?_⟩⟩⟩
    cases k with
    | true =>
      rw [if_pos rfl] at e1 ⊢
      obtain ⟨z, ed, e1⟩ := bd_split e1
      obtain ⟨k2, ef, e1⟩ := bd_split e1
      cases e1
      refine ⟨A2, y.2, S2, z.1, z.2, ed, fun A3 t H3 s3 S3 r3 => ⟨A3, z.2, σ, y.1, z.1, k2, S3, r2.step s3.toCar, r3, of_split ef, ?_⟩⟩
      exact (q.step ((s1.trans s2).trans s3)).here S3 rfl
    | false =>
      rw [if_neg Bool.false_ne_true] at e1 ⊢
      cases e1
      exact (q.step (s1.trans s2)).here S2 rfl
  · obtain ⟨x, ea, e⟩ := bd_split e
    obtain ⟨y, eb, e⟩ := bd_split e
    obtain ⟨k, ec, e⟩ := bd_split e
    cases k with
    | true =>
      rw [if_pos rfl] at e
      obtain ⟨z, ed, e⟩ := bd_split e
      obtain ⟨k2, ef, e⟩ := bd_split e
      cases e
      exact ⟨k2, rfl⟩
    | false =>
      rw [if_neg Bool.false_ne_true] at e
      cases e
      exact ⟨false, rfl⟩
theorem evT_of {e : E} {w : Wd} {d : D} {w' : Wd} {b : Bool} (e1 : evE P e w = .ok (d, w')) (e2 : w'.tru d = some b) : evT P e w = .ok (b, w') := by
  show ((evE P e w).bd fun x => (R.of (x.2.tru x.1)).bd fun b => R.ok (b, x.2)) = _
  rw [e1, R.bd_ok, e2]
  rfl
theorem snd_ite (G : GX T P lv N sc top X) {c a b : E} {x y z : Expr} {pos : Pos} (hc : Snd X P c x) (ha : Snd X P a y) (hb : Snd X P b z) : Snd X P (.ite c a b) (.IfExp x y z pos) := by
  refine ⟨PEimp (pe_ifExp hc.pt ha.pe hb.pe) fun σ H Q q => ?_, ⟨fun pins s σ H Q I q => isTrue_IfExp ?_⟩, fun _ _ _ z => nomatch z⟩
  · obtain ⟨A, w, S, r, w', e1, q⟩ := q
    obtain ⟨x, ea, e1⟩ := bd_split e1
    obtain ⟨k, eb, e1⟩ := bd_split e1
    refine ⟨A, w, S, k, x.2, evT_of ea (of_split eb), fun A1 H1 s1 S1 => ?_⟩
    cases k with
    | true =>
      rw [if_pos rfl] at e1 ⊢
      exact ⟨A1, x.2, S1, r, w', e1, q.step s1⟩
    | false =>
      rw [if_neg Bool.false_ne_true] at e1 ⊢
      exact ⟨A1, x.2, S1, r, w', e1, q.step s1⟩
  · obtain ⟨A, w, S, r, w', e1, q⟩ := q
    obtain ⟨t, e2, e1⟩ := bd_split e1
    obtain ⟨k', e3, e1⟩ := bd_split e1
    cases e1
    obtain ⟨x, ea, e2⟩ := bd_split e2
    obtain ⟨k, eb, e2⟩ := bd_split e2
    refine thn (hc.pt.run pins s σ H (fun k H1 => if k = true then rdT X.K (evT P a) σ H1 Q else rdT X.K (evT P b) σ H1 Q) I ⟨A, w, S, k, x.2, evT_of ea (of_split eb), fun A1 H1 s1 S1 => ?_⟩) fun b s1 ⟨H1, I1, q1⟩ => ?_
    · cases k with
      | true =>
        rw [if_pos rfl] at e2 ⊢
        exact ⟨A1, x.2, S1, r, t.2, evT_of e2 (of_split e3), fun A2 H2 s2 S2 => q A2 H2 (s1.trans s2) S2⟩
      | false =>
        rw [if_neg Bool.false_ne_true] at e2 ⊢
        exact ⟨A1, x.2, S1, r, t.2, evT_of e2 (of_split e3), fun A2 H2 s2 S2 => q A2 H2 (s1.trans s2) S2⟩
    · cases b with
      | true => exact ha.pt.run pins s1 σ H1 Q I1 q1
      | false => exact hb.pt.run pins s1 σ H1 Q I1 q1
theorem snd_nil : PA X [] (rdA X.K (evEs P .nil)) := by
  refine PAimp pa_nil fun σ H Q q => ?_
  obtain ⟨A, w, S, ds, w', e, q⟩ := q
  cases e
  exact q A [] H (Step.refl A H) S rfl
theorem rdCons {fa : Wd → R (D × Wd)} {fb : Wd → R (List D × Wd)} (σ : Sl) (H : Hp) (Q : List V → Hp → Prop) (q : rdA X.K (fun w => (fa w).bd fun x => (fb x.2).bd fun y => .ok (x.1 :: y.1, y.2)) σ H Q) : tCons (rd X.K fa) (rdA X.K fb) σ H Q := by
  obtain ⟨A, w, S, ds, w', e1, q⟩ := q
  obtain ⟨x, ea, e1⟩ := bd_split e1
  obtain ⟨y, eb, e1⟩ := bd_split e1
  cases e1
  refine ⟨A, w, S, x.1, x.2, ea, fun A1 v H1 s1 S1 r1 => ⟨A1, x.2, S1, y.1, y.2, eb, fun A2 vs H2 s2 S2 r2 => ?_⟩⟩
  exact q A2 (v :: vs) H2 (s1.trans s2) S2 ⟨v, vs, rfl, r1.step s2.toCar, r2⟩
theorem snd_cons {e : E} {r : Es} {x : Expr} {xs : List Expr} (he : PE X x (rd X.K (evE P e))) (hr : PA X xs (rdA X.K (evEs P r))) (hx : okX x = true) : PA X (x :: xs) (rdA X.K (evEs P (.cons e r))) :=
  PAimp (pa_cons he hr (starEach_cons hx)) rdCons
theorem snd_tup {es : Es} {xs : List Expr} {k : Nat} {pos : Pos} (h : PA X xs (rdA X.K (evEs P es))) : PE X (.Tuple xs k pos) (rd X.K (evE P (.tup es))) := by
  refine PEimp (pe_tup h) fun σ H Q q => ?_
  obtain ⟨A, w, S, d, w', e1, q⟩ := q
  obtain ⟨x, ea, e1⟩ := bd_split e1
  exact ⟨A, w, S, x.1, x.2, ea, fun A1 vs H1 s1 S1 r1 => Aft.newT e1 S1 r1 (q.step s1)⟩
theorem snd_lst {es : Es} {xs : List Expr} {md : Nat} {pos : Pos} (h : PA X xs (rdA X.K (evEs P es))) : PE X (.List xs pos) (rd X.K (evE P (.lst md es))) := by
  refine PEimp (pe_lst h) fun σ H Q q => ?_
  obtain ⟨A, w, S, d, w', e1, q⟩ := q
  obtain ⟨x, ea, e1⟩ := bd_split e1
  exact ⟨A, w, S, x.1, x.2, ea, fun A1 vs H1 s1 S1 r1 => Aft.newL e1 S1 r1 (q.step s1)⟩
/-- an index, by values -/
def rIxD (K : PySem.W.Frag) : R2 := fun x y H Q => ∃ p xs i v, x = .ref p ∧ y = .int i ∧ (SqL K H p xs ∨ SqT K H p xs) ∧ atI xs i = some v ∧ Q v H
/-- .. of a dict -/
def rIxK : R2 := fun x y H Q => ∃ p kvs k v, x = .ref p ∧ y = .str k ∧ H p = some (.dK kvs) ∧ valV kvs (.inr k) = some v ∧ Q v H
theorem ix_dK (hu : X.A.units + 1 < cLine) : IxR X rIxK := by
  intro value slice pins s σ H x y v u Q I rx ry h hs
  obtain ⟨p, kvs, k, r, rfl, rfl, e, l, q⟩ := h
  obtain rfl : v = Value.ref p := rx
  have g : DGet H p (.str k) (some r) := by
    have := DGet.k (k := .inr k) e
    rw [l] at this
    exact this
  refine tail_any (dict_typeIs I g) PySem.F.slot_dict_getitem.lookup (d_getItem hu I g ry fun w' s' I' rw' => ?_) hs
  exact ⟨r, H, I', rw', q⟩
theorem ix_any : IxR X (rIxD X.K) := by
  intro value slice pins s σ H x y v u Q I rx ry h hs
  obtain ⟨p, xs, i, z, e1, e2, hq, he, q⟩ := h
  rcases hq with hq | hq
  · exact ix_list value slice pins s σ H x y v u Q I rx ry ⟨p, xs, i, z, e1, e2, hq, he, q⟩ hs
  · exact ix_tup value slice pins s σ H x y v u Q I rx ry ⟨p, xs, i, z, e1, e2, hq, he, q⟩ hs
theorem snd_ix {a i : E} {x y : Expr} {pos : Pos} (hu : X.A.units + 1 < cLine) (ha : Snd X P a x) (hi : Snd X P i y) (hy : okX y = true) : PE X (.Subscript x y pos) (rd X.K (evE P (.ix a i))) := by
  refine PEimp (pe_ix (ix_any.or (ix_dK hu)) ha.pe hi.pe (plainIx_ok hy)) (rd2 (k := fun d e w => match e with
    | .int k => (R.of (w.seq d)).bd fun xs => (R.of ((ixI xs.length k).bind fun j => xs[j]?)).bd fun d => .ok (d, w)
    | .str k => (R.of (dicL d k)).bd fun d => .ok (d, w)
    | _ => .err) fun A w σ d e r' w' x y H Q S r1 r2 e1 q => ?_)
  cases e with
  | int k =>
    obtain ⟨xs, ea, e1⟩ := bd_split e1
    obtain ⟨d', eb, e1⟩ := bd_split e1
    cases e1
    obtain ⟨a, vs, rfl, rs, hq⟩ := S.seq r1 (of_split ea)
    obtain ⟨j, e3, e4⟩ := Option.bind_eq_some_iff.mp (of_split eb)
    obtain ⟨v, hv, rv⟩ := rs.get e4
    refine .inl ⟨a, vs, k, v, rfl, r2, ?_, ?_, q.here S rv⟩
    · rcases hq with ⟨_, hq⟩ | ⟨_, hq⟩
      · exact .inr hq
      · exact .inl hq
    · show (ixN vs.length k).bind (fun j => vs[j]?) = some v
      rw [rs.length]
      exact Option.bind_eq_some_iff.mpr ⟨j, e3, hv⟩
  | str k =>
    obtain ⟨d', eb, e1⟩ := bd_split e1
    cases e1
    have eb := of_split eb
    cases d with
    | dic ks ds =>
      obtain ⟨a, rfl, _, _, h⟩ := r1
      rcases h with ⟨rfl, rfl, _⟩ | ⟨kvs, q1, z, r⟩
      · cases eb
      obtain ⟨v, e2, rv⟩ := lkp_at z.2.2 r eb
      exact .inr ⟨a, kvs, k, v, rfl, r2, q1, e2, q.here S rv⟩
    | _ => cases eb
  | _ => cases e1
/-- a part of a slice -/
def rdO (K : PySem.W.Frag) (f : Wd → R (Option Int × Wd)) : TO := fun σ H Q => ∃ A w, Sim K H A w σ ∧ ∃ o w', f w = .ok (o, w') ∧ ∀ A' H', Step A H A' H' → Sim K H' A' w' σ → Q o H'
theorem POimp {e : Option Expr} {t t' : TO} (h : PO X e t) (i : ∀ σ H Q, t' σ H Q → t σ H Q) : PO X e t' := ⟨fun pins s σ H Q I q => h.run pins s σ H Q I (i σ H Q q)⟩
theorem snd_ono : PO X none (rdO X.K (evO P .no)) := by
  refine POimp po_none fun σ H Q q => ?_
  obtain ⟨A, w, S, o, w', e1, q⟩ := q
  cases e1
  exact q A H (Step.refl A H) S
theorem snd_oso {e : E} {x : Expr} (h : PE X x (rd X.K (evE P e))) : PO X (some x) (rdO X.K (evO P (.so e))) := by
  refine POimp (po_some h) fun σ H Q q => ?_
  obtain ⟨A, w, S, o, w', e1, q⟩ := q
  obtain ⟨x, ea, e1⟩ := bd_split e1
  refine ⟨A, w, S, x.1, x.2, ea, fun A1 v H1 s1 S1 r1 => ?_⟩
  obtain ⟨d1, w1⟩ := x
  cases d1 with
  | int i =>
    cases e1
    exact ⟨i, r1, q A1 H1 s1 S1⟩
  | _ => cases e1
theorem snd_sl {md : Nat} {a : E} {lo hi : Oe} {x : Expr} {xl xh : Option Expr} {p2 pos : Pos} (ha : PE X x (rd X.K (evE P a))) (hl : PO X xl (rdO X.K (evO P lo))) (hh : PO X xh (rdO X.K (evO P hi))) :
    PE X (.Subscript x (.Slice xl xh none p2) pos) (rd X.K (evE P (.sl md a lo hi))) := by
  refine PEimp (pe_slice (sl_list.or sl_tupA) ha hl hh) fun σ H Q q => ?_
  obtain ⟨A, w, S, d, w', e1, q⟩ := q
  obtain ⟨x, ea, e1⟩ := bd_split e1
  obtain ⟨l, el, e1⟩ := bd_split e1
  obtain ⟨h, eh, e1⟩ := bd_split e1
  obtain ⟨xs, ex, e1⟩ := bd_split e1
  refine ⟨A, w, S, x.1, x.2, ea, fun A1 v H1 s1 S1 r1 => ⟨A1, x.2, S1, l.1, l.2, el, fun A2 H2 s2 S2 => ⟨A2, l.2, S2, h.1, h.2, eh, fun A3 H3 s3 S3 => ?_⟩⟩⟩
  have r3 := (r1.step s2.toCar).step s3.toCar
  obtain ⟨a, vs, rfl, rs, hq⟩ := S3.seq r3 (of_split ex)
  have q3 := q.step ((s1.trans s2).trans s3)
  rcases hq with ⟨ht, hq⟩ | ⟨ht, hq⟩
  · rw [ht, if_pos rfl] at e1
    obtain ⟨_, qn⟩ := Aft.newT e1 S3 (rs.cutD l.1 h.1) q3
    obtain ⟨rfl, rfl, _⟩ := newT_ok e1 (rs.cutD l.1 h.1)
    refine .inr ⟨a, vs, rfl, hq, fun z => q3.here S3 ⟨a, vs, rfl, hq, ?_⟩, fun _ => qn⟩
    have e : cut xs l.1 h.1 = xs := by
      unfold cut
      rw [← rs.length, z.1, z.2, List.drop_zero, Nat.sub_zero, rs.length, List.take_length]
    rw [e]
    exact rs
  · rw [ht, if_neg Bool.false_ne_true] at e1
    obtain ⟨_, qn⟩ := Aft.newL e1 S3 (rs.cutD l.1 h.1) q3
    exact .inl ⟨a, vs, rfl, hq, qn⟩
theorem snd_rev {md : Nat} {a : E} {x : Expr} {k : Nat} {p1 p2 p3 pos : Pos} (ha : PE X x (rd X.K (evE P a))) : PE X (.Subscript x (.Slice none none (some (.UnaryOp .USub (.Constant (.int 1) k p1) p2)) p3) pos) (rd X.K (evE P (.rev md a))) := by
  refine PEimp (pe_revA ha) fun σ H Q q => ?_
  obtain ⟨A, w, S, d, w', e1, q⟩ := q
  obtain ⟨x, ea, e1⟩ := bd_split e1
  obtain ⟨xs, ex, e1⟩ := bd_split e1
  refine ⟨A, w, S, x.1, x.2, ea, fun A1 v H1 s1 S1 r1 => ?_⟩
  obtain ⟨a, vs, rfl, rs, hq⟩ := S1.seq r1 (of_split ex)
  rcases hq with ⟨ht, hq⟩ | ⟨ht, hq⟩
  · rw [ht, if_pos rfl] at e1
    obtain ⟨_, qn⟩ := Aft.newT e1 S1 rs.reverse (q.step s1)
    exact ⟨a, vs, rfl, .inr ⟨hq, qn⟩⟩
  · rw [ht, if_neg Bool.false_ne_true] at e1
    obtain ⟨_, qn⟩ := Aft.newL e1 S1 rs.reverse (q.step s1)
    exact ⟨a, vs, rfl, .inl ⟨hq, qn⟩⟩
theorem bi_boot (b : Bi) : bootBuiltins (biName b) = some (biV b) ∧ (biName b ≠ "__name__") ∧ (biName b == ("__debug__" : Str)) = false := by
  cases b <;> exact ⟨by decide +kernel, by decide, by decide⟩
theorem snd_bi (G : GX T P lv N sc top X) {b : Bi} {md : Nat} {es : Es} {x : Expr} {xs : List Expr} {p pos : Pos} (h : PA X (x :: xs) (rdA X.K (evEs P es))) (hg : sc.names.lookup (biName b) = some .globalImplicit) (hf : biName b ∈ T.free) (hx : (x :: xs).all okX = true) :
    PE X (.Call (.Name (biName b) p) (x :: xs) [] pos) (rd X.K (evE P (.bi b md es))) := by
  have hs := bi_sound (X := X) b md G.calm G.dig G.gd G.hu
  obtain ⟨b1, b2, b3⟩ := bi_boot b
  have gl : Gl X (biName b) := by show X.env.kindOf _ = _; unfold Env.kindOf; rw [G.sco]; exact hg
  have key : ∀ σ H Q, rd X.K (evE P (.bi b md es)) σ H Q → tCB (rBi X.K b md) (rdA X.K (evEs P es)) σ H Q := fun σ H Q q => by
    obtain ⟨A, w, S, d, w', e1, q⟩ := q
    obtain ⟨y, ea, e1⟩ := bd_split e1
    exact ⟨A, w, S, y.1, y.2, ea, fun A1 vs H1 s1 S1 r1 => ⟨A1, y.2, σ, y.1, d, w', S1, r1, e1, q.step s1⟩⟩
  obtain ⟨o1, o2⟩ := Bool.and_eq_true_iff.mp (show (okX x && xs.all okX) = true from hx)
  unfold biV at hs b1
  by_cases ht : biTy b = true
  · rw [if_pos ht] at hs b1
    exact PEimp (pe_callTy hs gl (G.free _ hf) b1 h b2 b3 (starEach_cons o1) (noStars o2)) key
  · rw [if_neg ht] at hs b1
    exact PEimp (pe_callB hs gl (G.free _ hf) b1 h b2 b3 (starEach_cons o1) (noStars o2)) key
end
end Fz

/-! Q11b: a dict's display. -/
namespace Fz
open PySem PySem.Spec PyProof.Rows L2
section
variable {K : PySem.W.Frag} {H H' : Hp} {A : Ad} {p : Addr} {w : Wd} {σ : Sl}
theorem SqT.fill {a : Addr} {vs : List V} (k : ∀ a o, a ≠ p → H a = some o → H' a = some o) (e : H p = some (.dK [])) (h : SqT K H a vs) : SqT K H' a vs := by
  rcases h with (h | ⟨o, h⟩) | h
  · exact .inl (.inl (k _ _ (fun z => by subst z; rw [e] at h; cases h) h))
  · exact .inl (.inr ⟨o, k _ _ (fun z => by subst z; rw [e] at h; cases h) h⟩)
  · exact .inr h
theorem SqF.fill {a : Addr} {vs : List V} (k : ∀ a o, a ≠ p → H a = some o → H' a = some o) (e : H p = some (.dK [])) (h : SqF K H a vs) : SqF K H' a vs := by
  rcases h with ⟨o, h⟩ | h
  · exact .inl ⟨o, k _ _ (fun z => by subst z; rw [e] at h; cases h) h⟩
  · exact .inr h
mutual
theorem RD.fill (k : ∀ a o, a ≠ p → H a = some o → H' a = some o) (e : H p = some (.dK [])) : ∀ (d : D) (v : V), RD K H A d v → RD K H' A d v
  | .non, _, h => h
  | .bl _, _, h => h
  | .int _, _, h => h
  | .str _, _, h => h
  | .tup ds, _, h => by
    obtain ⟨a, vs, e1, q, r⟩ := h
    exact ⟨a, vs, e1, SqT.fill k e q, RDs.fill k e ds vs r⟩
  | .lst ds, _, h => by
    obtain ⟨a, vs, e1, q, x, z, r⟩ := h
    exact ⟨a, vs, e1, k _ _ (fun z => by subst z; rw [e] at q; cases q) q, x, z, RDs.fill k e ds vs r⟩
  | .fl ds, _, h => by
    obtain ⟨a, vs, e1, q, x, r⟩ := h
    exact ⟨a, vs, e1, k _ _ (fun z => by subst z; rw [e] at q; cases q) q, x, RDs.fill k e ds vs r⟩
  | .sc ds, _, h => by
    obtain ⟨a, vs, e1, q, r⟩ := h
    exact ⟨a, vs, e1, SqF.fill k e q, RDs.fill k e ds vs r⟩
  | .ref _, _, h => h
  | .g _, _, h => h
  | .dic ks ds, _, h => by
    obtain ⟨a, e1, x, z, h⟩ := h
    rcases h with ⟨k0, d0, q⟩ | ⟨kvs, q, y, r⟩
    · refine ⟨a, e1, x, z, .inl ⟨k0, d0, k _ _ (fun z => ?_) q⟩⟩
      subst z
      rw [e] at q
      cases q
    refine ⟨a, e1, x, z, .inr ⟨kvs, k _ _ (fun z => ?_) q, y, RDs.fill k e ds _ r⟩⟩
    subst z
    rw [e] at q
    cases q
    exact y.1 (List.map_eq_nil_iff.mp y.2.2.symm)
theorem RDs.fill (k : ∀ a o, a ≠ p → H a = some o → H' a = some o) (e : H p = some (.dK [])) : ∀ (ds : List D) (vs : List V), RDs K H A ds vs → RDs K H' A ds vs
  | [], _, h => h
  | d :: ds, _, h => by
    obtain ⟨v, r, e1, x, y⟩ := h
    exact ⟨v, r, e1, RD.fill k e d v x, RDs.fill k e ds r y⟩
end
theorem Sim.fill (S : Sim K H A w σ) (k : ∀ a o, a ≠ p → H a = some o → H' a = some o) (e : H p = some (.dK [])) (hp : ∃ o, H' p = some o) (hm : p ∉ A.mu ∧ p ∉ A.ga) : Sim K H' A w σ where
  loc := fun i d q => let ⟨v, e1, r⟩ := S.loc i d q; ⟨v, e1, RD.fill k e d v r⟩
  len := S.len
  mu := RL.carry (fun xs vs h => RDs.fill k e xs vs h) (fun a ha o h => k a _ (fun z => hm.1 (z ▸ ha)) h) S.mu
  ga := RL.carry (fun xs vs h => RDs.fill k e xs vs h) (fun a ha o h => k a _ (fun z => hm.2 (z ▸ ha)) h) S.ga
  nd := S.nd
  ndg := S.ndg
  dj := S.dj
  djg := S.djg
  bt := fun a h => let ⟨o, q⟩ := S.bt a h; if z : a = p then z ▸ hp else ⟨o, k a o z q⟩
  cnt := fun a h => let ⟨vs, q⟩ := S.cnt a h; ⟨vs, k a _ (fun z => by subst z; rw [e] at q; cases q) q⟩
  cnd := S.cnd
  gk := S.gk
end
section
variable {X : Cx} {P : Pg}
/-- the keys, constants; the items' rules -/
inductive PrOk (X : Cx) (P : Pg) : List Str → Es → List (Option Expr) → List Expr → Prop where
  | nil : PrOk X P [] .nil [] []
  | cons {k : Str} {ks : List Str} {e : E} {es : Es} {j} {kp : Pos} {x : Expr} {keys : List (Option Expr)} {vals : List Expr} (h : PE X x (rd X.K (evE P e))) (r : PrOk X P ks es keys vals) : PrOk X P (k :: ks) (.cons e es) (some (.Constant (.str k) j kp) :: keys) (x :: vals)
theorem PrOk.run {pos : Pos} {ks : List Str} {es : Es} {keys : List (Option Expr)} {vals : List Expr} (h : PrOk X P ks es keys vals) : keys.all (·.isSome) = true ∧ keys.length = vals.length ∧ keys.length = ks.length ∧ ∃ trs, PPs X pos keys vals trs ∧
    ∀ σ H Q A w ds w', Sim X.K H A w σ → evEs P es w = .ok (ds, w') → (∀ A' vs H', Step A H A' H' → Sim X.K H' A' w' σ → RDs X.K H' A' ds vs → vs.length = ks.length → Q ((ks.map V.str).zip vs) H') → tPairs trs σ H Q := by
  induction h with
  | nil =>
    refine ⟨rfl, rfl, rfl, [], pps_nil, fun σ H Q A w ds w' S e q => ?_⟩
    cases e
    exact q A [] H (Step.refl A H) S rfl rfl
  | @cons k ks e es j kp x keys vals h r ih =>
    obtain ⟨i1, i2, i3, trs, ip, it⟩ := ih
    refine ⟨by simpa using i1, by simp [i2], by simp [i3], _, pps_cons pe_str h ip, fun σ H Q A w ds w' S ev q => ?_⟩
    obtain ⟨a, ea, ev⟩ := bd_split (show ((evE P e w).bd fun x => (evEs P es x.2).bd fun y => R.ok (x.1 :: y.1, y.2)) = .ok (ds, w') from ev)
    obtain ⟨b, eb, ev⟩ := bd_split ev
    cases ev
    show rd X.K (evE P e) σ H _
    refine ⟨A, w, S, a.1, a.2, ea, fun A1 v H1 s1 S1 r1 => it σ H1 _ A1 a.2 b.1 b.2 S1 eb fun A2 vs H2 s2 S2 r2 hl => ?_⟩
    exact q A2 (v :: vs) H2 (s1.trans s2) S2 (RDs.cons_iff.mpr ⟨r1.step s2.toCar, r2⟩) (by simp [hl])
theorem snd_dis {ks : List Str} {es : Es} {keys : List (Option Expr)} {vals : List Expr} {pos : Pos} (h : PrOk X P ks es keys vals) (h0 : keys ≠ []) (h15 : keys.length ≤ 15) : PE X (.Dict keys vals pos) (rd X.K (evE P (.dis ks es))) := by
  obtain ⟨i1, i2, i3, trs, ip, it⟩ := h.run (pos := pos)
  refine PEimp (pe_disp ip i1 i2 h0 h15) fun σ H Q q => ?_
  obtain ⟨A, w, S, d, w', e1, q⟩ := q
  obtain ⟨x, ea, e1⟩ := bd_split (show ((evEs P es w).bd fun x => if ks.Nodup ∧ ks ≠ [] ∧ ks.length ≤ 15 ∧ ks.length = x.1.length then R.ok (.dic ks x.1, x.2) else R.err) = .ok (d, w') from e1)
  split at e1
  case isFalse => cases e1
  rename_i hk
  cases e1
  intro p hp
  obtain ⟨⟨f1, f2, f4⟩, f3⟩ := S.fresh hp
  refine it σ (upd H p (.dK [])) _ A w x.1 x.2 (S.new hp) ea fun A1 vs H1 s1 S1 r1 hl => ?_
  obtain ⟨e2, o2⟩ := s1.kept p (.dK []) upd_same ⟨f1, f2, f4⟩
  have hz : (((ks.map Sum.inr).zip vs : List (Key × V)).map Prod.fst) = ks.map Sum.inr := List.map_fst_zip (by simp [hl])
  have hz2 : (((ks.map Sum.inr).zip vs : List (Key × V)).map Prod.snd) = vs := List.map_snd_zip (by simp [hl])
  refine ⟨e2, (ks.map Sum.inr).zip vs, ?_, ?_, ?_⟩
  · have hkv : ∀ (ks : List Str) (vs : List V), (ks.map V.str).zip vs = ((ks.map Sum.inr).zip vs : List (Key × V)).map (fun kv => (kV kv.1, kv.2)) := by
      intro ks
      induction ks with
      | nil => intro vs; rfl
      | cons k ks ih =>
        intro vs
        cases vs with
        | nil => rfl
        | cons v vs => simp only [List.map_cons, List.zip_cons_cons, ih vs]; rfl
    exact hkv ks vs
  · simp [hl]; omega
  · have hnd : (((ks.map Sum.inr).zip vs : List (Key × V)).map Prod.fst).Nodup := by
      rw [hz]
      exact List.nodup_iff_pairwise_ne.mpr (List.pairwise_map.mpr ((List.nodup_iff_pairwise_ne.mp hk.1).imp fun h z => h (Sum.inr.inj z)))
    rw [mergeK_nil hnd]
    generalize hkvs : (ks.map Sum.inr).zip vs = kvs at hz hz2 hnd
    have kk : ∀ a o, a ≠ p → H1 a = some o → upd H1 p (.dK kvs) a = some o := fun a o n e => by rw [upd_ne n]; exact e
    have hne : ∀ {a : Addr} {o : HO}, H a = some o → a ≠ p := fun {a o} e z => by subst z; rw [hp] at e; cases e
    refine q A1 (.ref p) (upd H1 p (.dK kvs)) ⟨⟨fun a o e x => ?_, fun a vs e => ?_, fun a o u e => ?_, s1.mu, s1.ga, s1.bad⟩, s1.cn, fun a ha => ?_⟩ (S1.fill kk e2 ⟨_, upd_same⟩ ⟨o2.1, o2.2.1⟩) ?_
    · obtain ⟨y1, y2⟩ := s1.kept a o (upd_some hp e) x
      exact ⟨kk a o (hne e) y1, y2⟩
    · exact kk a _ (hne e) (s1.tup a vs (upd_some hp e))
    · exact kk a _ (hne e) (s1.frz a o u (upd_some hp e))
    · have hap : a ≠ p := fun z => f4 (z ▸ ha)
      rw [upd_ne hap, s1.cnk a ha, upd_ne hap]
    · refine ⟨p, rfl, o2, by rw [s1.bad]; exact f3, .inr ⟨kvs, upd_same, ⟨hk.2.1, hk.1, hz⟩, ?_⟩⟩
      rw [hz2]
      exact RDs.fill kk e2 x.1 vs r1
end
end Fz

/-! Q12: calls, methods, comprehensions; the checker of expressions and what it gives. -/
namespace Fz
open PySem PySem.Spec PyProof.Rows L2

/-- the receiver of a method -/
def okA : Expr → Bool
  | .Call (.Name _ _) [] [] _ => false
  | _ => true
theorem attr_ok {o : Expr} {n : Str} {env : Env} {w : Sem Value} (h : okA o = true) : attributeBase o n env w = w := by
  unfold attributeBase
  split
  · rename_i h2
    first
      | cases h
      | (subst h2; cases h)
      | (simp [okA] at h)
  · rfl
def kwN : List Keyword → Option (List Str)
  | [] => some []
  | ⟨some x, _, _⟩ :: r => (kwN r).map fun xs => x :: xs
  | ⟨none, _, _⟩ :: _ => none
theorem kwN_ok {pos : Pos} {env : Env} : ∀ {kws : List Keyword} {ks : List Str}, kwN kws = some ks → (backToKw pos (keywordEach kws env)).all (·.1.isSome) = true ∧ (backToKw pos (keywordEach kws env)).filterMap (·.1) = ks ∧ (backToKw pos (keywordEach kws env)).any (·.1.isNone) = false ∧ kws.length = ks.length
  | [], _, e => by cases e; exact ⟨rfl, rfl, rfl, rfl⟩
  | ⟨some x, v, p⟩ :: r, _, e => by
    obtain ⟨xs, e1, rfl⟩ := Option.map_eq_some_iff.mp (show (kwN r).map (fun xs => x :: xs) = some _ from e)
    obtain ⟨h1, h2, h3, h4⟩ := kwN_ok (pos := pos) (env := env) e1
    refine ⟨h1, ?_, h3, by rw [List.length_cons, List.length_cons, h4]⟩
    show x :: (backToKw pos (keywordEach r env)).filterMap (·.1) = x :: xs
    rw [h2]
  | ⟨none, _, _⟩ :: _, _, e => nomatch e
section
variable {T : Tb} {P : Pg} {lv : Nat} {N : List Str} {sc : Scope} {top : Option Scope} {X : Cx}
theorem PKimp {e : List Keyword} {t t' : TA} (h : PK X e t) (i : ∀ σ H Q, t' σ H Q → t σ H Q) : PK X e t' := ⟨fun pos pins s σ H Q I q => h.run pos pins s σ H Q I (i σ H Q q)⟩
theorem snd_knil : PK X [] (rdA X.K (evEs P .nil)) := by
  refine PKimp pk_nil fun σ H Q q => ?_
  obtain ⟨A, w, S, ds, w', e, q⟩ := q
  cases e
  exact q A [] H (Step.refl A H) S rfl
theorem snd_kcons {e : E} {r : Es} {x : Expr} {nm : Option Str} {kp : Pos} {ks : List Keyword} (he : PE X x (rd X.K (evE P e))) (hr : PK X ks (rdA X.K (evEs P r))) : PK X (⟨nm, x, kp⟩ :: ks) (rdA X.K (evEs P (.cons e r))) :=
  PKimp (pk_cons he hr) rdCons
/-- the lists' lengths are those of the terms -/
def Es.len : Es → Nat
  | .nil => 0
  | .cons _ r => r.len + 1
theorem evEs_len : ∀ {es : Es} {w : Wd} {ds : List D} {w' : Wd}, evEs P es w = .ok (ds, w') → ds.length = es.len
  | .nil, _, _, _, e => by cases e; rfl
  | .cons e r, w, ds, w', h => by
    obtain ⟨x, _, h⟩ := bd_split (show ((evE P e w).bd fun x => (evEs P r x.2).bd fun y => R.ok (x.1 :: y.1, y.2)) = .ok (ds, w') from h)
    obtain ⟨y, h2, h⟩ := bd_split h
    cases h
    show y.1.length + 1 = r.len + 1
    rw [evEs_len h2]
theorem arr_length : ∀ {p : List Nat} {ds es : List D}, arr p ds = some es → es.length = p.length
  | [], _, _, e => by cases e; rfl
  | i :: p, ds, es, e => by
    simp only [arr, Option.bind_eq_some_iff, Option.map_eq_some_iff] at e
    obtain ⟨v, _, ys, e2, rfl⟩ := e
    rw [List.length_cons, List.length_cons, arr_length e2]
def arity : Option (List Nat) → Nat → Nat
  | none, n => n
  | some p, _ => p.length
theorem snd_call (G : GX T P lv N sc top X) {j : Nat} {dd : Str × List Str} {pm : Option (List Nat)} {es ks : Es} {xs : List Expr} {kws : List Keyword} {kn : List Str} {p pos : Pos} (hj : T.defs[j]? = some dd) (hlv : j < lv) (hg : sc.names.lookup dd.1 = some .globalImplicit) (hd : (dd.1 == ("__debug__" : Str)) = false)
    (h1 : PA X xs (rdA X.K (evEs P es))) (h2 : PK X kws (rdA X.K (evEs P ks))) (hx : xs.all okX = true) (hk : kwN kws = some kn) (hb : (j, xs.length, kn, pm) ∈ T.binds) (l1 : es.len = xs.length) (l2 : ks.len = kws.length)
    (hl : arity pm (xs.length + kws.length) = dd.2.length) : PE X (.Call (.Name dd.1 p) xs kws pos) (rd X.K (evE P (.call j pm es ks))) := by
  obtain ⟨f, hm, hkp, run⟩ := call_sound G hj hlv
  refine ⟨fun pins s σ H Q I q => ?_⟩
  obtain ⟨A, w, S, d, w', e1, q⟩ := q
  obtain ⟨x, ea, e1⟩ := bd_split e1
  obtain ⟨y, eb, e1⟩ := bd_split e1
  obtain ⟨as, ec, e1⟩ := bd_split e1
  obtain ⟨bs, ed, e1⟩ := bd_split e1
  obtain ⟨r, ef, e1⟩ := bd_split e1
  cases e1
  have gl : Gl X dd.1 := by show X.env.kindOf _ = _; unfold Env.kindOf; rw [G.sco]; exact hg
  refine wpAny_Call_Name_kw (ld_glob I gl hm ?_ hd)
  obtain ⟨k1, k2, k3, k4⟩ := kwN_ok (pos := pos) (env := X.env) hk
  have l1' := evEs_len ea
  have l2' := evEs_len eb
  have lb : bs.length = dd.2.length := by
    rw [← hl]
    cases pm with
    | none =>
      have e := of_split ed
      cases e
      have : ∀ {ρ : Nat → Option D} {φ : Bool} {ds es : List D}, rsL ρ φ ds = some es → es.length = ds.length := fun {ρ φ ds} => by
        induction ds with
        | nil => intro es e; cases e; rfl
        | cons d ds ih =>
          intro es e
          simp only [rsL, Option.bind_eq_some_iff, Option.map_eq_some_iff] at e
          obtain ⟨_, _, ys, e2, rfl⟩ := e
          rw [List.length_cons, List.length_cons, ih e2]
      rw [this (of_split ec), List.length_append, l1', l2', l1, l2]
      rfl
    | some pp => exact arr_length (of_split ed)
  have fin : ∀ (A1 A2 : Ad) (H1 H2 : Hp) (s2 : Shared) (us ws : List Value) (vs zs : List V), Inv X pins σ H2 s2 → Step A H A1 H1 → Step A1 H1 A2 H2 → Vals vs us → Vals zs ws → RDs X.K H1 A1 x.1 vs → Sim X.K H2 A2 y.2 σ → RDs X.K H2 A2 y.1 zs →
      wpAny (model X.prog X.w) X.A (call (.ref f) us (kn.zip ws)) (EP X pins σ Q) X.xe s2 := fun A1 A2 H1 H2 s2 us ws vs zs I2 st1 st2 r1 r2 q1 S2 q2 =>
    run xs.length kn pm hb pins s2 σ H2 Q us ws vs zs A2 y.2 x.1 y.1 as bs r.1 r.2 I2 r1 r2 S2 (q1.step st2.toCar) q2 (l1'.trans l1) (by rw [l2', l2, k4]) (of_split ec) (of_split ed) lb ef (q.step (st1.trans st2))
  have e0 : ∀ (s1 : Shared), Inv X pins σ H s1 → xs = [] → x.1 = [] := fun _ _ z => by
    have : x.1.length = 0 := by rw [l1', l1, z]; rfl
    exact List.length_eq_zero_iff.mp this
  cases xs with
  | nil =>
    -- no positional values
    have hx0 := e0 s I rfl
    have hw0 : x.2 = w := by
      cases es with
      | nil => cases ea; rfl
      | cons _ _ => cases l1
    rw [hw0] at eb
    cases kws with
    | nil =>
      cases hk
      have hy0 : y.1 = [] := List.length_eq_zero_iff.mp (by rw [l2', l2]; rfl)
      have hw1 : y.2 = w := by
        cases ks with
        | nil => cases eb; rfl
        | cons _ _ => cases l2
      refine PySem.W.callWith_K0 I.kIn hkp ?_
      exact fin A A H H s [] [] [] [] I (Step.refl A H) (Step.refl A H) .nil .nil (by rw [hx0]; exact rfl) (by rw [hw1]; exact S) (by rw [hy0]; exact rfl)
    | cons k0 kws =>
      refine PySem.W.callWith_KW0 (h₀ := X.base) I.ok.mod.kin hkp k1 (thn (h2.run pos pins s σ H (fun zs H2 => ∃ A2, Step A H A2 H2 ∧ Sim X.K H2 A2 y.2 σ ∧ RDs X.K H2 A2 y.1 zs) I ⟨A, w, S, y.1, y.2, eb, fun A2 zs H2 st S2 r2 => ⟨A2, st, S2, r2⟩⟩) fun ws s2 ⟨zs, H2, I2, rz, A2, st, S2, r2⟩ => ⟨I2.kIn, ?_⟩) (by show (false || _) = false; rw [k3]; rfl)
      rw [k2]
      exact fin A A2 H H2 s2 [] ws [] zs I2 (Step.refl A H) st .nil rz (by rw [hx0]; exact rfl) S2 r2
  | cons x0 xs =>
    obtain ⟨o1, o2⟩ := Bool.and_eq_true_iff.mp (show (okX x0 && xs.all okX) = true from hx)
    have np : (backTo pos (starEach (x0 :: xs) X.env)).any (·.1) = false := noStars hx
    have main : wpAny (model X.prog X.w) X.A (spliced (backTo pos (starEach (x0 :: xs) X.env))) (AP X pins σ fun vs H1 => ∃ A1, Step A H A1 H1 ∧ Sim X.K H1 A1 x.2 σ ∧ RDs X.K H1 A1 x.1 vs) X.xe s :=
      h1.run pos pins s σ H _ I ⟨A, w, S, x.1, x.2, ea, fun A1 vs H1 st S1 r1 => ⟨A1, st, S1, r1⟩⟩
    cases kws with
    | nil =>
      cases hk
      have hy0 : y.1 = [] := List.length_eq_zero_iff.mp (by rw [l2', l2]; rfl)
      have hw1 : y.2 = x.2 := by
        cases ks with
        | nil => cases eb; rfl
        | cons _ _ => cases l2
      refine PySem.W.callWith_K (h₀ := X.base) I.ok.mod.kin hkp (thn main fun us s1 ⟨vs, H1, I1, rv, A1, st, S1, r1⟩ => ⟨I1.kIn, ?_⟩) (starEach_cons o1) (noStars o2)
      exact fin A1 A1 H1 H1 s1 us [] vs [] I1 st (Step.refl A1 H1) rv .nil r1 (by rw [hw1]; exact S1) (by rw [hy0]; exact rfl)
    | cons k0 kws =>
      refine PySem.W.callWith_KW (h₀ := X.base) I.ok.mod.kin hkp k1 (thn main fun us s1 ⟨vs, H1, I1, rv, A1, st, S1, r1⟩ => ?_) (by rw [np, k3]; rfl) (starEach_cons o1)
      refine thn (h2.run pos pins s1 σ H1 (fun zs H2 => ∃ A2, Step A1 H1 A2 H2 ∧ Sim X.K H2 A2 y.2 σ ∧ RDs X.K H2 A2 y.1 zs) I1 ⟨A1, x.2, S1, y.1, y.2, eb, fun A2 zs H2 st S2 r2 => ⟨A2, st, S2, r2⟩⟩) fun ws s2 ⟨zs, H2, I2, rz, A2, st2, S2, r2⟩ => ⟨I2.kIn, ?_⟩
      rw [k2]
      exact fin A1 A2 H1 H2 s2 us ws vs zs I2 st st2 rv rz r1 S2 r2
/-- a method of a list -/
theorem me_list {m : Me} {d : D} {ds : List D} {r : D} {w w' : Wd} {K : PySem.W.Frag} {H : Hp} {A : Ad} {σ : Sl} {v : V} (S : Sim K H A w σ) (rd1 : RD K H A d v) (e : meF m d ds w = .ok (r, w')) : tyV K "list" v H := by
  have go : ∀ {xs ys : List D} {w2 : Wd}, w.seq d = some xs → w.put d ys = some w2 → tyV K "list" v H := fun {xs ys w2} e1 e2 => by
    obtain ⟨a, us, zs, rfl, h, _⟩ := put_ok e1 e2 S rd1
    exact .inl ⟨rfl, us, SqL.of h⟩
  cases m with
  | append =>
    match ds, e with
    | [], e => cases e
    | _ :: _ :: _, e => cases e
    | [x], e =>
      obtain ⟨xs, e1, e⟩ := bd_split (show ((R.of (w.seq d)).bd fun xs => if xs.length < mxLen then (R.of (w.put d (xs ++ [x]))).bd fun w' => R.ok (D.non, w') else R.err) = .ok (r, w') from e)
      split at e
      · obtain ⟨w2, e2, e⟩ := bd_split e
        exact go (of_split e1) (of_split e2)
      · cases e
  | extend =>
    match ds, e with
    | [], e => cases e
    | _ :: _ :: _, e => cases e
    | [x], e =>
      have e : (if isL x && !deq x d then (R.of (w.seq d)).bd fun xs => (R.of (w.seq x)).bd fun ys => if xs.length + ys.length ≤ mxLen then (R.of (w.put d (xs ++ ys))).bd fun w' => R.ok (D.non, w') else R.err else R.err) = .ok (r, w') := e
      split at e
      · obtain ⟨xs, e1, e⟩ := bd_split e
        obtain ⟨ys, e2, e⟩ := bd_split e
        split at e
        · obtain ⟨w2, e3, e⟩ := bd_split e
          exact go (of_split e1) (of_split e3)
        · cases e
      · cases e
  | pop =>
    match ds, e with
    | x :: _ :: _, e => cases x <;> cases e
    | [], e =>
      obtain ⟨xs, e1, e⟩ := bd_split (show ((R.of (w.seq d)).bd fun xs => (R.of xs[xs.length - 1]?).bd fun y => (R.of (w.put d xs.dropLast)).bd fun w' => R.ok (y, w')) = .ok (r, w') from e)
      obtain ⟨y, e2, e⟩ := bd_split e
      obtain ⟨w2, e3, e⟩ := bd_split e
      exact go (of_split e1) (of_split e3)
    | [x], e =>
      cases x with
      | int i =>
        obtain ⟨xs, e1, e⟩ := bd_split (show ((R.of (w.seq d)).bd fun xs => (R.of (ixI xs.length i)).bd fun k => (R.of xs[k]?).bd fun y => (R.of (w.put d (xs.eraseIdx k))).bd fun w' => R.ok (y, w')) = .ok (r, w') from e)
        obtain ⟨k, e4, e⟩ := bd_split e
        obtain ⟨y, e2, e⟩ := bd_split e
        obtain ⟨w2, e3, e⟩ := bd_split e
        exact go (of_split e1) (of_split e3)
      | _ => cases e
  | _ => cases e
def meId : Me → String
  | .append => "list.append"
  | .extend => "list.extend"
  | .pop => "list.pop"
  | _ => ""
theorem me_slot (m : Me) (h : (match m with | .append => true | .extend => true | .pop => true | _ => false) = true) :
    Slot "list" (meName m) (meId m) ∧ typeOf (.builtin (meId m)) = pure (.type "method_descriptor") ∧ MtR X (meId m) (rMe X.K m) := by
  cases m with
  | append => exact ⟨PySem.F.slot_list_append, PySem.F.type_list_append, me_append⟩
  | extend => exact ⟨PySem.F.slot_list_extend, PySem.F.type_list_extend, me_extend⟩
  | pop => exact ⟨PySem.F.slot_list_pop, PySem.F.type_list_pop, me_pop⟩
  | _ => cases h
theorem snd_me0 (m : Me) {o : E} {x : Expr} {apos cpos : Pos} (hm : (match m with | .append => true | .extend => true | .pop => true | _ => false) = true) (ho : PE X x (rd X.K (evE P o))) (ha : okA x = true) (hl : (apos.endLine == cpos.line) = true) :
    PE X (.Call (.Attribute x (meName m) apos) [] [] cpos) (rd X.K (evE P (.me m o .nil))) := by
  obtain ⟨h1, h2, h3⟩ := me_slot (X := X) m hm
  refine PEimp (pe_bm0 PySem.F.plainAttrs_list h1 h2 h3 ho (attr_ok ha) hl) fun σ H Q q => ?_
  obtain ⟨A, w, S, d, w', e1, q⟩ := q
  obtain ⟨x, ea, e1⟩ := bd_split e1
  obtain ⟨ys0, ez, e1⟩ := bd_split e1
  have e1 : meF m x.1 [] x.2 = .ok (d, w') := e1
  exact ⟨A, w, S, x.1, x.2, ea, fun A1 v H1 s1 S1 r1 => ⟨me_list S1 r1 e1, A1, x.2, σ, x.1, [], d, w', S1, r1, rfl, e1, q.step s1⟩⟩
theorem snd_me1 (m : Me) {o e : E} {x y : Expr} {apos cpos : Pos} (hm : (match m with | .append => true | .extend => true | .pop => true | _ => false) = true) (ho : PE X x (rd X.K (evE P o))) (he : PE X y (rd X.K (evE P e))) (ha : okA x = true) (hl : (apos.endLine == cpos.line) = true) (hy : okX y = true) :
    PE X (.Call (.Attribute x (meName m) apos) [y] [] cpos) (rd X.K (evE P (.me m o (.cons e .nil)))) := by
  obtain ⟨h1, h2, h3⟩ := me_slot (X := X) m hm
  refine PEimp (pe_bm PySem.F.plainAttrs_list h1 h2 h3 ho (snd_cons he snd_nil hy) (attr_ok ha) (by rw [starEach_cons hy]; rfl) hl (starEach_cons hy) (by rfl)) fun σ H Q q => ?_
  obtain ⟨A, w, S, d, w', e1, q⟩ := q
  obtain ⟨x, ea, e1⟩ := bd_split e1
  obtain ⟨ys0, ez, e1⟩ := bd_split e1
  have ez := of_split ez
  obtain ⟨z, eb, e1⟩ := bd_split e1
  refine ⟨A, w, S, x.1, x.2, ea, fun A1 v H1 s1 S1 r1 => ⟨?_, A1, x.2, S1, z.1, z.2, eb, fun A2 vs H2 s2 S2 r2 => ⟨A2, z.2, σ, x.1, z.1, d, w', S2, r1.step s2.toCar, r2, e1, q.step (s1.trans s2)⟩⟩⟩
  -- the receiver is a list of ours: a ref
  have hr : (∃ k, x.1 = .ref k) ∨ ∃ k, x.1 = .g k := by
    have put : ∀ {d : D} {xs : List D} {w w2 : Wd}, w.put d xs = some w2 → (∃ k, d = .ref k) ∨ ∃ k, d = .g k := fun {d xs w w2} e => by
      cases d with
      | ref k => exact .inl ⟨k, rfl⟩
      | g k => exact .inr ⟨k, rfl⟩
      | _ => cases e
    have e1 : meF m x.1 z.1 z.2 = .ok (d, w') := e1
    cases m with
    | append =>
      match hz : z.1, e1 with
      | [], e1 => cases e1
      | _ :: _ :: _, e1 => cases e1
      | [t], e1 =>
        obtain ⟨xs, _, e1⟩ := bd_split (show ((R.of (z.2.seq x.1)).bd fun xs => if xs.length < mxLen then (R.of (z.2.put x.1 (xs ++ [t]))).bd fun w' => R.ok (D.non, w') else R.err) = .ok (d, w') from e1)
        split at e1
        · obtain ⟨w2, e2, _⟩ := bd_split e1
          exact put (of_split e2)
        · cases e1
    | extend =>
      match hz : z.1, e1 with
      | [], e1 => cases e1
      | _ :: _ :: _, e1 => cases e1
      | [t], e1 =>
        have e1 : (if isL t && !deq t x.1 then (R.of (z.2.seq x.1)).bd fun xs => (R.of (z.2.seq t)).bd fun ys => if xs.length + ys.length ≤ mxLen then (R.of (z.2.put x.1 (xs ++ ys))).bd fun w' => R.ok (D.non, w') else R.err else R.err) = .ok (d, w') := e1
        split at e1
        · obtain ⟨xs, _, e1⟩ := bd_split e1
          obtain ⟨ys, _, e1⟩ := bd_split e1
          split at e1
          · obtain ⟨w2, e2, _⟩ := bd_split e1
            exact put (of_split e2)
          · cases e1
        · cases e1
    | pop =>
      match hz : z.1, e1 with
      | t :: _ :: _, e1 => cases t <;> cases e1
      | [], e1 =>
        obtain ⟨xs, _, e1⟩ := bd_split (show ((R.of (z.2.seq x.1)).bd fun xs => (R.of xs[xs.length - 1]?).bd fun y => (R.of (z.2.put x.1 xs.dropLast)).bd fun w' => R.ok (y, w')) = .ok (d, w') from e1)
        obtain ⟨y, _, e1⟩ := bd_split e1
        obtain ⟨w2, e2, _⟩ := bd_split e1
        exact put (of_split e2)
      | [t], e1 =>
        cases t with
        | int i =>
          obtain ⟨xs, _, e1⟩ := bd_split (show ((R.of (z.2.seq x.1)).bd fun xs => (R.of (ixI xs.length i)).bd fun k => (R.of xs[k]?).bd fun y => (R.of (z.2.put x.1 (xs.eraseIdx k))).bd fun w' => R.ok (y, w')) = .ok (d, w') from e1)
          obtain ⟨k, _, e1⟩ := bd_split e1
          obtain ⟨y, _, e1⟩ := bd_split e1
          obtain ⟨w2, e2, _⟩ := bd_split e1
          exact put (of_split e2)
        | _ => cases e1
    | _ => cases hm
  rcases hr with ⟨k, hk⟩ | ⟨k, hk⟩
  · rw [hk] at r1
    obtain ⟨a, q1, rfl⟩ := r1
    obtain ⟨e2, n⟩ := seq_ref_some (by rw [hk] at ez; exact ez)
    obtain ⟨vs, h, _⟩ := S1.mu.get q1 e2 n
    exact .inl ⟨rfl, vs, SqL.of h⟩
  · rw [hk] at r1
    obtain ⟨a, q1, rfl⟩ := r1
    obtain ⟨vs, h, _⟩ := S1.gget q1 (by rw [hk] at ez; exact ez)
    exact .inl ⟨rfl, vs, SqL.of h⟩

/-! ### what is walked -/
theorem snd_iseq {e : E} {tg x : Expr} (h : PE X x (rd X.K (evE P e))) : PI X tg x (rdI X.K (evI P (.seq e))) := by
  refine PIimp (pi_seq h) fun σ H Rr q => ?_
  obtain ⟨A, w, S, it, w', e1, q⟩ := q
  obtain ⟨x, ea, e1⟩ := bd_split e1
  obtain ⟨xs, ex, e1⟩ := bd_split e1
  cases e1
  refine ⟨A, w, S, x.1, x.2, ea, fun A1 v H1 s1 S1 r1 => ?_⟩
  obtain ⟨a, vs, rfl, rs, hq⟩ := S1.seq r1 (of_split ex)
  refine ⟨a, rfl, ?_⟩
  rcases hq with ⟨ht, hq⟩ | ⟨ht, hq⟩
  · exact .inr ⟨vs, hq, q A1 H1 _ s1 S1 (src_ok (of_split ex)) (walk_t (of_split ex) r1 ht)⟩
  · exact .inl ⟨vs, hq, q A1 H1 _ s1 S1 (src_ok (of_split ex)) (walk_l (of_split ex) r1 ht)⟩
theorem snd_rng1 (G : GX T P lv N sc top X) {e : E} {tg x : Expr} {p pos : Pos} (h : PE X x (rd X.K (evE P e))) (hg : sc.names.lookup ("range" : Str) = some .globalImplicit) (hf : ("range" : Str) ∈ T.free) (hx : okX x = true) :
    PI X tg (.Call (.Name "range" p) [x] [] pos) (rdI X.K (evI P (.rng (.cons e .nil)))) := by
  have gl : Gl X "range" := by show X.env.kindOf _ = _; unfold Env.kindOf; rw [G.sco]; exact hg
  refine PIimp (pi_range1 gl (G.free _ hf) (snd_cons h snd_nil hx) (starEach_cons hx)) fun σ H Rr q => ?_
  obtain ⟨A, w, S, it, w', e1, q⟩ := q
  obtain ⟨x, ea, e1⟩ := bd_split e1
  obtain ⟨xs, ex, e1⟩ := bd_split e1
  cases e1
  refine ⟨A, w, S, x.1, x.2, ea, fun A1 vs H1 s1 S1 r1 => ?_⟩
  have ex := of_split ex
  obtain ⟨ds, w1⟩ := x
  have hl : ds.length = 1 := evEs_len ea
  match ds, hl, ex, r1 with
  | [.int j], _, ex, r1 =>
    obtain ⟨v, rfl, rv⟩ := one_of r1
    have ex : (if rngOk j then some (rngL 0 j.toNat) else none) = some xs := ex
    split at ex
    · rename_i hj
      cases ex
      have hj := of_decide_eq_true hj
      exact ⟨j, by rw [show v = .int j from rv], hj.1, hj.2, q A1 H1 _ s1 S1 rfl walk_r⟩
    · cases ex
  | [.non], _, ex, _ => cases ex
  | [.bl _], _, ex, _ => cases ex
  | [.str _], _, ex, _ => cases ex
  | [.tup _], _, ex, _ => cases ex
  | [.lst _], _, ex, _ => cases ex
  | [.fl _], _, ex, _ => cases ex
  | [.sc _], _, ex, _ => cases ex
  | [.ref _], _, ex, _ => cases ex
  | [.g _], _, ex, _ => cases ex
  | [.dic _ _], _, ex, _ => cases ex
theorem rgV_rd {K : PySem.W.Frag} {H : Hp} {A : Ad} : ∀ (n : Nat) (a : Int), RDs K H A (rngL a n) ((List.range n).map fun i => V.int (a + (i : Nat)))
  | 0, _ => (rfl : _ = _)
  | n + 1, a => by
    rw [List.range_succ_eq_map, List.map_cons, List.map_map]
    refine RDs.cons_iff.mpr ⟨?_, ?_⟩
    · show _ = _
      congr 1
      omega
    · have h := rgV_rd (K := K) (H := H) (A := A) n (a + 1)
      have e : (List.map (fun i : Nat => V.int (a + 1 + (i : Nat))) (List.range n)) = (List.map ((fun i : Nat => V.int (a + (i : Nat))) ∘ Nat.succ) (List.range n)) := by
        refine List.map_congr_left fun i _ => ?_
        show V.int _ = V.int _
        congr 1
        have : ((Nat.succ i : Nat) : Int) = i + 1 := rfl
        omega
      rw [← e]
      exact h
theorem rgOk_of {i j : Int} {md : Nat} {tp : Bool} {w w' : Wd} {d : D} (h1 : rngOk i = true) (h2 : rngOk j = true) (h : (if tp then newT (rngL i (j - i).toNat) w else newL md (rngL i (j - i).toNat) w) = .ok (d, w')) : RgOk i j := by
  have h1 := of_decide_eq_true h1
  have h2 := of_decide_eq_true h2
  refine ⟨h1.1, h1.2, h2.1, h2.2, ?_⟩
  have : (rngL i (j - i).toNat).length ≤ mxLen := by
    cases tp with
    | true =>
      rw [if_pos rfl] at h
      unfold newT at h
      split at h
      · assumption
      · cases h
    | false =>
      rw [if_neg (by decide)] at h
      unfold newL at h
      split at h
      · assumption
      · cases h
  rw [rngL_length] at this
  exact Nat.le_trans this (by decide)
theorem lrg_fin {K : PySem.W.Frag} {A A1 : Ad} {H H1 : Hp} {σ : Sl} {i j : Int} {md : Nat} {tp : Bool} {w1 w' : Wd} {d : D} {Q : VK} (S : Sim K H1 A1 w1 σ) (s : Step A H A1 H1) (q : Aft K A H σ d w' Q) (h1 : rngOk i = true) (h2 : rngOk j = true)
    (h : (if tp then newT (rngL i (j - i).toNat) w1 else newL md (rngL i (j - i).toNat) w1) = .ok (d, w')) : RgOk i j ∧ ∀ p, H1 p = none → Q (.ref p) (upd H1 p (if tp then .tup (rgV i j) else .lst (rgV i j))) := by
  refine ⟨rgOk_of h1 h2 h, ?_⟩
  cases tp with
  | true =>
    rw [if_pos rfl] at h
    exact (Aft.newT h S (rgV_rd _ _) (q.step s)).2
  | false =>
    rw [if_neg (by decide)] at h
    exact (Aft.newL h S (rgV_rd _ _) (q.step s)).2
theorem snd_lrg1 (G : GX T P lv N sc top X) {e : E} {tp : Bool} {md : Nat} {x : Expr} {f : Str} {p p2 pos pos2 : Pos} (h : PE X x (rd X.K (evE P e))) (hf : f = if tp then ("tuple" : Str) else "list") (hg : sc.names.lookup ("range" : Str) = some .globalImplicit) (hg2 : sc.names.lookup f = some .globalImplicit) (hr : ("range" : Str) ∈ T.free) (hr2 : f ∈ T.free) (hx : okX x = true) :
    PE X (.Call (.Name f p2) [.Call (.Name "range" p) [x] [] pos] [] pos2) (rd X.K (evE P (.lrg tp md (.cons e .nil)))) := by
  have gl : Gl X "range" := by show X.env.kindOf _ = _; unfold Env.kindOf; rw [G.sco]; exact hg
  have gl2 : Gl X f := by show X.env.kindOf _ = _; unfold Env.kindOf; rw [G.sco]; exact hg2
  have rg := prg_1 (pos := pos) (p := p) gl (G.free _ hr) h (starEach_cons hx)
  have fin : ∀ σ H Q, rd X.K (evE P (.lrg tp md (.cons e .nil))) σ H Q → tRg1 (rd X.K (evE P e)) σ H (fun a b H1 => RgOk a b ∧ ∀ q, H1 q = none → Q (.ref q) (upd H1 q (if tp then .tup (rgV a b) else .lst (rgV a b)))) := fun σ H Q q => by
    obtain ⟨A, w, S, d, w', e1, q⟩ := q
    obtain ⟨x, ea, e1⟩ := bd_split e1
    obtain ⟨xs, ex, e1⟩ := bd_split e1
    obtain ⟨y, eb, ea⟩ := bd_split (show ((evE P e w).bd fun x => (evEs P .nil x.2).bd fun y => R.ok (x.1 :: y.1, y.2)) = .ok x from ea)
    cases ea
    refine ⟨A, w, S, y.1, y.2, eb, fun A1 v H1 s1 S1 r1 => ?_⟩
    have ex := of_split ex
    obtain ⟨d1, w1⟩ := y
    cases d1 with
    | int j =>
      have ex : (if rngOk j then some (rngL 0 j.toNat) else none) = some xs := ex
      split at ex
      · rename_i hj
        cases ex
        have h0 : (j - 0).toNat = j.toNat := by rw [Int.sub_zero]
        exact ⟨j, r1, lrg_fin S1 s1 q (by decide) hj (by rw [h0]; exact e1)⟩
      · cases ex
    | _ => cases ex
  cases tp with
  | true => subst hf; exact PEimp (pe_tupRg G.calm gl2 (G.free _ hr2) rg rfl) fin
  | false => subst hf; exact PEimp (pe_listRg G.calm gl2 (G.free _ hr2) rg rfl) fin
theorem snd_lrg2 (G : GX T P lv N sc top X) {e e2 : E} {tp : Bool} {md : Nat} {x y : Expr} {f : Str} {p p2 pos pos2 : Pos} (h : PE X x (rd X.K (evE P e))) (h2 : PE X y (rd X.K (evE P e2))) (hf : f = if tp then ("tuple" : Str) else "list") (hg : sc.names.lookup ("range" : Str) = some .globalImplicit) (hg2 : sc.names.lookup f = some .globalImplicit) (hr : ("range" : Str) ∈ T.free) (hr2 : f ∈ T.free) (hx : okX x = true) (hy : okX y = true) :
    PE X (.Call (.Name f p2) [.Call (.Name "range" p) [x, y] [] pos] [] pos2) (rd X.K (evE P (.lrg tp md (.cons e (.cons e2 .nil))))) := by
  have gl : Gl X "range" := by show X.env.kindOf _ = _; unfold Env.kindOf; rw [G.sco]; exact hg
  have gl2 : Gl X f := by show X.env.kindOf _ = _; unfold Env.kindOf; rw [G.sco]; exact hg2
  have rg := prg_2 (pos := pos) (p := p) gl (G.free _ hr) h h2 (starEach_cons hx) (starEach_cons hy) (noStars (by rw [List.all_cons, hy]; rfl))
  have fin : ∀ σ H Q, rd X.K (evE P (.lrg tp md (.cons e (.cons e2 .nil)))) σ H Q → tRg2 (rd X.K (evE P e)) (rd X.K (evE P e2)) σ H (fun a b H1 => RgOk a b ∧ ∀ q, H1 q = none → Q (.ref q) (upd H1 q (if tp then .tup (rgV a b) else .lst (rgV a b)))) := fun σ H Q q => by
    obtain ⟨A, w, S, d, w', e1, q⟩ := q
    obtain ⟨x, ea, e1⟩ := bd_split e1
    obtain ⟨xs, ex, e1⟩ := bd_split e1
    obtain ⟨y, eb, ea⟩ := bd_split (show ((evE P e w).bd fun x => (evEs P (.cons e2 .nil) x.2).bd fun y => R.ok (x.1 :: y.1, y.2)) = .ok x from ea)
    obtain ⟨z, ec, ea⟩ := bd_split ea
    cases ea
    obtain ⟨u, eu, ec⟩ := bd_split (show ((evE P e2 y.2).bd fun x => (evEs P .nil x.2).bd fun y => R.ok (x.1 :: y.1, y.2)) = .ok z from ec)
    cases ec
    refine ⟨A, w, S, y.1, y.2, eb, fun A1 v H1 s1 S1 r1 => ⟨A1, y.2, S1, u.1, u.2, eu, fun A2 v2 H2 s2 S2 r2 => ?_⟩⟩
    have ex := of_split ex
    obtain ⟨d1, w1⟩ := y
    obtain ⟨d2, w2⟩ := u
    cases d1 with
    | int i =>
      cases d2 with
      | int j =>
        have ex : (if rngOk i && rngOk j then some (rngL i (j - i).toNat) else none) = some xs := ex
        split at ex
        · rename_i hj
          cases ex
          obtain ⟨a1, a2⟩ := Bool.and_eq_true_iff.mp hj
          exact ⟨i, j, r1, r2, lrg_fin S2 (s1.trans s2) q a1 a2 e1⟩
        · cases ex
      | _ => cases ex
    | _ => cases d2 <;> cases ex
  cases tp with
  | true => subst hf; exact PEimp (pe_tupRg G.calm gl2 (G.free _ hr2) rg rfl) fin
  | false => subst hf; exact PEimp (pe_listRg G.calm gl2 (G.free _ hr2) rg rfl) fin
theorem three_of {K : PySem.W.Frag} {H : Hp} {A : Ad} {d e f : D} {vs : List V} (h : RDs K H A [d, e, f] vs) : ∃ v u t, vs = [v, u, t] ∧ RD K H A d v ∧ RD K H A e u ∧ RD K H A f t := by
  obtain ⟨v, r, rfl, x, y⟩ := h
  obtain ⟨u, t, rfl, z⟩ := two_of y
  exact ⟨v, u, t, rfl, x, z⟩
theorem snd_rng3 (G : GX T P lv N sc top X) {e e2 e3 : E} {tg x y z : Expr} {p pos : Pos} (h : PE X x (rd X.K (evE P e))) (h2 : PE X y (rd X.K (evE P e2))) (h3 : PE X z (rd X.K (evE P e3))) (hg : sc.names.lookup ("range" : Str) = some .globalImplicit) (hf : ("range" : Str) ∈ T.free) (hx : okX x = true) (hy : okX y = true) (hz : okX z = true) :
    PI X tg (.Call (.Name "range" p) [x, y, z] [] pos) (rdI X.K (evI P (.rng (.cons e (.cons e2 (.cons e3 .nil)))))) := by
  have gl : Gl X "range" := by show X.env.kindOf _ = _; unfold Env.kindOf; rw [G.sco]; exact hg
  refine PIimp (pi_range3 gl (G.free _ hf) (snd_cons h (snd_cons h2 (snd_cons h3 snd_nil hz) hy) hx) (starEach_cons hx) (noStars (by rw [List.all_cons, List.all_cons, hy, hz]; rfl))) fun σ H Rr q => ?_
  obtain ⟨A, w, S, it, w', e1, q⟩ := q
  obtain ⟨x, ea, e1⟩ := bd_split e1
  obtain ⟨xs, ex, e1⟩ := bd_split e1
  cases e1
  refine ⟨A, w, S, x.1, x.2, ea, fun A1 vs H1 s1 S1 r1 => ?_⟩
  have ex := of_split ex
  obtain ⟨ds, w1⟩ := x
  have hl : ds.length = 3 := evEs_len ea
  have hi : ∃ i j c, ds = [.int i, .int j, .int c] := by
    match ds, hl, ex with
    | [a, b, c], _, ex =>
      cases a with
      | int i => cases b with
        | int j => cases c with
          | int c => exact ⟨i, j, c, rfl⟩
          | _ => cases ex
        | _ => cases c <;> cases ex
      | _ => cases b <;> cases c <;> cases ex
  obtain ⟨i, j, c, hd⟩ := hi
  have hd : ds = [.int i, .int j, .int c] := hd
  subst hd
  obtain ⟨v, u, t, rfl, rv, ru, rt⟩ := three_of r1
  have ex : (if decide (c ≠ 0 ∧ c.natAbs < 1073741824) && Builtin.Range.small i j c then some (stepL i c (Builtin.Range.rangeSize i j c).toNat) else none) = some xs := ex
  split at ex
  · rename_i hj
    cases ex
    obtain ⟨a1, a2⟩ := Bool.and_eq_true_iff.mp hj
    have a1 := of_decide_eq_true a1
    exact ⟨i, j, c, _, by rw [show v = .int i from rv, show u = .int j from ru, show t = .int c from rt], ⟨a1.1, a1.2, a2, PyProof.Rows.rangeSize_toNat i j c⟩, q A1 H1 _ s1 S1 rfl walk_c⟩
  · cases ex
theorem snd_rng2 (G : GX T P lv N sc top X) {e e2 : E} {tg x y : Expr} {p pos : Pos} (h : PE X x (rd X.K (evE P e))) (h2 : PE X y (rd X.K (evE P e2))) (hg : sc.names.lookup ("range" : Str) = some .globalImplicit) (hf : ("range" : Str) ∈ T.free) (hx : okX x = true) (hy : okX y = true) :
    PI X tg (.Call (.Name "range" p) [x, y] [] pos) (rdI X.K (evI P (.rng (.cons e (.cons e2 .nil))))) := by
  have gl : Gl X "range" := by show X.env.kindOf _ = _; unfold Env.kindOf; rw [G.sco]; exact hg
  refine PIimp (pi_range2 gl (G.free _ hf) (snd_cons h (snd_cons h2 snd_nil hy) hx) (by rw [starEach_cons hx, starEach_cons hy]; rfl) (starEach_cons hy)) fun σ H Rr q => ?_
  obtain ⟨A, w, S, it, w', e1, q⟩ := q
  obtain ⟨x, ea, e1⟩ := bd_split e1
  obtain ⟨xs, ex, e1⟩ := bd_split e1
  cases e1
  refine ⟨A, w, S, x.1, x.2, ea, fun A1 vs H1 s1 S1 r1 => ?_⟩
  have ex := of_split ex
  obtain ⟨ds, w1⟩ := x
  have hl : ds.length = 2 := evEs_len ea
  have hi : ∃ i j, ds = [.int i, .int j] := by
    match ds, hl, ex with
    | [a, b], _, ex =>
      cases a with
      | int i => cases b with
        | int j => exact ⟨i, j, rfl⟩
        | _ => cases ex
      | _ => cases b <;> cases ex
  obtain ⟨i, j, hd⟩ := hi
  have hd : ds = [.int i, .int j] := hd
  subst hd
  obtain ⟨v, u, rfl, rv, ru⟩ := two_of r1
  have ex : (if rngOk i && rngOk j then some (rngL i (j - i).toNat) else none) = some xs := ex
  split at ex
  · rename_i hj
    cases ex
    obtain ⟨a1, a2⟩ := Bool.and_eq_true_iff.mp hj
    have a1 := of_decide_eq_true a1
    have a2 := of_decide_eq_true a2
    exact ⟨i, j, by rw [show v = .int i from rv, show u = .int j from ru], ⟨a1.1, a1.2, a2.1, a2.2⟩, q A1 H1 _ s1 S1 rfl walk_r⟩
  · cases ex
theorem snd_enu (G : GX T P lv N sc top X) {e : E} {x : Expr} {elts : List Expr} {kk : Nat} {p pos tpos : Pos} (h : PE X x (rd X.K (evE P e))) (hg : sc.names.lookup ("enumerate" : Str) = some .globalImplicit) (hf : ("enumerate" : Str) ∈ T.free) (hx : okX x = true) :
    PI X (.Tuple elts kk tpos) (.Call (.Name "enumerate" p) [x] [] pos) (rdI X.K (evI P (.enu e))) := by
  have gl : Gl X "enumerate" := by show X.env.kindOf _ = _; unfold Env.kindOf; rw [G.sco]; exact hg
  refine PIimp (pi_enu gl (G.free _ hf) (snd_cons h snd_nil hx) (starEach_cons hx)) fun σ H Rr q => ?_
  obtain ⟨A, w, S, it, w', e1, q⟩ := q
  obtain ⟨x, ea, e1⟩ := bd_split e1
  obtain ⟨xs, ex, e1⟩ := bd_split e1
  cases e1
  refine ⟨A, w, S, [x.1], x.2, by show (evE P e w).bd _ = _; rw [ea]; rfl, fun A1 vs H1 s1 S1 r1 => ?_⟩
  obtain ⟨v, rfl, rv⟩ := one_of r1
  obtain ⟨a, vs, rfl, rs, hq⟩ := S1.seq rv (of_split ex)
  refine ⟨a, rfl, ?_⟩
  rcases hq with ⟨ht, hq⟩ | ⟨ht, hq⟩
  · exact .inr ⟨vs, hq, q A1 H1 _ s1 S1 (src_ok (of_split ex)) (walk_et (of_split ex) rv ht)⟩
  · exact .inl ⟨vs, hq, q A1 H1 _ s1 S1 (src_ok (of_split ex)) (walk_e (of_split ex) rv ht)⟩
theorem snd_zip (G : GX T P lv N sc top X) {e e2 : E} {x y : Expr} {elts : List Expr} {kk : Nat} {p pos tpos : Pos} (h : PE X x (rd X.K (evE P e))) (h2 : PE X y (rd X.K (evE P e2))) (hg : sc.names.lookup ("zip" : Str) = some .globalImplicit) (hf : ("zip" : Str) ∈ T.free) (hx : okX x = true) (hy : okX y = true) :
    PI X (.Tuple elts kk tpos) (.Call (.Name "zip" p) [x, y] [] pos) (rdI X.K (evI P (.zip e e2))) := by
  have gl : Gl X "zip" := by show X.env.kindOf _ = _; unfold Env.kindOf; rw [G.sco]; exact hg
  refine PIimp (RZ.pi_zipA gl (G.free _ hf) (snd_cons h (snd_cons h2 snd_nil hy) hx) (starEach_cons hx) (by rw [starEach_cons hy]; rfl)) fun σ H Rr q => ?_
  obtain ⟨A, w, S, it, w', e1, q⟩ := q
  obtain ⟨x, ea, e1⟩ := bd_split e1
  obtain ⟨y, eb, e1⟩ := bd_split e1
  obtain ⟨xs, ex, e1⟩ := bd_split e1
  obtain ⟨ys, ey, e1⟩ := bd_split e1
  split at e1
  case isFalse => cases e1
  rename_i ht
  have ht : isT x.1 = isT y.1 := eq_of_beq ht
  cases e1
  have ex := of_split ex
  have ey := of_split ey
  refine ⟨A, w, S, [x.1, y.1], y.2, by show (evE P e w).bd _ = _; rw [ea]; show ((evE P e2 x.2).bd _).bd _ = _; rw [eb]; rfl, fun A1 vs H1 s1 S1 r1 => ?_⟩
  obtain ⟨v, u, rfl, rv, ru⟩ := two_of r1
  obtain ⟨a, vs, rfl, rs, hq⟩ := S1.seq rv ex
  obtain ⟨b, us, rfl, rs2, hq2⟩ := S1.seq ru ey
  refine ⟨a, b, vs, us, rfl, ?_⟩
  have ok : ((srcOf x.1).ok xs y.2 && (srcOf y.1).ok ys y.2) = true := by rw [src_ok ex, src_ok ey]; rfl
  rcases hq with ⟨t1, hq⟩ | ⟨t1, hq⟩
  · rcases hq2 with ⟨t2, hq2⟩ | ⟨t2, hq2⟩
    · exact .inr ⟨hq, hq2, q A1 H1 _ s1 S1 ok (walk_zt ex ey rv ru t1 t2)⟩
    · rw [t1, t2] at ht; cases ht
  · rcases hq2 with ⟨t2, hq2⟩ | ⟨t2, hq2⟩
    · rw [t1, t2] at ht; cases ht
    · exact .inl ⟨hq, hq2, q A1 H1 _ s1 S1 ok (walk_z ex ey rv ru t1 t2)⟩
end
end Fz

/-! Q12b: isinstance; own dicts. -/
namespace Fz
open PySem PySem.Spec PyProof.Rows L2

def tyS : Ty → String
  | .int => "int" | .bool => "bool" | .str => "str" | .tup => "tuple" | .lst => "list" | .dct => "dict"
theorem sqT_ty {K : PySem.W.Frag} {H : Hp} {a : Addr} {vs : List V} (h : SqT K H a vs) : TyX K H (.ref a) (.type "tuple") := by
  rcases h with (h | ⟨o, h⟩) | ⟨o, its, n, h1, h2, _⟩
  · exact .base (.tup h)
  · exact .fTuple h
  · exact .kTuple h1 h2
theorem sqL_ty {K : PySem.W.Frag} {H : Hp} {a : Addr} {vs : List V} (h : SqL K H a vs) : TyX K H (.ref a) (.type "list") := by
  rcases h with (h | ⟨o, h⟩) | ⟨o, its, n, h1, h2, _⟩
  · exact .base (.lst h)
  · exact .base (.frz h)
  · exact .kList h1 h2
theorem tyF_ok {K : PySem.W.Frag} {H : Hp} {A : Ad} {w : Wd} {σ : Sl} (S : Sim K H A w σ) {t : Ty} {d : D} {v : V} {b : Bool} (r : RD K H A d v) (e : tyF t w d = some b) : ∃ s : String, TyX K H v (.type s) ∧ PySem.W.kitOne K (.type s) (.type (tyS t)) = some b := by
  cases d with
  | non =>
    cases e
    rw [show v = .non from r]
    exact ⟨_, .base .non, kit_ty (by cases t <;> decide +kernel)⟩
  | bl x =>
    cases e
    rw [show v = .bl x from r]
    exact ⟨_, .base (.bl x), kit_ty (by cases t <;> decide +kernel)⟩
  | int x =>
    cases e
    rw [show v = .int x from r]
    exact ⟨_, .base (.int x), kit_ty (by cases t <;> decide +kernel)⟩
  | str x =>
    cases e
    rw [show v = .str x from r]
    exact ⟨_, .base (.str x), kit_ty (by cases t <;> decide +kernel)⟩
  | tup ds =>
    cases e
    obtain ⟨a, vs, rfl, q, _⟩ := r
    exact ⟨_, sqT_ty q, kit_ty (by cases t <;> decide +kernel)⟩
  | lst ds =>
    cases e
    obtain ⟨a, vs, rfl, q, _⟩ := r
    exact ⟨_, .base (.lst q), kit_ty (by cases t <;> decide +kernel)⟩
  | fl ds =>
    cases e
    obtain ⟨a, vs, rfl, q, _⟩ := r
    exact ⟨_, .base (.lst q), kit_ty (by cases t <;> decide +kernel)⟩
  | sc ds =>
    cases e
    obtain ⟨a, vs, rfl, q, _⟩ := r
    exact ⟨_, sqL_ty q.sq, kit_ty (by cases t <;> decide +kernel)⟩
  | ref k =>
    obtain ⟨xs, e1, e2⟩ := Option.map_eq_some_iff.mp (show ((w.m[k]?).bind lsq).map (fun _ => t == .lst) = some b from e)
    obtain ⟨a, q, rfl⟩ := r
    obtain ⟨e1, n⟩ := seq_ref_some e1
    obtain ⟨vs, h, _⟩ := S.mu.get q e1 n
    subst e2
    exact ⟨_, .base (.lst h), kit_ty (by cases t <;> decide +kernel)⟩
  | g k =>
    cases e
    obtain ⟨a, q, rfl⟩ := r
    obtain ⟨xs, e1, c⟩ := S.ga.cell q
    obtain ⟨vs, h, _⟩ := S.gget q e1
    exact ⟨_, .base (.lst h), kit_ty (by cases t <;> decide +kernel)⟩
  | dic ks ds =>
    cases e
    obtain ⟨a, rfl, _, _, h⟩ := r
    rcases h with ⟨_, _, q⟩ | ⟨kvs, q, _⟩
    · exact ⟨_, .base (.dT q), kit_ty (by cases t <;> decide +kernel)⟩
    · exact ⟨_, .base (.dK q), kit_ty (by cases t <;> decide +kernel)⟩
theorem boot_ty (t : Ty) : bootBuiltins (Str.ofString (tyS t)) = some (.type (tyS t)) := by cases t <;> decide +kernel
section
variable {T : Tb} {P : Pg} {lv : Nat} {N : List Str} {sc : Scope} {top : Option Scope} {X : Cx}
theorem snd_isi (G : GX T P lv N sc top X) {e : E} {t : Ty} {x : Expr} {p p2 pos : Pos} (h : PE X x (rd X.K (evE P e))) (hx : okX x = true) (hg : sc.names.lookup ("isinstance" : Str) = some .globalImplicit) (hg2 : sc.names.lookup (Str.ofString (tyS t)) = some .globalImplicit) (hr : ("isinstance" : Str) ∈ T.free) (hr2 : Str.ofString (tyS t) ∈ T.free) :
    PE X (.Call (.Name "isinstance" p) [x, .Name (Str.ofString (tyS t)) p2] [] pos) (rd X.K (evE P (.isi e t))) := by
  have gl : Gl X "isinstance" := by show X.env.kindOf _ = _; unfold Env.kindOf; rw [G.sco]; exact hg
  have gl2 : Gl X (Str.ofString (tyS t)) := by show X.env.kindOf _ = _; unfold Env.kindOf; rw [G.sco]; exact hg2
  have ht : PE X (.Name (Str.ofString (tyS t)) p2) (tC (.ty (tyS t))) := pe_bltn gl2 (G.free _ hr2) (boot_ty t) rfl (by cases t <;> decide +kernel) (by cases t <;> decide +kernel)
  have args := pa_cons h (pa_cons ht pa_nil (starEach_cons rfl)) (starEach_cons hx)
  refine PEimp (pe_callB call_isi gl (G.free _ hr) (by decide +kernel) args (by decide +kernel) (by decide +kernel) (starEach_cons hx) (noStars (by rfl))) fun σ H Q q => ?_
  obtain ⟨A, w, S, d, w', e1, q⟩ := q
  obtain ⟨y, ea, e1⟩ := bd_split e1
  obtain ⟨b, eb, e1⟩ := bd_split e1
  cases e1
  refine ⟨A, w, S, y.1, y.2, ea, fun A1 v H1 s1 S1 r1 => ?_⟩
  obtain ⟨s, h1, h2⟩ := tyF_ok S1 r1 (of_split eb)
  exact ⟨v, .ty (tyS t), _, _, b, rfl, .ty _, h1, h2, (q.step s1).here S1 rfl⟩
/-! ### own dicts -/
theorem dct_some {w : Wd} {d : D} {n : Nat} {es : List D} (h : w.dct d = some (n, es)) : ∃ k ks, d = .ref k ∧ w.m[k]? = some [.dic ks es] ∧ ¬ ks.Nodup ∧ ks.length = n := by
  cases d with
  | ref k =>
    obtain ⟨xs, e1, e⟩ := Option.bind_eq_some_iff.mp (show (w.m[k]?).bind _ = some (n, es) from h)
    match xs, e with
    | [.dic ks es'], e =>
      have e : (if ks.Nodup then none else some (ks.length, es')) = some (n, es) := e
      split at e
      · cases e
      · rename_i hn
        cases e
        exact ⟨k, ks, rfl, e1, hn, rfl⟩
  | _ => cases h
theorem isDc_dic {ks : List Str} {es : List D} (h : ¬ ks.Nodup) : isDc [.dic ks es] = true := by
  show (!decide ks.Nodup) = true
  rw [decide_eq_false h]
  rfl
section
variable {K : PySem.W.Frag} {H H' : Hp} {A A' : Ad} {w w' : Wd} {σ : Sl}
/-- what an own dict is -/
theorem Sim.dct (S : Sim K H A w σ) {d : D} {v : V} {n : Nat} {es : List D} (r : RD K H A d v) (e : w.dct d = some (n, es)) : ∃ a k ks, v = .ref a ∧ d = .ref k ∧ A.mu[k]? = some a ∧ w.m[k]? = some [.dic ks es] ∧ ¬ ks.Nodup ∧ ks.length = n ∧ DE K H A a n es := by
  obtain ⟨k, ks, rfl, e1, e2, rfl⟩ := dct_some e
  obtain ⟨a, q, rfl⟩ := r
  obtain ⟨xs, e3, c⟩ := S.mu.cell q
  rw [e1] at e3
  cases e3
  rcases c with ⟨c, _⟩ | ⟨_, ks', es', e4, c⟩
  · rw [isDc_dic e2] at c
    cases c
  · cases e4
    exact ⟨a, k, ks, rfl, rfl, q, e1, e2, rfl, c⟩
theorem DE.isD {a : Addr} {n : Nat} {es : List D} (h : DE K H A a n es) : IsD H a := by
  rcases h with ⟨kvs, _, h, _⟩ | ⟨kvs, _, h, _⟩
  · exact .inr ⟨kvs, .inl h⟩
  · exact .inl ⟨kvs, .inl h⟩
theorem deq_ints : ∀ {a b : List Int}, deqL (a.map D.int) (b.map D.int) = decide (a = b)
  | [], [] => rfl
  | [], _ :: _ => rfl
  | _ :: _, [] => rfl
  | x :: xs, y :: ys => by
    show (deq (.int x) (.int y) && deqL (xs.map D.int) (ys.map D.int)) = _
    rw [deq_ints]
    show (decide (x = y) && decide (xs = ys)) = _
    by_cases h1 : x = y <;> by_cases h2 : xs = ys <;> simp [h1, h2]
theorem inl_inj {a b : List Int} : a.map (Sum.inl : Int → Key) = b.map Sum.inl ↔ a = b := by
  constructor
  · intro h
    exact List.map_inj_right (fun _ _ h => Sum.inl.inj h) |>.mp h
  · rintro rfl; rfl
theorem keyT_eq {d e : D} {q p : List Key} (h : keyT d q) (h2 : keyT e p) : deq d e = decide (q = p) := by
  obtain ⟨a, rfl, rfl⟩ := h
  obtain ⟨b, rfl, rfl⟩ := h2
  show deqL _ _ = _
  rw [deq_ints]
  exact decide_eq_decide.mpr inl_inj.symm
theorem keyI_eq {d e : D} {q p : Key} (h : keyI d q) (h2 : keyI e p) : deq d e = decide (q = p) := by
  obtain ⟨a, rfl, rfl⟩ := h
  obtain ⟨b, rfl, rfl⟩ := h2
  show decide (a = b) = _
  exact decide_eq_decide.mpr ⟨fun h => by rw [h], fun h => Sum.inl.inj h⟩
theorem EN.get {κ : Type} [DecidableEq κ] {kd : D → κ → Prop} (hk : ∀ d e q p, kd d q → kd e p → deq d e = decide (q = p)) {k : D} {q : κ} (h : kd k q) : ∀ {es : List D} {kvs : List (κ × V)}, EN K H A kd es kvs →
    (getE es k = none ∧ valV kvs q = none) ∨ ∃ d v, getE es k = some d ∧ valV kvs q = some v ∧ RD K H A d v
  | [], _, e => by rw [show _ = [] from e]; exact .inl ⟨rfl, rfl⟩
  | e0 :: es, _, e => by
    obtain ⟨k1, q1, d, v, r, rfl, rfl, h1, h2, h3⟩ := e
    have h4 := hk k1 k q1 q h1 h
    by_cases z : q1 = q
    · refine .inr ⟨d, v, ?_, ?_, h2⟩
      · show (if deq k1 k then some d else getE es k) = _
        rw [h4, decide_eq_true z]
        rfl
      · rw [valV_pos (p := (q1, v)) z]
    · have ih := EN.get hk h h3
      have e1 : getE (.tup [k1, d] :: es) k = getE es k := by
        show (if deq k1 k then some d else getE es k) = _
        rw [h4, decide_eq_false z]
        rfl
      rw [e1, valV_neg (p := (q1, v)) z]
      exact ih
theorem EN.any {κ : Type} [DecidableEq κ] {kd : D → κ → Prop} (hk : ∀ d e q p, kd d q → kd e p → deq d e = decide (q = p)) {k : D} {q : κ} (h : kd k q) : ∀ {es : List D} {kvs : List (κ × V)}, EN K H A kd es kvs → es.any (isK k) = kvs.any (fun kv => decide (kv.1 = q))
  | [], _, e => by rw [show _ = [] from e]; rfl
  | e0 :: es, _, e => by
    obtain ⟨k1, q1, d, v, r, rfl, rfl, h1, h2, h3⟩ := e
    rw [List.any_cons, List.any_cons, EN.any hk h h3]
    congr 1
    exact hk k1 k q1 q h1 h
theorem EN.mapK {κ : Type} [DecidableEq κ] {kd : D → κ → Prop} (hk : ∀ d e q p, kd d q → kd e p → deq d e = decide (q = p)) {k : D} {q : κ} (h : kd k q) {d : D} {v : V} (hd : RD K H A d v) : ∀ {es : List D} {kvs : List (κ × V)}, EN K H A kd es kvs → EN K H A kd (es.map fun e => if isK k e then setK d e else e) (kvs.map fun kv => if kv.1 = q then (kv.1, v) else kv)
  | [], _, e => by rw [show _ = [] from e]; exact (rfl : _ = _)
  | e0 :: es, _, e => by
    obtain ⟨k1, q1, d1, v1, r, rfl, rfl, h1, h2, h3⟩ := e
    have h4 : isK k (.tup [k1, d1]) = decide (q1 = q) := hk k1 k q1 q h1 h
    rw [List.map_cons, List.map_cons, h4]
    by_cases z : q1 = q
    · refine ⟨k1, q1, d, v, _, ?_, ?_, h1, hd, EN.mapK hk h hd h3⟩
      · rw [decide_eq_true z]; rfl
      · rw [if_pos z]
    · refine ⟨k1, q1, d1, v1, _, ?_, ?_, h1, h2, EN.mapK hk h hd h3⟩
      · rw [decide_eq_false z]; rfl
      · rw [if_neg z]
theorem EN.snoc {κ : Type} {kd : D → κ → Prop} {k : D} {q : κ} (h : kd k q) {d : D} {v : V} (hd : RD K H A d v) : ∀ {es : List D} {kvs : List (κ × V)}, EN K H A kd es kvs → EN K H A kd (es ++ [.tup [k, d]]) (kvs ++ [(q, v)])
  | [], _, e => by rw [show _ = [] from e]; exact ⟨k, q, d, v, [], rfl, rfl, h, hd, rfl⟩
  | e0 :: es, _, e => by
    obtain ⟨k1, q1, d1, v1, r, rfl, rfl, h1, h2, h3⟩ := e
    exact ⟨k1, q1, d1, v1, _, rfl, rfl, h1, h2, EN.snoc h hd h3⟩
theorem EN.put {κ : Type} [DecidableEq κ] {kd : D → κ → Prop} (hk : ∀ d e q p, kd d q → kd e p → deq d e = decide (q = p)) {k : D} {q : κ} (h : kd k q) {d : D} {v : V} (hd : RD K H A d v) {es : List D} {kvs : List (κ × V)} (e : EN K H A kd es kvs) : EN K H A kd (putE es k d) (putK kvs q v) := by
  unfold putE putK
  rw [EN.any hk h e]
  by_cases z : (kvs.any fun kv => decide (kv.1 = q)) = true
  · rw [if_pos z, if_pos z]
    exact EN.mapK hk h hd e
  · rw [if_neg z, if_neg z]
    exact EN.snoc h hd e
theorem EN.len {κ : Type} {kd : D → κ → Prop} : ∀ {es : List D} {kvs : List (κ × V)}, EN K H A kd es kvs → kvs.length = es.length
  | [], _, e => by rw [show _ = [] from e]; rfl
  | e0 :: es, _, e => by
    obtain ⟨k1, q1, d1, v1, r, rfl, rfl, h1, h2, h3⟩ := e
    rw [List.length_cons, List.length_cons, EN.len h3]
end
section
variable {K : PySem.W.Frag} {H H' : Hp} {A A' : Ad} {w w' : Wd} {σ : Sl}
theorem dks_dup (b : Bool) : ¬ (dks b).Nodup := by cases b <;> decide
theorem dnew_ok (S : Sim K H A w σ) (b : Bool) {p : Addr} (hp : H p = none) {o : HO} (ho : o = if b then .dT [] else .dK []) :
    ∃ A', Step A H A' (upd H p o) ∧ Sim K (upd H p o) A' { w with m := w.m ++ [[.dic (dks b) []]] } σ ∧ RD K (upd H p o) A' (.ref w.m.length) (.ref p) := by
  obtain ⟨⟨f1, f2, f4⟩, f3⟩ := S.fresh hp
  have s0 : Step A H A (upd H p o) := Step.new hp f4
  have S0 := S.new (o := o) hp
  have s1 : Step A H { A with mu := A.mu ++ [p] } (upd H p o) := ⟨⟨fun a u h x => ⟨upd_some hp h, not_snoc x.1 (fun e => by subst e; rw [hp] at h; cases h), x.2⟩, s0.tup, s0.frz, fun k a h => get_snoc h, fun _ _ h => h, rfl⟩, rfl, s0.cnk⟩
  refine ⟨_, s1, ⟨fun i d e => let ⟨v, e1, r⟩ := S.loc i d e; ⟨v, e1, r.step s1.toCar d v⟩, S.len, ?_, RL.carry (fun xs vs h => h.step s1.toCar) (fun a _ vs h => upd_some hp h) S.ga, nodup_snoc S.nd f1, S.ndg, fun a ha => ?_, S.djg, S0.bt, S0.cnt,
    fun a ha => ⟨not_snoc (S.cnd a ha).1 (fun e => f4 (e ▸ ha)), (S.cnd a ha).2⟩, S.gk⟩, p, ?_, rfl⟩
  · refine RL.append (RL.carry (fun xs vs h => h.step s1.toCar) (fun a _ vs h => upd_some hp h) S.mu) ⟨_, [], rfl, .inr ⟨isDc_dic (dks_dup b), dks b, [], rfl, ?_⟩, rfl⟩
    subst ho
    cases b with
    | true => exact .inl ⟨[], rfl, upd_same, rfl⟩
    | false => exact .inr ⟨[], rfl, upd_same, rfl⟩
  · rcases List.mem_append.mp ha with z | z
    · exact S.dj a z
    · have e : a = p := by simpa using z
      subst e
      exact ⟨f2, f3⟩
  · show (A.mu ++ [p])[w.m.length]? = some p
    rw [S.mu.length]
    simp
theorem dset_ok (S : Sim K H A w σ) {k : Nat} {a : Addr} {ks : List Str} {es : List D} {u o : HO} (q : A.mu[k]? = some a) (h : H a = some u) (hu : (∃ kvs, u = .dT kvs) ∨ ∃ kvs, u = .dK kvs) (hn : ¬ ks.Nodup)
    (hd : Step A H A (upd H a o) → DE K (upd H a o) A a ks.length es) :
    Step A H A (upd H a o) ∧ Sim K (upd H a o) A (w.dset (.ref k) ks es) σ := by
  have hm := List.mem_of_getElem? q
  have hc : ∀ b ∈ A.cn, b ≠ a := fun b hb z => by subst z; exact (S.cnd _ hb).1 hm
  have c : Car A H A (upd H a o) := by
    refine ⟨fun b o q x => ⟨?_, x⟩, fun b ws q => ?_, fun b o u q => ?_, fun _ _ q => q, fun _ _ q => q, rfl⟩
    · rw [upd_ne (fun z => by subst z; exact x.1 hm)]
      exact q
    · rw [upd_ne (ne_of q h (fun z => by rcases hu with ⟨_, rfl⟩ | ⟨_, rfl⟩ <;> cases z))]
      exact q
    · rw [upd_ne (ne_of q h (fun z => by rcases hu with ⟨_, rfl⟩ | ⟨_, rfl⟩ <;> cases z))]
      exact q
  have s : Step A H A (upd H a o) := ⟨c, rfl, fun b hb => upd_ne (hc b hb)⟩
  refine ⟨s, ⟨fun i d e => let ⟨v, e1, r⟩ := S.loc i d e; ⟨v, e1, r.step s.toCar d v⟩, S.len, RL.store (fun _ _ h => h.step s.toCar) (.inr ⟨isDc_dic hn, ks, es, rfl, hd s⟩) S.nd S.mu q, RL.carry (fun xs vs h => h.step s.toCar) (fun b hb ws h => ?_) S.ga, S.nd, S.ndg, S.dj, S.djg, fun b hb => ?_, fun b hb => ?_, S.cnd, S.gk⟩⟩
  · rw [upd_ne (fun z => by subst z; exact (S.dj _ hm).1 hb)]
    exact h
  · obtain ⟨o, h⟩ := S.bt b hb
    refine ⟨o, ?_⟩
    rw [upd_ne (fun z => by subst z; exact (S.dj _ hm).2 hb)]
    exact h
  · obtain ⟨ws, h⟩ := S.cnt b hb
    refine ⟨ws, ?_⟩
    rw [upd_ne (hc b hb)]
    exact h
end
theorem snd_dnew {b : Bool} {pos : Pos} : PE X (.Dict [] [] pos) (rd X.K (evE P (.dnew b))) := by
  cases b with
  | true =>
    refine PEimp pe_dnewT fun σ H Q q => ?_
    obtain ⟨A, w, S, d, w', e1, q⟩ := q
    cases e1
    intro p hp
    obtain ⟨A', s, S', r⟩ := dnew_ok S true hp rfl
    exact q A' _ _ s S' r
  | false =>
    refine PEimp pe_dnewK fun σ H Q q => ?_
    obtain ⟨A, w, S, d, w', e1, q⟩ := q
    cases e1
    intro p hp
    obtain ⟨A', s, S', r⟩ := dnew_ok S false hp rfl
    exact q A' _ _ s S' r
/-- a new dict, empty, that nobody changes -/
theorem snd_emp {pos : Pos} : PE X (.Dict [] [] pos) (rd X.K (evE P (.k (.dic [] [])))) := by
  refine PEimp pe_dnewT fun σ H Q q => ?_
  obtain ⟨A, w, S, d, w', e1, q⟩ := q
  cases e1
  intro p hp
  obtain ⟨⟨f1, f2, f4⟩, f3⟩ := S.fresh hp
  exact q A _ _ (Step.new hp f4) (S.new hp) ⟨p, rfl, ⟨f1, f2, f4⟩, f3, .inl ⟨rfl, rfl, upd_same⟩⟩
theorem keyT_of : ∀ {ds : List D} {ns : List Int}, intD ds = some ns → ds = ns.map D.int
  | [], ns, e => by cases e; rfl
  | d :: ds, ns, e => by
    cases d with
    | int i =>
      obtain ⟨is, e1, rfl⟩ := Option.map_eq_some_iff.mp (show (intD ds).map (fun is => i :: is) = some ns from e)
      rw [keyT_of e1]
      rfl
    | _ => cases e
/-- a key written as a tuple: it stands new -/
theorem key_tup {es : Es} {xs : List Expr} {k : Nat} {pos : Pos} (h : PA X xs (rdA X.K (evEs P es))) : PE X (.Tuple xs k pos) fun σ H Q => ∃ A w, Sim X.K H A w σ ∧ ∃ ds w', evEs P es w = .ok (ds, w') ∧ ds.length ≤ mxLen ∧ ∀ A' vs p H', Step A H A' H' → Sim X.K H' A' w' σ → RDs X.K H' A' ds vs → H' p = some (.tup vs) → Q (.ref p) H' := by
  refine PEimp (pe_tup h) fun σ H Q q => ?_
  obtain ⟨A, w, S, ds, w', e1, hl, q⟩ := q
  refine ⟨A, w, S, ds, w', e1, fun A1 vs H1 s1 S1 r1 => ⟨Nat.le_trans (by rw [r1.length]; exact hl) (by decide), fun p hp => ?_⟩⟩
  have hc := (S1.fresh hp).1.2.2
  exact q A1 vs p _ (s1.trans (Step.new hp hc)) (S1.new hp) (r1.step (Step.new hp hc).toCar) upd_same
theorem snd_dget (G : GX T P lv N sc top X) {o : E} {es : Es} {z : D} {x zx : Expr} {xs : List Expr} {k : Nat} {apos cpos pos : Pos} (ho : PE X x (rd X.K (evE P o))) (hk : PA X xs (rdA X.K (evEs P es))) (hz : PE X zx (rd X.K (evE P (.k z)))) (ha : okA x = true) (hl : (apos.endLine == cpos.line) = true) (hx : okX zx = true) :
    PE X (.Call (.Attribute x "get" apos) [.Tuple xs k pos, zx] [] cpos) (rd X.K (evE P (.dget o es z))) := by
  have hst : starEach [.Tuple xs k pos, zx] X.env = [(false, eval (.Tuple xs k pos) X.env), (false, eval zx X.env)] := by
    rw [starEach_cons rfl, starEach_cons hx]
    rfl
  have m : M2 X x "get" apos (.Tuple xs k pos) zx cpos := ⟨attr_ok ha, by rw [hst]; rfl, hl, by rw [hst]; rfl⟩
  refine PEimp (pe_dget2 G.hu1 ho (key_tup hk) hz m) fun σ H Q q => ?_
  obtain ⟨A, w, S, d, w', e1, q⟩ := q
  obtain ⟨y, ea, e1⟩ := bd_split e1
  obtain ⟨q0, eq0, e1⟩ := bd_split e1
  obtain ⟨ys, eb, e1⟩ := bd_split e1
  obtain ⟨q1, eq1, e1⟩ := bd_split e1
  split at e1
  case isFalse => cases e1
  rename_i hc
  cases e1
  obtain ⟨hc, c4⟩ := Bool.and_eq_true_iff.mp hc
  obtain ⟨hc, c3⟩ := Bool.and_eq_true_iff.mp hc
  obtain ⟨c1, c2⟩ := Bool.and_eq_true_iff.mp hc
  refine ⟨A, w, S, y.1, y.2, ea, fun A1 v H1 s1 S1 r1 => ?_⟩
  obtain ⟨a, k0, ks, rfl, hy, q2, _, _, _, de⟩ := S1.dct r1 (of_split eq0)
  refine ⟨a, rfl, de.isD, A1, y.2, S1, ys.1, ys.2, eb, of_decide_eq_true c3, fun A2 vs p H2 s2 S2 r2 hp => ?_⟩
  refine ⟨A2, ys.2, S2, z, ys.2, rfl, fun A3 v3 H3 s3 S3 r3 => ?_⟩
  have hp3 : H3 p = some (.tup vs) := s3.tup _ _ hp
  have r4 := (r1.step s2.toCar).step s3.toCar
  obtain ⟨a', k1, ks1, hv, hy1, q3, _, _, _, de3⟩ := S3.dct r4 (of_split eq1)
  cases hv
  obtain ⟨ns, hns⟩ := Option.isSome_iff_exists.mp c2
  have hds := keyT_of hns
  have hvs := (r2.step s3.toCar).ints hns
  have n2 : q1.1 = 2 := of_decide_eq_true c1
  rcases de3 with ⟨kvs, _, h1, h2⟩ | ⟨kvs, n3, _, _⟩
  · have kk : keyT (.tup ys.1) (ns.map Sum.inl) := ⟨ns, by rw [hds], rfl⟩
    have hmap : vs = (ns.map (Sum.inl : Int → Key)).map kV := by
      rw [hvs, List.map_map]
      rfl
    refine ⟨valV kvs (ns.map Sum.inl), .inr ⟨kvs, ns.map Sum.inl, p, .inl h1, rfl, by rw [hp3, hmap], rfl⟩, ?_⟩
    refine (q.step ((s1.trans s2).trans s3)).here S3 ?_
    rcases h2.get (fun _ _ _ _ => keyT_eq) kk with ⟨g1, g2⟩ | ⟨d1, v1, g1, g2, g3⟩
    · rw [g1, g2]
      exact r3
    · rw [g1, g2]
      exact g3
  · omega
theorem snd_din (G : GX T P lv N sc top X) {n : Bool} {a b : E} {x y : Expr} {pos : Pos} (ha : Snd X P a x) (hb : Snd X P b y) (hy : okX y = true) : Snd X P (.din n a b) (.Compare x [if n then .NotIn else .In] [y] pos) := by
  have fin : ∀ σ H Q, rd X.K (evE P (.din n a b)) σ H Q → (rd X.K (evE P a)) σ H fun t H1 => (rd X.K (evE P b)) σ H1 fun u H2 => ∃ p o, u = .ref p ∧ DGet H2 p t o ∧ Q (.bl (xor n o.isSome)) H2 := fun σ H Q q => by
    obtain ⟨A, w, S, d, w', e1, q⟩ := q
    obtain ⟨z, ea, e1⟩ := bd_split e1
    obtain ⟨z2, eb, e1⟩ := bd_split e1
    obtain ⟨q1, eq1, e1⟩ := bd_split e1
    refine ⟨A, w, S, z.1, z.2, ea, fun A1 v H1 s1 S1 r1 => ⟨A1, z.2, S1, z2.1, z2.2, eb, fun A2 u H2 s2 S2 r2 => ?_⟩⟩
    obtain ⟨p, k0, ks, rfl, _, _, _, _, _, de⟩ := S2.dct r2 (of_split eq1)
    obtain ⟨d1, w1⟩ := z
    cases d1 with
    | int i =>
      have e1 : (if decide (q1.1 = 3) then R.ok (D.bl (xor n (getE q1.2 (.int i)).isSome), z2.2) else .err) = .ok (d, w') := e1
      split at e1
      case isFalse => cases e1
      rename_i hc
      cases e1
      have n2 : q1.1 = 3 := of_decide_eq_true hc
      rcases de with ⟨kvs, n3, _, _⟩ | ⟨kvs, _, h1, h2⟩
      · omega
      · have et : v = .int i := r1
        subst et
        have kk : keyI (.int i) (.inl i) := ⟨i, rfl, rfl⟩
        refine ⟨p, valV kvs (.inl i), rfl, .inl ⟨kvs, .inl i, .inl h1, rfl, rfl⟩, ?_⟩
        refine (q.step (s1.trans s2)).here S2 ?_
        rcases h2.get (fun _ _ _ _ => keyI_eq) kk with ⟨g1, g2⟩ | ⟨d1, v1, g1, g2, g3⟩
        · rw [g1, g2]; exact rfl
        · rw [g1, g2]; exact rfl
    | _ => cases e1
  have fin2 : ∀ w d w', evE P (.din n a b) w = .ok (d, w') → ∃ r, d = .bl r := fun w d w' e1 => by
    obtain ⟨z, ea, e1⟩ := bd_split e1
    obtain ⟨z2, eb, e1⟩ := bd_split e1
    obtain ⟨q1, eq1, e1⟩ := bd_split e1
    obtain ⟨d1, w1⟩ := z
    cases d1 with
    | int i =>
      have e1 : (if decide (q1.1 = 3) then R.ok (D.bl (xor n (getE q1.2 (.int i)).isSome), z2.2) else .err) = .ok (d, w') := e1
      split at e1
      case isFalse => cases e1
      cases e1
      exact ⟨_, rfl⟩
    | _ => cases e1
  cases n with
  | true =>
    refine Snd.cmp (pe_cmp (pc_dnotin G.hu1 ha.pe hb.pe) (behind_ok hy)) (pt_cmp (pc_dnotin G.hu1 ha.pe hb.pe) (behind_ok hy)) (fun σ H Q q => ?_) fin2 fun _ _ _ z => nomatch z
    have f := fin σ H Q q
    simp only [Bool.true_xor] at f
    exact f
  | false =>
    refine Snd.cmp (pe_cmp (pc_din G.hu1 ha.pe hb.pe) (behind_ok hy)) (pt_cmp (pc_din G.hu1 ha.pe hb.pe) (behind_ok hy)) (fun σ H Q q => ?_) fin2 fun _ _ _ z => nomatch z
    have f := fin σ H Q q
    simp only [Bool.false_xor] at f
    exact f
end
end Fz

/-! Q13: comprehensions; the checker of expressions and what it gives. -/
namespace Fz
open PySem PySem.Spec PyProof.Rows L2
section
variable {T : Tb} {P : Pg} {lv : Nat} {N : List Str} {sc : Scope} {top : Option Scope} {X : Cx}
theorem wipe_wipe (σ : Sl) (own : List Nat) : wipe (wipe σ own) own = wipe σ own := by
  apply List.ext_getElem?
  intro j
  rw [wipe_get, wipe_get]
  by_cases h : j ∈ own
  · rw [if_pos h, if_pos h]
    cases σ[j]? <;> rfl
  · rw [if_neg h, if_neg h]
theorem coL_read {t : Tg} {fi : Wd → R (Itd × Wd)} {fc : Wd → R (Bool × Wd)} {fe : Wd → R (D × Wd)} {own : List Nat} {md : Nat} (hs : ∀ i ∈ slotsT t, i ∈ own) (σ : Sl) (H : Hp) (Q : VK)
    (q : rd X.K (fun w => (fi w).bd fun x => (coL (asg t) fc fe x.1.ok own x.2.σ x.1.xs x.2 []).bd fun r => newL md r.1 r.2) σ H Q) : tLc (rdI X.K fi) (gD X.K t) (rdT X.K fc) (rd X.K fe) own σ H Q := by
  obtain ⟨A, w, S, d, w', e1, q⟩ := q
  obtain ⟨x, ex, e1⟩ := bd_split e1
  obtain ⟨r, er, e1⟩ := bd_split e1
  refine ⟨A, w, S, x.1, x.2, ex, fun A1 H1 J st1 S1 ok1 wd D hD => ?_⟩
  have op : Car A1 H1 { A1 with cn := D :: A1.cn } (upd H1 D (.lst [])) := Car.opens hD _
  have hDn : D ∉ A1.cn := (S1.fresh hD).1.2.2
  -- what holds between the turns
  let W : Nat → Hp → Prop := fun i Hh => i ≤ x.1.xs.length ∧ ∃ (A' : Ad) (w1 : Wd) (acc : List Fz.D) (vs : List V), Car { A1 with cn := D :: A1.cn } (upd H1 D (.lst [])) A' Hh ∧ A'.cn = D :: A1.cn ∧ (∀ b ∈ A1.cn, Hh b = H1 b) ∧
    Sim X.K Hh A' w1 σ ∧ w1.σ = x.2.σ ∧ Hh D = some (.lst vs) ∧ RDs X.K Hh A' acc vs ∧ x.1.ok w1 = true ∧ coL (asg t) fc fe x.1.ok own x.2.σ (x.1.xs.drop i) w1 acc = .ok r
  refine ⟨fun i m Hh => m = x.1.xs.length - i ∧ W i Hh, ⟨x.1.xs.length, by simp, Nat.zero_le _, { A1 with cn := D :: A1.cn }, x.2, [], [], Car.refl _ _, rfl, fun b hb => upd_ne (fun z => hDn (z ▸ hb)), S1.opens hD [], rfl, upd_same, rfl, ok1, er⟩, ?_⟩
  rintro i m Hh ⟨rfl, hi, A', w1, acc, vs, c, hcn, hk, S', hσ, hd, hacc, ok', hrun⟩
  have c1 : Car A1 H1 A' Hh := op.trans c
  by_cases hlt : i < x.1.xs.length
  · right
    obtain ⟨g1, g2⟩ := wd.go A' Hh w1 σ i c1 S' ok' hlt
    refine ⟨g1, W (i + 1), fun H' hw => ⟨_, by omega, rfl, hw⟩, fun v H' hy => ?_⟩
    obtain ⟨st2, S2, hv⟩ := g2 v H' hy
    have hxi : x.1.xs[i]? = some (x.1.xs[i]) := List.getElem?_eq_getElem hlt
    rw [List.drop_eq_getElem_cons hlt] at hrun
    obtain ⟨wa, ea, hrun⟩ := bd_split hrun
    obtain ⟨b, eb, hrun⟩ := bd_split hrun
    refine ⟨A', _, _, wa, S2.wiped own, hv _ hxi, by rw [hσ]; exact of_split ea, fun σ2 S3 m3 g3 ho => ⟨(ho own hs).trans (wipe_wipe σ own), A', wa, S3, b.1, b.2, eb, fun A3 H3 st3 S4 => ?_⟩⟩
    have sA : Step A' Hh A3 H3 := st2.trans st3
    cases hb : b.1 with
    | true =>
      rw [hb, if_pos rfl] at hrun
      refine iteT ?_
      obtain ⟨z, ez, hrun⟩ := bd_split hrun
      refine ⟨A3, b.2, S4, z.1, z.2, ez, fun A4 y H4 st4 S5 r5 => ?_⟩
      have sB : Step A' Hh A4 H4 := sA.trans st4
      have hD4 : H4 D = some (.lst vs) := (sB.cnk D (by rw [hcn]; exact List.mem_cons_self)).trans hd
      have hm4 : D ∈ A4.cn := by rw [sB.cn, hcn]; exact List.mem_cons_self
      split at hrun
      · rename_i hok
        obtain ⟨ok5, hz⟩ := Bool.and_eq_true_iff.mp hok
        have cg : Car A4 H4 A4 (upd H4 D (.lst (vs ++ [y]))) := Car.store (.inr (.inr hm4)) hD4
        refine ⟨vs, hD4, Nat.lt_of_lt_of_le (by rw [hacc.length]; exact of_decide_eq_true hz) (by decide), by omega, A4, { z.2 with σ := x.2.σ }, acc ++ [z.1], vs ++ [y], (c.trans sB.toCar).trans cg, by rw [sB.cn]; exact hcn, fun b hb => ?_, ?_, rfl, upd_same, ?_, ?_, ?_⟩
        · rw [upd_ne (show b ≠ D from fun z => hDn (z ▸ hb))]
          exact (sB.cnk b (by rw [hcn]; exact List.mem_cons_of_mem _ hb)).trans (hk b hb)
        · exact (S5.grow hm4 hD4 (vs ++ [y])).back S1 ((c1.trans sB.toCar).trans cg)
        · exact RDs.append ((hacc.step sB.toCar).step cg) (RDs.one (r5.step cg))
        · exact ok5
        · exact hrun
      · cases hrun
    | false =>
      rw [hb, if_neg Bool.false_ne_true] at hrun
      refine iteF ?_
      split at hrun
      · rename_i ok4
        refine ⟨by omega, A3, { b.2 with σ := x.2.σ }, acc, vs, c.trans sA.toCar, by rw [sA.cn]; exact hcn, fun b hb => ?_, ?_, rfl, ?_, hacc.step sA.toCar, ?_, ?_⟩
        · exact (sA.cnk b (by rw [hcn]; exact List.mem_cons_of_mem _ hb)).trans (hk b hb)
        · exact S4.back S1 (c1.trans sA.toCar)
        · exact (sA.cnk D (by rw [hcn]; exact List.mem_cons_self)).trans hd
        · exact ok4
        · exact hrun
      · cases hrun
  · left
    obtain rfl : i = x.1.xs.length := Nat.le_antisymm hi (Nat.le_of_not_lt hlt)
    refine ⟨wd.stop A' Hh w1 σ c1 S' ok', ?_⟩
    rw [List.drop_length] at hrun
    cases hrun
    obtain ⟨A2, c2, hc2, S2, r2⟩ := S'.closes e1 hcn hDn hd hacc
    have call := c1.trans c2
    exact q A2 (.ref D) Hh (st1.trans ⟨call, hc2, hk⟩) S2 r2
end
end Fz

/-! Q14: the checker of expressions and what it gives. -/
namespace Fz
open PySem PySem.Spec PyProof.Rows L2

def visB (sc : Scope) (x : Str) : Bool := match sc.names.lookup x with
  | some .local => true
  | some .cell => true
  | some .free => true
  | _ => false
theorem visB_ok {sc : Scope} {x : Str} (h : visB sc x = true) : Vis sc x := by
  unfold visB at h
  cases q : sc.names.lookup x with
  | none => rw [q] at h; cases h
  | some k =>
    rw [q] at h
    cases k with
    | «local» => exact .inl q
    | cell => exact .inr (.inl q)
    | free => exact .inr (.inr q)
    | _ => cases h
def glB (sc : Scope) (x : Str) : Bool := (match sc.names.lookup x with
  | some .globalImplicit => true
  | _ => false) && !(x == ("__debug__" : Str))
theorem glB_ok {sc : Scope} {x : Str} (h : glB sc x = true) : sc.names.lookup x = some .globalImplicit ∧ (x == ("__debug__" : Str)) = false := by
  obtain ⟨h1, h2⟩ := Bool.and_eq_true_iff.mp h
  refine ⟨?_, by simpa using h2⟩
  cases q : sc.names.lookup x with
  | none => rw [q] at h1; cases h1
  | some k =>
    rw [q] at h1
    cases k <;> first | rfl | cases h1
def ckK : D → Expr → Bool
  | .non, .Constant .none _ _ => true
  | .bl b, .Constant (.bool c) _ _ => b == c
  | .int i, .Constant (.int j) _ _ => decide (i = j)
  | .str s, .Constant (.str z) _ _ => decide (s = z)
  | .dic [] [], .Dict [] [] _ => true
  | _, _ => false
def opB : Operator → Operator → Bool
  | .Add, .Add => true
  | .Sub, .Sub => true
  | .Mult, .Mult => true
  | .Mod, .Mod => true
  | .Pow, .Pow => true
  | .LShift, .LShift => true
  | .BitXor, .BitXor => true
  | .BitAnd, .BitAnd => true
  | .FloorDiv, .FloorDiv => true
  | _, _ => false
theorem opB_ok : ∀ {a b : Operator}, opB a b = true → a = b := by
  intro a b h
  cases a <;> cases b <;> first | rfl | cases h
def cmB : CmpOp → CmpOp → Bool
  | .Eq, .Eq => true
  | .NotEq, .NotEq => true
  | .Lt, .Lt => true
  | .LtE, .LtE => true
  | .Gt, .Gt => true
  | .GtE, .GtE => true
  | .Is, .Is => true
  | .IsNot, .IsNot => true
  | .In, .In => true
  | .NotIn, .NotIn => true
  | _, _ => false
theorem cmB_ok : ∀ {a b : CmpOp}, cmB a b = true → a = b := by
  intro a b h
  cases a <;> cases b <;> first | rfl | cases h
def meB : Me → Bool
  | .append => true
  | .extend => true
  | .pop => true
  | _ => false
def ownN (N : List Str) (own : List Nat) : List (Str × Nat) := own.map fun i => (N.getD i "", i)
theorem ownN_slots (N : List Str) (own : List Nat) : (ownN N own).map (·.2) = own := by
  unfold ownN
  rw [List.map_map]
  exact List.map_id _
def nameB (s : Str) : Expr → Bool
  | .Name x _ => decide (x = s)
  | _ => false
theorem nameB_ok {s : Str} {e : Expr} (h : nameB s e = true) : ∃ p, e = .Name s p := by
  cases e with
  | Name x p => exact ⟨p, by rw [of_decide_eq_true (show decide (x = s) = true from h)]⟩
  | _ => cases h
section
variable (T : Tb) (lv : Nat) (N : List Str)
mutual
def ckE : Scope → Option Scope → E → Expr → Bool
  | sc, _, .v i, .Name x _ => decide (N[i]? = some x) && (visB sc x && (!(x == ("__debug__" : Str)) && !(x == ("__classdict__" : Str))))
  | _, _, .k d, ex => ckK d ex
  | sc, _, .gl i, .Name x _ => (match T.cons[i]? with
    | some c => decide (c.1 = x)
    | none => false) && glB sc x
  | sc, top, .op o _ a b, .BinOp x o' y _ => opB (oper o) o' && (ckE sc top a x && ckE sc top b y)
  | sc, top, .neg a, .UnaryOp .USub x _ => ckE sc top a x
  | sc, top, .no a, .UnaryOp .Not x _ => ckE sc top a x
  | sc, top, .an a b, .BoolOp .And (x :: y :: r) p => ckE sc top a x && (match r with
    | [] => ckE sc top b y
    | z :: r => (match b with
      | .an _ _ => true
      | _ => false) && ckE sc top b (.BoolOp .And (y :: z :: r) p))
  | sc, top, .or a b, .BoolOp .Or (x :: y :: r) p => ckE sc top a x && (match r with
    | [] => ckE sc top b y
    | z :: r => (match b with
      | .or _ _ => true
      | _ => false) && ckE sc top b (.BoolOp .Or (y :: z :: r) p))
  | sc, top, .cm c a b, .Compare x [o] [y] _ => cmB (cmOp c) o && (okX y && (ckE sc top a x && ckE sc top b y))
  | sc, top, .ch a c b c2 d, .Compare x [o, o2] [y, z] _ => cmB (cmOp c) o && (cmB (cmOp c2) o2 && (okX y && (okX z && (ckE sc top a x && (ckE sc top b y && ckE sc top d z)))))
  | sc, top, .ite c a b, .IfExp x y z _ => ckE sc top c x && (ckE sc top a y && ckE sc top b z)
  | sc, top, .tup es, .Tuple xs _ _ => ckEs sc top es xs
  | sc, top, .lst _ es, .List xs _ => ckEs sc top es xs
  | sc, top, .ix a i, .Subscript x y _ => okX y && (ckE sc top a x && ckE sc top i y)
  | sc, top, .lrg tp _ (.cons e .nil), .Call (.Name f _) [.Call (.Name r _) [x] [] _] [] _ => decide (r = ("range" : Str)) && (decide (f = if tp then ("tuple" : Str) else "list") && (glB sc r && (glB sc f && (decide (r ∈ T.free) && (decide (f ∈ T.free) && (okX x && ckE sc top e x))))))
  | sc, top, .lrg tp _ (.cons e (.cons e2 .nil)), .Call (.Name f _) [.Call (.Name r _) [x, y] [] _] [] _ => decide (r = ("range" : Str)) && (decide (f = if tp then ("tuple" : Str) else "list") && (glB sc r && (glB sc f && (decide (r ∈ T.free) && (decide (f ∈ T.free) && (okX x && (okX y && (ckE sc top e x && ckE sc top e2 y))))))))
  | sc, top, .dis ks es, .Dict keys vals _ => (!keys.isEmpty && Nat.ble keys.length 15) && ckDs sc top ks es keys vals
  | sc, top, .sl _ a lo hi, .Subscript x (.Slice xl xh none _) _ => ckE sc top a x && (ckO sc top lo xl && ckO sc top hi xh)
  | sc, top, .rev _ a, .Subscript x (.Slice none none (some (.UnaryOp .USub (.Constant (.int 1) _ _) _)) _) _ => ckE sc top a x
  | sc, top, .call j pm es ks, .Call (.Name x _) xs kws _ => (match T.defs[j]? with
    | some dd => decide (dd.1 = x) && decide (arity pm (xs.length + kws.length) = dd.2.length)
    | none => false) && (decide (j < lv) && (glB sc x && (ckEs sc top es xs && (ckKs sc top ks kws && (match kwN kws with
      | some kn => decide ((j, xs.length, kn, pm) ∈ T.binds)
      | none => false)))))
  | sc, top, .bi b _ es, .Call (.Name x _) (x0 :: xs) [] _ => decide (x = biName b) && (glB sc x && (decide (x ∈ T.free) && ckEs sc top es (x0 :: xs)))
  | sc, top, .me m o .nil, .Call (.Attribute x nm ap) [] [] cp => meB m && (decide (nm = meName m) && (okA x && ((ap.endLine == cp.line) && ckE sc top o x)))
  | sc, top, .me m o (.cons e .nil), .Call (.Attribute x nm ap) [y] [] cp => meB m && (decide (nm = meName m) && (okA x && ((ap.endLine == cp.line) && (okX y && (ckE sc top o x && ckE sc top e y)))))
  | sc, top, .isi e t, .Call (.Name f _) [x, y] [] _ => decide (f = ("isinstance" : Str)) && (nameB (Str.ofString (tyS t)) y && (glB sc f && (glB sc (Str.ofString (tyS t)) && (decide (f ∈ T.free) && (decide (Str.ofString (tyS t) ∈ T.free) && (okX x && ckE sc top e x))))))
  | _, _, .dnew _, .Dict [] [] _ => true
  | sc, top, .dget o es z, .Call (.Attribute x nm ap) [kx, zx] [] cp => decide (nm = ("get" : Str)) && (okA x && ((ap.endLine == cp.line) && (okX zx && (ckK z zx && (ckE sc top o x && (match kx with
    | .Tuple xs _ _ => ckEs sc top es xs
    | _ => false))))))
  | sc, top, .din n k o, .Compare x [op] [y] _ => cmB (if n then .NotIn else .In) op && (okX y && (ckE sc top k x && ckE sc top o y))
  | sc, top, .co _ t it c e own, .ListComp x [⟨tg, iter, ifs, 0⟩] scope _ => ckI sc top it tg iter && (okX iter && (ckT N (relS scope sc) (some scope) t tg && (ckC (relS scope sc) (some scope) c ifs && (ckE (relS scope sc) (some scope) e x && (blkC N sc scope (ownN N own) && (slotsT t).all (fun i => own.contains i))))))
  | _, _, _, _ => false
def ckEs : Scope → Option Scope → Es → List Expr → Bool
  | _, _, .nil, [] => true
  | sc, top, .cons e r, x :: xs => okX x && (ckE sc top e x && ckEs sc top r xs)
  | _, _, _, _ => false
def ckDs : Scope → Option Scope → List Str → Es → List (Option Expr) → List Expr → Bool
  | _, _, [], .nil, [], [] => true
  | sc, top, k :: ks, .cons e r, some (.Constant (.str x) _ _) :: keys, v :: vals => decide (k = x) && (ckE sc top e v && ckDs sc top ks r keys vals)
  | _, _, _, _, _, _ => false
def ckKs : Scope → Option Scope → Es → List Keyword → Bool
  | _, _, .nil, [] => true
  | sc, top, .cons e r, ⟨_, x, _⟩ :: xs => ckE sc top e x && ckKs sc top r xs
  | _, _, _, _ => false
def ckO : Scope → Option Scope → Oe → Option Expr → Bool
  | _, _, .no, none => true
  | sc, top, .so e, some x => ckE sc top e x
  | _, _, _, _ => false
def ckC : Scope → Option Scope → Oe → List Expr → Bool
  | _, _, .no, [] => true
  | sc, top, .so e, [x] => ckE sc top e x
  | _, _, _, _ => false
def ckI : Scope → Option Scope → It → Expr → Expr → Bool
  | sc, top, .seq e, _, x => ckE sc top e x
  | sc, top, .rng (.cons e .nil), _, .Call (.Name x _) [y] [] _ => decide (x = ("range" : Str)) && (glB sc x && (decide (x ∈ T.free) && (okX y && ckE sc top e y)))
  | sc, top, .rng (.cons e (.cons e2 .nil)), _, .Call (.Name x _) [y, z] [] _ => decide (x = ("range" : Str)) && (glB sc x && (decide (x ∈ T.free) && (okX y && (okX z && (ckE sc top e y && ckE sc top e2 z)))))
  | sc, top, .rng (.cons e (.cons e2 (.cons e3 .nil))), _, .Call (.Name x _) [y, z, z2] [] _ => decide (x = ("range" : Str)) && (glB sc x && (decide (x ∈ T.free) && (okX y && (okX z && (okX z2 && (ckE sc top e y && (ckE sc top e2 z && ckE sc top e3 z2)))))))
  | sc, top, .enu e, .Tuple _ _ _, .Call (.Name x _) [y] [] _ => decide (x = ("enumerate" : Str)) && (glB sc x && (decide (x ∈ T.free) && (okX y && ckE sc top e y)))
  | sc, top, .zip e e2, .Tuple _ _ _, .Call (.Name x _) [y, z] [] _ => decide (x = ("zip" : Str)) && (glB sc x && (decide (x ∈ T.free) && (okX y && (okX z && (ckE sc top e y && ckE sc top e2 z)))))
  | _, _, _, _, _ => false
end
end
section
variable {T : Tb} {P : Pg} {lv : Nat} {N : List Str}
theorem and1 {a b : Bool} (h : (a && b) = true) : a = true ∧ b = true := Bool.and_eq_true_iff.mp h
theorem ckEs_ok {sc : Scope} {top : Option Scope} : ∀ {es : Es} {xs : List Expr}, ckEs T lv N sc top es xs = true → xs.all okX = true ∧ es.len = xs.length
  | .nil, [], _ => ⟨rfl, rfl⟩
  | .nil, _ :: _, h => nomatch h
  | .cons _ _, [], h => nomatch h
  | .cons e r, x :: xs, h => by
    obtain ⟨h1, h2⟩ := and1 h
    obtain ⟨h3, h4⟩ := and1 h2
    obtain ⟨i1, i2⟩ := ckEs_ok h4
    exact ⟨by rw [List.all_cons, h1, i1]; rfl, by show r.len + 1 = xs.length + 1; rw [i2]⟩
theorem ckKs_ok {sc : Scope} {top : Option Scope} : ∀ {es : Es} {xs : List Keyword}, ckKs T lv N sc top es xs = true → es.len = xs.length
  | .nil, [], _ => rfl
  | .nil, _ :: _, h => nomatch h
  | .cons _ _, [], h => nomatch h
  | .cons e r, ⟨nm, x, kp⟩ :: xs, h => by
    obtain ⟨h1, h2⟩ := and1 h
    show r.len + 1 = xs.length + 1
    rw [ckKs_ok h2]
theorem snd_k {X : Cx} {d : D} {ex : Expr} (h : ckK d ex = true) : Snd X P (.k d) ex := by
  cases ex with
  | Constant c k pos =>
    refine Snd.plain ?_ rfl
    cases d with
    | non =>
      cases c with
      | none => exact snd_const pe_non fun _ _ => rfl
      | _ => cases h
    | bl b =>
      cases c with
      | bool c =>
        obtain rfl : b = c := eq_of_beq h
        exact snd_const pe_bl fun _ _ => rfl
      | _ => cases h
    | int i =>
      cases c with
      | int j =>
        obtain rfl : i = j := of_decide_eq_true h
        exact snd_const pe_int fun _ _ => rfl
      | _ => cases h
    | str s =>
      cases c with
      | str z =>
        obtain rfl : s = z := of_decide_eq_true h
        exact snd_const pe_str fun _ _ => rfl
      | _ => cases h
    | dic ks ds => cases ks <;> cases ds <;> cases h
    | _ => cases h
  | Dict keys vals pos =>
    cases d with
    | dic ks ds =>
      cases ks with
      | cons _ _ => cases h
      | nil =>
        cases ds with
        | cons _ _ => cases h
        | nil =>
          cases keys with
          | cons _ _ => cases h
          | nil =>
            cases vals with
            | cons _ _ => cases h
            | nil => exact Snd.plain snd_emp rfl
    | _ => cases h
  | _ => cases d <;> first | cases h | (rename_i ks ds; cases ks <;> cases ds <;> cases h)
mutual
theorem sndE : ∀ (e : E) (sc : Scope) (top : Option Scope) (X : Cx) (ex : Expr), GX T P lv N sc top X → ckE T lv N sc top e ex = true → Snd X P e ex
  | .v i, sc, top, X, ex, G, h => by
    cases ex with
    | Name x pos =>
      obtain ⟨h1, h2⟩ := and1 h
      obtain ⟨h2, h3⟩ := and1 h2
      obtain ⟨h3, h4⟩ := and1 h3
      exact Snd.plain (snd_var G (of_decide_eq_true h1) (visB_ok h2) (by simpa using h3) (by simpa using h4)) rfl
    | _ => cases h
  | .k d, sc, top, X, ex, G, h => snd_k h
  | .gl i, sc, top, X, ex, G, h => by
    cases ex with
    | Name x pos =>
      obtain ⟨h1, h2⟩ := and1 h
      obtain ⟨h2, h3⟩ := glB_ok h2
      cases q : T.cons[i]? with
      | none => rw [q] at h1; cases h1
      | some c =>
        rw [q] at h1
        obtain rfl : c.1 = x := of_decide_eq_true h1
        exact Snd.plain (snd_glob G q h2 h3) rfl
    | _ => cases h
  | .op o md a b, sc, top, X, ex, G, h => by
    cases ex with
    | BinOp x o' y pos =>
      obtain ⟨h1, h2⟩ := and1 h
      obtain ⟨h2, h3⟩ := and1 h2
      obtain rfl := opB_ok h1
      exact Snd.plain (snd_op G (sndE a sc top X x G h2) (sndE b sc top X y G h3)) rfl
    | _ => cases h
  | .neg a, sc, top, X, ex, G, h => by
    cases ex with
    | UnaryOp op x pos =>
      cases op with
      | USub => exact Snd.plain (snd_neg G (sndE a sc top X x G h)) rfl
      | _ => cases h
    | _ => cases h
  | .no a, sc, top, X, ex, G, h => by
    cases ex with
    | UnaryOp op x pos =>
      cases op with
      | Not => exact snd_not G (sndE a sc top X x G h)
      | _ => cases h
    | _ => cases h
  | .an a b, sc, top, X, ex, G, h => by
    cases ex with
    | BoolOp op vs pos =>
      cases op with
      | Or => cases h
      | And =>
        match vs, h with
        | [], h => cases h
        | [_], h => cases h
        | [x, y], h =>
          obtain ⟨h1, h2⟩ := and1 h
          obtain ⟨p1, p2⟩ := snd_one (pos := pos) .And (sndE b sc top X y G h2)
          exact snd_and G (sndE a sc top X x G h1) p1 p2
        | x :: y :: z :: r, h =>
          obtain ⟨h1, h2⟩ := and1 h
          obtain ⟨h2, h3⟩ := and1 h2
          have s := sndE b sc top X (.BoolOp .And (y :: z :: r) pos) G h3
          exact snd_and G (sndE a sc top X x G h1) s.pe (s.pw _ _ _ rfl)
    | _ => cases h
  | .or a b, sc, top, X, ex, G, h => by
    cases ex with
    | BoolOp op vs pos =>
      cases op with
      | And => cases h
      | Or =>
        match vs, h with
        | [], h => cases h
        | [_], h => cases h
        | [x, y], h =>
          obtain ⟨h1, h2⟩ := and1 h
          obtain ⟨p1, p2⟩ := snd_one (pos := pos) .Or (sndE b sc top X y G h2)
          exact snd_or G (sndE a sc top X x G h1) p1 p2
        | x :: y :: z :: r, h =>
          obtain ⟨h1, h2⟩ := and1 h
          obtain ⟨h2, h3⟩ := and1 h2
          have s := sndE b sc top X (.BoolOp .Or (y :: z :: r) pos) G h3
          exact snd_or G (sndE a sc top X x G h1) s.pe (s.pw _ _ _ rfl)
    | _ => cases h
  | .cm c a b, sc, top, X, ex, G, h => by
    cases ex with
    | Compare x os ys pos =>
      match os, ys, h with
      | [o], [y], h =>
        obtain ⟨h1, h2⟩ := and1 h
        obtain ⟨h2, h3⟩ := and1 h2
        obtain ⟨h3, h4⟩ := and1 h3
        obtain rfl := cmB_ok h1
        exact snd_cm G (sndE a sc top X x G h3) (sndE b sc top X y G h4) h2
      | [], _, h => cases h
      | [_], [], h => cases h
      | [_], _ :: _ :: _, h => cases h
      | _ :: _ :: _, _, h => cases h
    | _ => cases h
  | .ch a c b c2 d, sc, top, X, ex, G, h => by
    cases ex with
    | Compare x os ys pos =>
      match os, ys, h with
      | [o, o2], [y, z], h =>
        obtain ⟨h1, h2⟩ := and1 h
        obtain ⟨h2, h3⟩ := and1 h2
        obtain ⟨h3, h4⟩ := and1 h3
        obtain ⟨h4, h5⟩ := and1 h4
        obtain ⟨h5, h6⟩ := and1 h5
        obtain ⟨h6, h7⟩ := and1 h6
        obtain rfl := cmB_ok h1
        obtain rfl := cmB_ok h2
        exact snd_ch G (sndE a sc top X x G h5) (sndE b sc top X y G h6) (sndE d sc top X z G h7) h3 h4
      | [], _, h => cases h
      | [_], _, h => cases h
      | [_, _], [], h => cases h
      | [_, _], [_], h => cases h
      | [_, _], _ :: _ :: _ :: _, h => cases h
      | _ :: _ :: _ :: _, _, h => cases h
    | _ => cases h
  | .ite c a b, sc, top, X, ex, G, h => by
    cases ex with
    | IfExp x y z pos =>
      obtain ⟨h1, h2⟩ := and1 h
      obtain ⟨h2, h3⟩ := and1 h2
      exact snd_ite G (sndE c sc top X x G h1) (sndE a sc top X y G h2) (sndE b sc top X z G h3)
    | _ => cases h
  | .tup es, sc, top, X, ex, G, h => by
    cases ex with
    | Tuple xs k pos => exact Snd.plain (snd_tup (sndEs es sc top X xs G h)) rfl
    | _ => cases h
  | .lst md es, sc, top, X, ex, G, h => by
    cases ex with
    | List xs pos => exact Snd.plain (snd_lst (sndEs es sc top X xs G h)) rfl
    | _ => cases h
  | .ix a i, sc, top, X, ex, G, h => by
    cases ex with
    | Subscript x y pos =>
      obtain ⟨h1, h2⟩ := and1 h
      obtain ⟨h2, h3⟩ := and1 h2
      exact Snd.plain (snd_ix G.hu1 (sndE a sc top X x G h2) (sndE i sc top X y G h3) h1) rfl
    | _ => cases h
  | .lrg tp md es, sc, top, X, ex, G, h => by
    match es, ex, h with
    | .cons e .nil, .Call (.Name f p2) [.Call (.Name r p) [x] [] pos] [] pos2, h =>
      obtain ⟨h1, k1⟩ := and1 h
      obtain ⟨h2, k2⟩ := and1 k1
      obtain ⟨h3, k3⟩ := and1 k2
      obtain ⟨h4, k4⟩ := and1 k3
      obtain ⟨h5, k5⟩ := and1 k4
      obtain ⟨h6, k6⟩ := and1 k5
      obtain ⟨h7, k7⟩ := and1 k6
      obtain rfl : r = "range" := of_decide_eq_true h1
      exact Snd.plain (snd_lrg1 G (sndE e sc top X x G k7).pe (of_decide_eq_true h2) (glB_ok h3).1 (glB_ok h4).1 (of_decide_eq_true h5) (of_decide_eq_true h6) h7) rfl
    | .cons e (.cons e2 .nil), .Call (.Name f p2) [.Call (.Name r p) [x, y] [] pos] [] pos2, h =>
      obtain ⟨h1, k1⟩ := and1 h
      obtain ⟨h2, k2⟩ := and1 k1
      obtain ⟨h3, k3⟩ := and1 k2
      obtain ⟨h4, k4⟩ := and1 k3
      obtain ⟨h5, k5⟩ := and1 k4
      obtain ⟨h6, k6⟩ := and1 k5
      obtain ⟨h7, k7⟩ := and1 k6
      obtain ⟨h8, k8⟩ := and1 k7
      obtain ⟨h9, k9⟩ := and1 k8
      obtain rfl : r = "range" := of_decide_eq_true h1
      exact Snd.plain (snd_lrg2 G (sndE e sc top X x G h9).pe (sndE e2 sc top X y G k9).pe (of_decide_eq_true h2) (glB_ok h3).1 (glB_ok h4).1 (of_decide_eq_true h5) (of_decide_eq_true h6) h7 h8) rfl
  | .dis ks es, sc, top, X, ex, G, h => by
    cases ex with
    | Dict keys vals pos =>
      obtain ⟨h1, h2⟩ := and1 h
      obtain ⟨h3, h4⟩ := and1 h1
      exact Snd.plain (snd_dis (sndDs es ks sc top X keys vals G h2) (by intro z; subst z; cases h3) (Nat.le_of_ble_eq_true h4)) rfl
    | _ => cases h
  | .sl md a lo hi, sc, top, X, ex, G, h => by
    cases ex with
    | Subscript x y pos =>
      cases y with
      | Slice xl xh st p2 =>
        cases st with
        | none =>
          obtain ⟨h1, h2⟩ := and1 h
          obtain ⟨h2, h3⟩ := and1 h2
          exact Snd.plain (snd_sl (sndE a sc top X x G h1).pe (sndO lo sc top X xl G h2) (sndO hi sc top X xh G h3)) rfl
        | some _ => cases h
      | _ => cases h
    | _ => cases h
  | .rev md a, sc, top, X, ex, G, h => by
    have hx : ∃ x k p1 p2 p3 pos, ex = .Subscript x (.Slice none none (some (.UnaryOp .USub (.Constant (.int 1) k p1) p2)) p3) pos ∧ ckE T lv N sc top a x = true := by
      unfold ckE at h
      split at h <;> first | (cases h; done) | skip
      all_goals (try rename_i heq; try cases heq)
      all_goals first
        | exact ⟨_, _, _, _, _, _, rfl, h⟩
        | contradiction
    obtain ⟨x, k, p1, p2, p3, pos, rfl, h⟩ := hx
    exact Snd.plain (snd_rev (sndE a sc top X x G h).pe) rfl
  | .isi e t, sc, top, X, ex, G, h => by
    match ex, h with
    | .Call (.Name f p) [x, y] [] pos, h =>
      obtain ⟨h1, k1⟩ := and1 h
      obtain ⟨h2, k2⟩ := and1 k1
      obtain ⟨h3, k3⟩ := and1 k2
      obtain ⟨h4, k4⟩ := and1 k3
      obtain ⟨h5, k5⟩ := and1 k4
      obtain ⟨h6, k6⟩ := and1 k5
      obtain ⟨h7, k7⟩ := and1 k6
      obtain rfl : f = "isinstance" := of_decide_eq_true h1
      obtain ⟨p2, rfl⟩ := nameB_ok h2
      exact Snd.plain (snd_isi G (sndE e sc top X x G k7).pe h7 (glB_ok h3).1 (glB_ok h4).1 (of_decide_eq_true h5) (of_decide_eq_true h6)) rfl
  | .dnew b, sc, top, X, ex, G, h => by
    match ex, h with
    | .Dict [] [] pos, h => exact Snd.plain snd_dnew rfl
  | .dget o es z, sc, top, X, ex, G, h => by
    match ex, h with
    | .Call (.Attribute x nm ap) [kx, zx] [] cp, h =>
      obtain ⟨h1, k1⟩ := and1 h
      obtain ⟨h2, k2⟩ := and1 k1
      obtain ⟨h3, k3⟩ := and1 k2
      obtain ⟨h4, k4⟩ := and1 k3
      obtain ⟨h5, k5⟩ := and1 k4
      obtain ⟨h6, h7⟩ := and1 k5
      obtain rfl : nm = "get" := of_decide_eq_true h1
      cases kx with
      | Tuple xs k p => exact Snd.plain (snd_dget G (sndE o sc top X x G h6).pe (sndEs es sc top X xs G h7) (snd_k h5).pe h2 h3 h4) rfl
      | _ => cases h7
  | .din n a b, sc, top, X, ex, G, h => by
    match ex, h with
    | .Compare x [o] [y] pos, h =>
      obtain ⟨h1, k1⟩ := and1 h
      obtain ⟨h2, k2⟩ := and1 k1
      obtain ⟨h3, h4⟩ := and1 k2
      obtain rfl := cmB_ok h1
      exact snd_din G (sndE a sc top X x G h3) (sndE b sc top X y G h4) h2
  | .call j pm es ks, sc, top, X, ex, G, h => by
    cases ex with
    | Call f xs kws pos =>
      cases f with
      | Name x p =>
        obtain ⟨h1, k2⟩ := and1 h
        obtain ⟨h2, k3⟩ := and1 k2
        obtain ⟨h3, k4⟩ := and1 k3
        obtain ⟨h4, k5⟩ := and1 k4
        obtain ⟨h5, h6⟩ := and1 k5
        obtain ⟨g1, g2⟩ := glB_ok h3
        cases q : T.defs[j]? with
        | none => rw [q] at h1; cases h1
        | some dd =>
          rw [q] at h1
          obtain ⟨h7, h8⟩ := and1 h1
          obtain rfl : dd.1 = x := of_decide_eq_true h7
          cases q2 : kwN kws with
          | none => rw [q2] at h6; cases h6
          | some kn =>
            rw [q2] at h6
            obtain ⟨o1, o2⟩ := ckEs_ok h4
            exact Snd.plain (snd_call G q (of_decide_eq_true h2) g1 g2 (sndEs es sc top X xs G h4) (sndKs ks sc top X kws G h5) o1 q2 (of_decide_eq_true h6) o2 (ckKs_ok h5) (of_decide_eq_true h8)) rfl
      | _ => cases h
    | _ => cases h
  | .bi b md es, sc, top, X, ex, G, h => by
    cases ex with
    | Call f xs kws pos =>
      cases f with
      | Name x p =>
        cases xs with
        | nil => cases h
        | cons x0 xs =>
          cases kws with
          | cons _ _ => cases h
          | nil =>
            obtain ⟨h1, h2⟩ := and1 h
            obtain ⟨h2, h3⟩ := and1 h2
            obtain ⟨h3, h4⟩ := and1 h3
            obtain rfl : x = biName b := of_decide_eq_true h1
            obtain ⟨g1, g2⟩ := glB_ok h2
            exact Snd.plain (snd_bi G (sndEs es sc top X (x0 :: xs) G h4) g1 (of_decide_eq_true h3) (ckEs_ok h4).1) rfl
      | _ => cases xs <;> cases h
    | _ => cases h
  | .me m o es, sc, top, X, ex, G, h => by
    cases ex with
    | Call f xs kws pos =>
      cases f with
      | Attribute x nm ap =>
        match es, xs, kws, h with
        | .nil, [], [], h =>
          obtain ⟨h1, h2⟩ := and1 h
          obtain ⟨h2, h3⟩ := and1 h2
          obtain ⟨h3, h4⟩ := and1 h3
          obtain ⟨h4, h5⟩ := and1 h4
          obtain rfl : nm = meName m := of_decide_eq_true h2
          exact Snd.plain (snd_me0 m (by cases m <;> first | rfl | cases h1) (sndE o sc top X x G h5).pe h3 h4) rfl
        | .cons e .nil, [y], [], h =>
          obtain ⟨h1, h2⟩ := and1 h
          obtain ⟨h2, h3⟩ := and1 h2
          obtain ⟨h3, h4⟩ := and1 h3
          obtain ⟨h4, h5⟩ := and1 h4
          obtain ⟨h5, h6⟩ := and1 h5
          obtain ⟨h6, h7⟩ := and1 h6
          obtain rfl : nm = meName m := of_decide_eq_true h2
          exact Snd.plain (snd_me1 m (by cases m <;> first | rfl | cases h1) (sndE o sc top X x G h6).pe (sndE e sc top X y G h7).pe h3 h4 h5) rfl
        | .nil, _ :: _, _, h => cases h
        | .nil, [], _ :: _, h => cases h
        | .cons _ .nil, [], _, h => cases h
        | .cons _ .nil, [_], _ :: _, h => cases h
        | .cons _ .nil, _ :: _ :: _, _, h => cases h
        | .cons _ (.cons _ _), _, _, h => cases h
      | _ => cases es with
        | nil => cases h
        | cons _ r => cases r <;> cases h
    | _ => cases es with
      | nil => cases h
      | cons _ r => cases r <;> cases h
  | .co md t it c e own, sc, top, X, ex, G, h => by
    have hx : ∃ x tg iter ifs scope pos, ex = .ListComp x [⟨tg, iter, ifs, 0⟩] scope pos ∧ (ckI T lv N sc top it tg iter && (okX iter && (ckT N (relS scope sc) (some scope) t tg && (ckC T lv N (relS scope sc) (some scope) c ifs && (ckE T lv N (relS scope sc) (some scope) e x && (blkC N sc scope (ownN N own) && (slotsT t).all (fun i => own.contains i))))))) = true := by
      unfold ckE at h
      split at h <;> first | (cases h; done) | skip
      all_goals (try rename_i heq; try cases heq)
      all_goals first
        | exact ⟨_, _, _, _, _, _, rfl, h⟩
        | contradiction
    obtain ⟨x, tg, iter, ifs, scope, pos, rfl, h⟩ := hx
    obtain ⟨h1, h2⟩ := and1 h
    obtain ⟨h2, h3⟩ := and1 h2
    obtain ⟨h3, h4⟩ := and1 h3
    obtain ⟨h4, h5⟩ := and1 h4
    obtain ⟨h5, h6⟩ := and1 h5
    obtain ⟨h6, h7⟩ := and1 h6
    have ok := blkOk_by h6
    have hs : ∀ i ∈ slotsT t, i ∈ own := fun i hi => by simpa using List.all_eq_true.mp h7 i hi
    refine Snd.plain (PEimp (pe_lc (own := ownN N own) (wi := rdI X.K (evI P it)) (g := gD X.K t) (tt := rdT X.K (evC P c)) (te := rd X.K (evE P e)) G.calm (by rw [G.hN]; exact G.nd) (sndI it sc top X tg iter G h1) (by rw [G.hN, G.sco]; exact ok)
      (fun s H C cl fp => sndT (G.blk ok.kind s H C cl fp) t tg h3) (fun s H C cl fp => sndC c _ _ _ ifs (G.blk ok.kind s H C cl fp) h4)
      (fun s H C cl fp => (sndE e _ _ _ x (G.blk ok.kind s H C cl fp) h5).pe) (folded_ok h2)) fun σ H Q q => ?_) rfl
    rw [ownN_slots]
    exact coL_read hs σ H Q q
theorem sndEs : ∀ (es : Es) (sc : Scope) (top : Option Scope) (X : Cx) (xs : List Expr), GX T P lv N sc top X → ckEs T lv N sc top es xs = true → PA X xs (rdA X.K (evEs P es))
  | .nil, sc, top, X, xs, G, h => by
    cases xs with
    | nil => exact snd_nil
    | cons _ _ => cases h
  | .cons e r, sc, top, X, xs, G, h => by
    cases xs with
    | nil => cases h
    | cons x xs =>
      obtain ⟨h1, h2⟩ := and1 h
      obtain ⟨h2, h3⟩ := and1 h2
      exact snd_cons (sndE e sc top X x G h2).pe (sndEs r sc top X xs G h3) h1
theorem sndKs : ∀ (es : Es) (sc : Scope) (top : Option Scope) (X : Cx) (xs : List Keyword), GX T P lv N sc top X → ckKs T lv N sc top es xs = true → PK X xs (rdA X.K (evEs P es))
  | .nil, sc, top, X, xs, G, h => by
    cases xs with
    | nil => exact snd_knil
    | cons _ _ => cases h
  | .cons e r, sc, top, X, xs, G, h => by
    cases xs with
    | nil => cases h
    | cons x xs =>
      obtain ⟨nm, x, kp⟩ := x
      obtain ⟨h2, h3⟩ := and1 h
      exact snd_kcons (sndE e sc top X x G h2).pe (sndKs r sc top X xs G h3)
theorem sndO : ∀ (o : Oe) (sc : Scope) (top : Option Scope) (X : Cx) (x : Option Expr), GX T P lv N sc top X → ckO T lv N sc top o x = true → PO X x (rdO X.K (evO P o))
  | .no, sc, top, X, x, G, h => by
    cases x with
    | none => exact snd_ono
    | some _ => cases h
  | .so e, sc, top, X, x, G, h => by
    cases x with
    | none => cases h
    | some x => exact snd_oso (sndE e sc top X x G h).pe
theorem sndC : ∀ (o : Oe) (sc : Scope) (top : Option Scope) (X : Cx) (xs : List Expr), GX T P lv N sc top X → ckC T lv N sc top o xs = true → PTs X xs (rdT X.K (evC P o))
  | .no, sc, top, X, xs, G, h => by
    cases xs with
    | nil =>
      refine ⟨fun pins s σ H Q I q => pts_nil.run pins s σ H Q I ?_⟩
      obtain ⟨A, w, S, b, w', e, q⟩ := q
      cases e
      exact q A H (Step.refl A H) S
    | cons _ _ => cases h
  | .so e, sc, top, X, xs, G, h => by
    match xs, h with
    | [], h => cases h
    | [x], h => exact pts_one (sndE e sc top X x G h).pt
    | _ :: _ :: _, h => cases h
theorem sndDs : ∀ (es : Es) (ks : List Str) (sc : Scope) (top : Option Scope) (X : Cx) (keys : List (Option Expr)) (vals : List Expr), GX T P lv N sc top X → ckDs T lv N sc top ks es keys vals = true → PrOk X P ks es keys vals
  | .nil, ks, sc, top, X, keys, vals, G, h => by
    match ks, keys, vals, h with
    | [], [], [], h => exact .nil
    | [], [], _ :: _, h => cases h
    | [], _ :: _, _, h => cases h
    | _ :: _, [], _, h => cases h
    | _ :: _, none :: _, _, h => cases h
    | _ :: _, some k :: _, vals, h => cases k <;> first | (cases h; done) | (rename_i c _ _; cases c <;> first | (cases h; done) | (cases vals <;> cases h))
  | .cons e r, ks, sc, top, X, keys, vals, G, h => by
    match ks, keys, vals, h with
    | k :: ks, some (.Constant (.str x) _ _) :: keys, v :: vals, h =>
      obtain ⟨h1, h2⟩ := and1 h
      obtain ⟨h2, h3⟩ := and1 h2
      have e1 := of_decide_eq_true h1
      subst e1
      exact .cons (sndE e sc top X _ G h2).pe (sndDs r _ sc top X _ _ G h3)
theorem sndI : ∀ (it : It) (sc : Scope) (top : Option Scope) (X : Cx) (tg iter : Expr), GX T P lv N sc top X → ckI T lv N sc top it tg iter = true → PI X tg iter (rdI X.K (evI P it))
  | .seq e, sc, top, X, tg, iter, G, h => snd_iseq (sndE e sc top X iter G h).pe
  | .rng es, sc, top, X, tg, iter, G, h => by
    cases iter with
    | Call f xs kws pos =>
      cases f with
      | Name x p =>
        match es, xs, kws, h with
        | .cons e .nil, [y], [], h =>
          obtain ⟨h1, h2⟩ := and1 h
          obtain ⟨h2, h3⟩ := and1 h2
          obtain ⟨h3, h4⟩ := and1 h3
          obtain ⟨h4, h5⟩ := and1 h4
          obtain rfl : x = "range" := of_decide_eq_true h1
          exact snd_rng1 G (sndE e sc top X y G h5).pe (glB_ok h2).1 (of_decide_eq_true h3) h4
        | .cons e (.cons e2 .nil), [y, z], [], h =>
          obtain ⟨h1, h2⟩ := and1 h
          obtain ⟨h2, h3⟩ := and1 h2
          obtain ⟨h3, h4⟩ := and1 h3
          obtain ⟨h4, h5⟩ := and1 h4
          obtain ⟨h5, h6⟩ := and1 h5
          obtain ⟨h6, h7⟩ := and1 h6
          obtain rfl : x = "range" := of_decide_eq_true h1
          exact snd_rng2 G (sndE e sc top X y G h6).pe (sndE e2 sc top X z G h7).pe (glB_ok h2).1 (of_decide_eq_true h3) h4 h5
        | .cons e (.cons e2 (.cons e3 .nil)), [y, z, z2], [], h =>
          obtain ⟨h1, h2⟩ := and1 h
          obtain ⟨h2, h3⟩ := and1 h2
          obtain ⟨h3, h4⟩ := and1 h3
          obtain ⟨h4, h5⟩ := and1 h4
          obtain ⟨h5, h6⟩ := and1 h5
          obtain ⟨h6, h7⟩ := and1 h6
          obtain ⟨h7, h8⟩ := and1 h7
          obtain ⟨h8, h9⟩ := and1 h8
          obtain rfl : x = "range" := of_decide_eq_true h1
          exact snd_rng3 G (sndE e sc top X y G h7).pe (sndE e2 sc top X z G h8).pe (sndE e3 sc top X z2 G h9).pe (glB_ok h2).1 (of_decide_eq_true h3) h4 h5 h6
        | .nil, _, _, h => cases h
        | .cons _ .nil, [], _, h => cases h
        | .cons _ .nil, [_], _ :: _, h => cases h
        | .cons _ .nil, _ :: _ :: _, _, h => cases h
        | .cons _ (.cons _ .nil), [], _, h => cases h
        | .cons _ (.cons _ .nil), [_], _, h => cases h
        | .cons _ (.cons _ .nil), [_, _], _ :: _, h => cases h
        | .cons _ (.cons _ .nil), _ :: _ :: _ :: _, _, h => cases h
        | .cons _ (.cons _ (.cons _ .nil)), [], _, h => cases h
        | .cons _ (.cons _ (.cons _ .nil)), [_], _, h => cases h
        | .cons _ (.cons _ (.cons _ .nil)), [_, _], _, h => cases h
        | .cons _ (.cons _ (.cons _ .nil)), [_, _, _], _ :: _, h => cases h
        | .cons _ (.cons _ (.cons _ .nil)), _ :: _ :: _ :: _ :: _, _, h => cases h
        | .cons _ (.cons _ (.cons _ (.cons _ _))), _, _, h => cases h
      | _ => 
        exfalso
        unfold ckI at h
        split at h <;> first | (cases h; done) | (rename_i heq; cases heq)
    | _ => 
      exfalso
      unfold ckI at h
      split at h <;> first | (cases h; done) | (rename_i heq; cases heq)
  | .enu e, sc, top, X, tg, iter, G, h => by
    have hx : ∃ elts kk tp x p y pos, tg = .Tuple elts kk tp ∧ iter = .Call (.Name x p) [y] [] pos ∧ (decide (x = ("enumerate" : Str)) && (glB sc x && (decide (x ∈ T.free) && (okX y && ckE T lv N sc top e y)))) = true := by
      unfold ckI at h
      split at h
      all_goals (try (rename_i heq; cases heq; done))
      all_goals first
        | (cases h; done)
        | (rename_i heq _; cases heq; exact ⟨_, _, _, _, _, _, _, rfl, rfl, h⟩)
        | (rename_i heq; cases heq; exact ⟨_, _, _, _, _, _, _, rfl, rfl, h⟩)
    obtain ⟨elts, kk, tp, x, p, y, pos, rfl, rfl, h⟩ := hx
    obtain ⟨h1, h2⟩ := and1 h
    obtain ⟨h2, h3⟩ := and1 h2
    obtain ⟨h3, h4⟩ := and1 h3
    obtain ⟨h4, h5⟩ := and1 h4
    obtain rfl : x = "enumerate" := of_decide_eq_true h1
    exact snd_enu G (sndE e sc top X y G h5).pe (glB_ok h2).1 (of_decide_eq_true h3) h4
  | .zip e e2, sc, top, X, tg, iter, G, h => by
    have hx : ∃ elts kk tp x p y z pos, tg = .Tuple elts kk tp ∧ iter = .Call (.Name x p) [y, z] [] pos ∧ (decide (x = ("zip" : Str)) && (glB sc x && (decide (x ∈ T.free) && (okX y && (okX z && (ckE T lv N sc top e y && ckE T lv N sc top e2 z)))))) = true := by
      unfold ckI at h
      split at h
      all_goals (try (rename_i heq; cases heq; done))
      all_goals first
        | (cases h; done)
        | (rename_i heq _; cases heq; exact ⟨_, _, _, _, _, _, _, _, rfl, rfl, h⟩)
        | (rename_i heq; cases heq; exact ⟨_, _, _, _, _, _, _, _, rfl, rfl, h⟩)
    obtain ⟨elts, kk, tp, x, p, y, z, pos, rfl, rfl, h⟩ := hx
    obtain ⟨h1, h2⟩ := and1 h
    obtain ⟨h2, h3⟩ := and1 h2
    obtain ⟨h3, h4⟩ := and1 h3
    obtain ⟨h4, h5⟩ := and1 h4
    obtain ⟨h5, h6⟩ := and1 h5
    obtain ⟨h6, h7⟩ := and1 h6
    obtain rfl : x = "zip" := of_decide_eq_true h1
    exact snd_zip G (sndE e sc top X y G h6).pe (sndE e2 sc top X z G h7).pe (glB_ok h2).1 (of_decide_eq_true h3) h4 h5
end
end
end Fz

/-! Q14x: expressions that raise. -/
namespace Fz
open PySem PySem.Spec PyProof.Rows L2

/-- what is wished of an error that the evaluator tells -/
def XW (X : Cx) (er : List (Str × Option Str)) (W : WX) (A : Ad) (H : Hp) (x : Xd) : Prop := ∀ A' σ' H' cls d, Step A H A' H' → Sim X.K H' A' x.2.2 σ' → Exo X.mg er X.K H' A' x.1 x.2.1 cls d → W cls d σ' H'
def xE (X : Cx) (er : List (Str × Option Str)) (W : WX) (f : Wd → Option Xd) (σ : Sl) (H : Hp) : Prop := ∃ A w, Sim X.K H A w σ ∧ ∃ x, f w = some x ∧ XW X er W A H x
theorem XW.step {X : Cx} {er : List (Str × Option Str)} {W : WX} {A A1 : Ad} {H H1 : Hp} {x : Xd} (q : XW X er W A H x) (s : Step A H A1 H1) : XW X er W A1 H1 x := fun A' σ' H' cls d st S e => q A' σ' H' cls d (s.trans st) S e
section
variable {X : Cx} {e : Expr}
theorem pe_orr {t1 t2 : TE} (h1 : PE X e t1) (h2 : PE X e t2) : PE X e (fun σ H Q => t1 σ H Q ∨ t2 σ H Q) := ⟨fun pins s σ H Q I q => q.elim (h1.run pins s σ H Q I) (h2.run pins s σ H Q I)⟩
theorem pa_orr {es : List Expr} {t1 t2 : TA} (h1 : PA X es t1) (h2 : PA X es t2) : PA X es (fun σ H Q => t1 σ H Q ∨ t2 σ H Q) := ⟨fun pos pins s σ H Q I q => q.elim (h1.run pos pins s σ H Q I) (h2.run pos pins s σ H Q I)⟩
theorem pi_orr {tg : Expr} {t1 t2 : TI} (h1 : PI X tg e t1) (h2 : PI X tg e t2) : PI X tg e (fun σ H Q => t1 σ H Q ∨ t2 σ H Q) := ⟨fun pins s σ H Q I q => q.elim (h1.run pins s σ H Q I) (h2.run pins s σ H Q I)⟩
end
theorem orr_some {α : Type} {a b : Option α} {x : α} (h : orr a b = some x) : a = some x ∨ (a = none ∧ b = some x) := by
  cases a with
  | none => exact .inr ⟨rfl, h⟩
  | some y => exact .inl h
theorem nx_some {α β : Type} {r : R α} {f : α → Option β} {x : β} (h : r.nx f = some x) : ∃ a, r = .ok a ∧ f a = some x := by
  cases r with
  | ok a => exact ⟨a, rfl, h⟩
  | _ => cases h
theorem excF_some {r : R (D × List (List D))} {w : Wd} {x : Xd} (h : excF r w = some x) : ∃ c es g, r = .exc c es g ∧ x = (c, es, { w with g := g }) := by
  cases r with
  | exc c es g => cases h; exact ⟨c, es, g, rfl, rfl⟩
  | _ => cases h
section
variable {T : Tb} {P : Pg} {lv : Nat} {N : List Str} {sc : Scope} {top : Option Scope} {X : Cx} {W : WX} {er : List (Str × Option Str)}
theorem xTwo {ga : Wd → R (D × Wd)} {fa fb : Wd → Option Xd} {σ : Sl} {H : Hp} {Q : VK} (q : xE X er W (fun w => orr (fa w) ((ga w).nx fun x => fb x.2)) σ H) : rd X.K ga σ H (fun _ H1 => xE X er W fb σ H1) ∨ xE X er W fa σ H := by
  obtain ⟨A, w, S, x, h, q⟩ := q
  rcases orr_some h with h | ⟨_, h⟩
  · exact .inr ⟨A, w, S, x, h, q⟩
  · obtain ⟨y, h1, h2⟩ := nx_some h
    exact .inl ⟨A, w, S, y.1, y.2, h1, fun A1 v H1 s1 S1 _ => ⟨A1, y.2, S1, x, h2, q.step s1⟩⟩
/-- an operator's two sides -/
theorem xnd_two {r : R2} {a b : E} {f : Wd → Option Xd} {x y ex : Expr} (hr : ∀ ta tb, PE X x ta → PE X y tb → PE X ex (tOp r ta tb)) (ha : PE X x (rd X.K (evE P a))) (xa : PE X x (fun σ H _ => xE X er W (rsE P a) σ H)) (xb : PE X y (fun σ H _ => xE X er W (rsE P b) σ H))
    (hf : ∀ w, f w = orr (rsE P a w) ((evE P a w).nx fun x => rsE P b x.2)) : PE X ex (fun σ H _ => xE X er W f σ H) := by
  obtain rfl : f = fun w => orr (rsE P a w) ((evE P a w).nx fun x => rsE P b x.2) := funext hf
  exact PEimp (hr _ _ (pe_orr ha xa) xb) fun σ H Q q => xTwo (Q := Q) q
theorem xnd_cons {e : E} {r : Es} {x : Expr} {xs : List Expr} (he : PE X x (rd X.K (evE P e))) (xe : PE X x (fun σ H _ => xE X er W (rsE P e) σ H)) (xr : PA X xs (fun σ H _ => xE X er W (rsEs P r) σ H)) (hx : okX x = true) :
    PA X (x :: xs) (fun σ H _ => xE X er W (rsEs P (.cons e r)) σ H) :=
  PAimp (pa_cons (pe_orr he xe) xr (starEach_cons hx)) fun σ H Q q => xTwo (Q := fun _ _ => True) q
theorem xnd_nil : PA X [] (fun σ H _ => xE X er W (rsEs P .nil) σ H) := by
  refine PAimp pa_nil fun σ H Q q => ?_
  obtain ⟨A, w, S, x, h, q⟩ := q
  cases h
/-- never -/
theorem xnd_no {ex : Expr} {f : Wd → Option Xd} (hf : ∀ w, f w = none) : PE X ex (fun σ H _ => xE X er W f σ H) := by
  refine ⟨fun pins s σ H Q I q => ?_⟩
  obtain ⟨A, w, S, x, h, q⟩ := q
  rw [hf] at h
  cases h
theorem xnd_bi (G : GX T P lv N sc top X) {b : Bi} {es : Es} {x : Expr} {xs : List Expr} {p pos : Pos} (h : PA X (x :: xs) (fun σ H _ => xE X er W (rsEs P es) σ H)) (hg : sc.names.lookup (biName b) = some .globalImplicit) (hf : biName b ∈ T.free) (hx : (x :: xs).all okX = true) :
    PE X (.Call (.Name (biName b) p) (x :: xs) [] pos) (fun σ H _ => xE X er W (rsEs P es) σ H) := by
  have hs := bi_sound (X := X) b 0 G.calm G.dig G.gd G.hu
  obtain ⟨b1, b2, b3⟩ := bi_boot b
  have gl : Gl X (biName b) := by show X.env.kindOf _ = _; unfold Env.kindOf; rw [G.sco]; exact hg
  obtain ⟨o1, o2⟩ := Bool.and_eq_true_iff.mp (show (okX x && xs.all okX) = true from hx)
  unfold biV at hs b1
  by_cases ht : biTy b = true
  · rw [if_pos ht] at hs b1
    exact PEimp (pe_callTy hs gl (G.free _ hf) b1 h b2 b3 (starEach_cons o1) (noStars o2)) fun σ H Q q => q
  · rw [if_neg ht] at hs b1
    exact PEimp (pe_callB hs gl (G.free _ hf) b1 h b2 b3 (starEach_cons o1) (noStars o2)) fun σ H Q q => q
/-! ### a call -/
theorem immRDs {K : PySem.W.Frag} {H : Hp} {A A' : Ad} : ∀ {ds : List D} {vs : List V}, ds.all isFlat = true → RDs K H A ds vs → RDs K H A' ds vs
  | [], _, _, h => h
  | d :: ds, _, o, h => by
    obtain ⟨v, r, rfl, x, y⟩ := h
    obtain ⟨o1, o2⟩ := Bool.and_eq_true_iff.mp (show (isFlat d && ds.all isFlat) = true by simpa using o)
    refine ⟨v, r, rfl, ?_, immRDs o2 y⟩
    cases d <;> first | exact x | cases o1
theorem immRD {K : PySem.W.Frag} {H : Hp} {A A' : Ad} {d : D} {v : V} (o : immD d = true) (h : RD K H A d v) : RD K H A' d v := by
  cases d with
  | tup ds =>
    obtain ⟨a, vs, rfl, q, r⟩ := h
    exact ⟨a, vs, rfl, q, immRDs o r⟩
  | _ => first | exact h | cases o
theorem Exo.moved {mg : Str → Option Value} {K : PySem.W.Frag} {H : Hp} {A A' : Ad} {c : Str} {es : List D} {cls : Value} {d : Option Addr} (h : Exo mg er K H A c es cls d) : Exo mg er K H A' c es cls d := by
  obtain ⟨C, f, h1, h2, h3, h4⟩ := h
  refine ⟨C, f, h1, h2, h3, ?_⟩
  rcases h4 with h4 | ⟨n, x, v, dd, a1, a2, a3, a4, a5, a6⟩
  · exact .inl h4
  · exact .inr ⟨n, x, v, dd, a1, a2, a3, a4, immRD a6 a5, a6⟩
theorem call_soundX (G : GX T P lv N sc top X) (tk : Takes X W) {j : Nat} {dd : Str × List Str} (hj : T.defs[j]? = some dd) (hlv : j < lv) :
    ∃ f, X.mg dd.1 = some (.ref f) ∧ PySem.W.keepIn X.K (.ref f) = true ∧ ∀ (n : Nat) (ks : List Str) (p : Option (List Nat)), (j, n, ks, p) ∈ T.binds →
      ∀ (pins : List (Addr × Obj)) (s : Shared) (σ : Sl) (H : Hp) (Q : VK) (us ws : List Value) (vs zs : List V) (A : Ad) (w : Wd) (ds es as bs : List D) (c : Str) (fs : List D) (g' : List (List D)),
        Inv X pins σ H s → Vals vs us → Vals zs ws → Sim X.K H A w σ → RDs X.K H A ds vs → RDs X.K H A es zs → ds.length = n → es.length = ks.length → lendL w (ds ++ es) = some as → arrD p as = some bs → bs.length = dd.2.length →
        P.F j bs w.g = .exc c fs g' → XW X T.errs W A H (c, fs, { w with g := g' }) → wpAny (model X.prog X.w) X.A (call (.ref f) us (ks.zip ws)) (EP X pins σ Q) X.xe s := by
  obtain ⟨f, fd, h1, h2, F, hb, hr, FX⟩ := G.defs j dd hj hlv
  refine ⟨f, h1, h2, fun n ks p hm pins s σ H Q us ws vs zs A w ds es as bs c fs g' I r1 r2 S q1 q2 l1 l2 e1 e2 l3 e3 q => ?_⟩
  have rr := lendL_rd S e1 (q1.append q2)
  obtain ⟨vs', us', e4, q', r'⟩ := arrD_rds rr (r1.append r2) e2
  have hbind := hb n ks p hm s us ws us' (by rw [← r1.length, q1.length]; exact l1) (by rw [← r2.length, q2.length]; exact l2) e4
  have hs : spX X.mg T.errs X.K (P.F j) dd.2.length vs' H (fun cls d H' => W cls d σ H') := by
    refine ⟨A.sub, w.g, bs, c, fs, g', rfl, rfl, S.sub, r', l3, e3, fun A1 H' cls d st hm S1 xo => ?_⟩
    obtain ⟨A', st', S', _⟩ := S.behind (d := .non) (v := V.non) st hm S1 rfl rfl
    exact q A' σ H' cls d st' S' xo.moved
  refine wpAny_call (codeAny_mono (FX.run X.A X.stack s H ⟨us, ks.zip ws⟩ us' vs' (fun cls d H' => W cls d σ H') G.room G.gd I.env0 hbind q' hs) fun r s' hq => ?_)
  cases r with
  | error e => exact tk e s' (XE.of_call I (fun _ _ _ h => h) hq)
  | ok fl => exact hq.elim
theorem rsL_len {ρ : Nat → Option D} {φ : Bool} : ∀ {ds es : List D}, rsL ρ φ ds = some es → es.length = ds.length
  | [], _, e => by cases e; rfl
  | d :: ds, es, e => by
    simp only [rsL, Option.bind_eq_some_iff, Option.map_eq_some_iff] at e
    obtain ⟨_, _, ys, e2, rfl⟩ := e
    rw [List.length_cons, List.length_cons, rsL_len e2]
theorem xnd_call (G : GX T P lv N sc top X) (tk : Takes X W) {j : Nat} {dd : Str × List Str} {pm : Option (List Nat)} {es ks : Es} {xs : List Expr} {kws : List Keyword} {kn : List Str} {p pos : Pos} (hj : T.defs[j]? = some dd) (hlv : j < lv) (hg : sc.names.lookup dd.1 = some .globalImplicit) (hd : (dd.1 == ("__debug__" : Str)) = false)
    (h1 : PA X xs (rdA X.K (evEs P es))) (x1 : PA X xs (fun σ H _ => xE X T.errs W (rsEs P es) σ H)) (h2 : PK X kws (rdA X.K (evEs P ks))) (hx : xs.all okX = true) (hk : kwN kws = some kn) (hb : (j, xs.length, kn, pm) ∈ T.binds) (l1 : es.len = xs.length) (l2 : ks.len = kws.length)
    (hl : arity pm (xs.length + kws.length) = dd.2.length) : PE X (.Call (.Name dd.1 p) xs kws pos) (fun σ H _ => xE X T.errs W (rsE P (.call j pm es ks)) σ H) := by
  obtain ⟨f, hm, hkp, run⟩ := call_soundX G tk hj hlv
  refine ⟨fun pins s σ H Q I q => ?_⟩
  have gl : Gl X dd.1 := by show X.env.kindOf _ = _; unfold Env.kindOf; rw [G.sco]; exact hg
  refine wpAny_Call_Name_kw (ld_glob I gl hm ?_ hd)
  obtain ⟨k1, k2, k3, k4⟩ := kwN_ok (pos := pos) (env := X.env) hk
  obtain ⟨A, w, S, xd, e1, q⟩ := q
  rcases orr_some e1 with e1 | ⟨_, e1⟩
  · -- an argument raises
    cases xs with
    | nil =>
      cases es with
      | nil => cases e1
      | cons _ _ => cases l1
    | cons x0 xs =>
      obtain ⟨o1, o2⟩ := Bool.and_eq_true_iff.mp (show (okX x0 && xs.all okX) = true from hx)
      have np : (backTo pos (starEach (x0 :: xs) X.env)).any (·.1) = false := noStars hx
      have main : wpAny (model X.prog X.w) X.A (spliced (backTo pos (starEach (x0 :: xs) X.env))) (AP X pins σ fun vs H1 => False) X.xe s :=
        x1.run pos pins s σ H _ I ⟨A, w, S, xd, e1, q⟩
      cases kws with
      | nil => exact PySem.W.callWith_K (h₀ := X.base) I.ok.mod.kin hkp (thn main fun us s1 ⟨vs, H1, I1, rv, z⟩ => z.elim) (starEach_cons o1) (noStars o2)
      | cons k0 kws => exact PySem.W.callWith_KW (h₀ := X.base) I.ok.mod.kin hkp k1 (thn main fun us s1 ⟨vs, H1, I1, rv, z⟩ => z.elim) (by rw [np, k3]; rfl) (starEach_cons o1)
  obtain ⟨x, ea, e1⟩ := nx_some e1
  obtain ⟨y, eb, e1⟩ := nx_some e1
  obtain ⟨as, ec, e1⟩ := nx_some e1
  obtain ⟨bs, ed, e1⟩ := nx_some e1
  obtain ⟨c, fs, g', ef, rfl⟩ := excF_some e1
  have l1' := evEs_len ea
  have l2' := evEs_len eb
  have lb : bs.length = dd.2.length := by
    rw [← hl]
    cases pm with
    | none =>
      have e := of_split ed
      cases e
      rw [rsL_len (of_split ec), List.length_append, l1', l2', l1, l2]
      rfl
    | some pp => exact arr_length (of_split ed)
  have fin : ∀ (A1 A2 : Ad) (H1 H2 : Hp) (s2 : Shared) (us ws : List Value) (vs zs : List V), Inv X pins σ H2 s2 → Step A H A1 H1 → Step A1 H1 A2 H2 → Vals vs us → Vals zs ws → RDs X.K H1 A1 x.1 vs → Sim X.K H2 A2 y.2 σ → RDs X.K H2 A2 y.1 zs →
      wpAny (model X.prog X.w) X.A (call (.ref f) us (kn.zip ws)) (EP X pins σ Q) X.xe s2 := fun A1 A2 H1 H2 s2 us ws vs zs I2 st1 st2 r1 r2 q1 S2 q2 =>
    run xs.length kn pm hb pins s2 σ H2 Q us ws vs zs A2 y.2 x.1 y.1 as bs c fs g' I2 r1 r2 S2 (q1.step st2.toCar) q2 (l1'.trans l1) (by rw [l2', l2, k4]) (of_split ec) (of_split ed) lb ef (q.step (st1.trans st2))
  have e0 : ∀ (s1 : Shared), Inv X pins σ H s1 → xs = [] → x.1 = [] := fun _ _ z => by
    have : x.1.length = 0 := by rw [l1', l1, z]; rfl
    exact List.length_eq_zero_iff.mp this
  cases xs with
  | nil =>
    have hx0 := e0 s I rfl
    have hw0 : x.2 = w := by
      cases es with
      | nil => cases ea; rfl
      | cons _ _ => cases l1
    rw [hw0] at eb
    cases kws with
    | nil =>
      cases hk
      have hy0 : y.1 = [] := List.length_eq_zero_iff.mp (by rw [l2', l2]; rfl)
      have hw1 : y.2 = w := by
        cases ks with
        | nil => cases eb; rfl
        | cons _ _ => cases l2
      refine PySem.W.callWith_K0 I.kIn hkp ?_
      exact fin A A H H s [] [] [] [] I (Step.refl A H) (Step.refl A H) .nil .nil (by rw [hx0]; exact rfl) (by rw [hw1]; exact S) (by rw [hy0]; exact rfl)
    | cons k0 kws =>
      refine PySem.W.callWith_KW0 (h₀ := X.base) I.ok.mod.kin hkp k1 (thn (h2.run pos pins s σ H (fun zs H2 => ∃ A2, Step A H A2 H2 ∧ Sim X.K H2 A2 y.2 σ ∧ RDs X.K H2 A2 y.1 zs) I ⟨A, w, S, y.1, y.2, eb, fun A2 zs H2 st S2 r2 => ⟨A2, st, S2, r2⟩⟩) fun ws s2 ⟨zs, H2, I2, rz, A2, st, S2, r2⟩ => ⟨I2.kIn, ?_⟩) (by show (false || _) = false; rw [k3]; rfl)
      rw [k2]
      exact fin A A2 H H2 s2 [] ws [] zs I2 (Step.refl A H) st .nil rz (by rw [hx0]; exact rfl) S2 r2
  | cons x0 xs =>
    obtain ⟨o1, o2⟩ := Bool.and_eq_true_iff.mp (show (okX x0 && xs.all okX) = true from hx)
    have np : (backTo pos (starEach (x0 :: xs) X.env)).any (·.1) = false := noStars hx
    have main : wpAny (model X.prog X.w) X.A (spliced (backTo pos (starEach (x0 :: xs) X.env))) (AP X pins σ fun vs H1 => ∃ A1, Step A H A1 H1 ∧ Sim X.K H1 A1 x.2 σ ∧ RDs X.K H1 A1 x.1 vs) X.xe s :=
      h1.run pos pins s σ H _ I ⟨A, w, S, x.1, x.2, ea, fun A1 vs H1 st S1 r1 => ⟨A1, st, S1, r1⟩⟩
    cases kws with
    | nil =>
      cases hk
      have hy0 : y.1 = [] := List.length_eq_zero_iff.mp (by rw [l2', l2]; rfl)
      have hw1 : y.2 = x.2 := by
        cases ks with
        | nil => cases eb; rfl
        | cons _ _ => cases l2
      refine PySem.W.callWith_K (h₀ := X.base) I.ok.mod.kin hkp (thn main fun us s1 ⟨vs, H1, I1, rv, A1, st, S1, r1⟩ => ⟨I1.kIn, ?_⟩) (starEach_cons o1) (noStars o2)
      exact fin A1 A1 H1 H1 s1 us [] vs [] I1 st (Step.refl A1 H1) rv .nil r1 (by rw [hw1]; exact S1) (by rw [hy0]; exact rfl)
    | cons k0 kws =>
      refine PySem.W.callWith_KW (h₀ := X.base) I.ok.mod.kin hkp k1 (thn main fun us s1 ⟨vs, H1, I1, rv, A1, st, S1, r1⟩ => ?_) (by rw [np, k3]; rfl) (starEach_cons o1)
      refine thn (h2.run pos pins s1 σ H1 (fun zs H2 => ∃ A2, Step A1 H1 A2 H2 ∧ Sim X.K H2 A2 y.2 σ ∧ RDs X.K H2 A2 y.1 zs) I1 ⟨A1, x.2, S1, y.1, y.2, eb, fun A2 zs H2 st S2 r2 => ⟨A2, st, S2, r2⟩⟩) fun ws s2 ⟨zs, H2, I2, rz, A2, st2, S2, r2⟩ => ⟨I2.kIn, ?_⟩
      rw [k2]
      exact fin A1 A2 H1 H2 s2 us ws vs zs I2 st st2 rv rz r1 S2 r2
end
end Fz

/-! Q15: statements. -/
namespace Fz
open PySem PySem.Spec PyProof.Rows L2

/-- what is wanted behind a statement's run -/
def EndD (K : PySem.W.Frag) (A : Ad) (H : Hp) (fl : Fl) (w' : Wd) (D : Ends) : Prop := match fl with
  | .nx => ∀ A' σ' H', Step A H A' H' → Sim K H' A' w' σ' → D.nx σ' H'
  | .bk => ∀ A' σ' H', Step A H A' H' → Sim K H' A' w' σ' → D.bk σ' H'
  | .ct => ∀ A' σ' H', Step A H A' H' → Sim K H' A' w' σ' → D.ct σ' H'
  | .rt d => ∀ A' v σ' H', Step A H A' H' → Sim K H' A' w' σ' → RD K H' A' d v → D.rt v H'
def rdS (K : PySem.W.Frag) (f : Wd → R (Fl × Wd)) : TS := fun D σ H => ∃ A w, Sim K H A w σ ∧ ∃ fl w', f w = .ok (fl, w') ∧ EndD K A H fl w' D
theorem PSimp {X : Cx} {e : Stmt} {t t' : TS} (h : PS X e t) (i : ∀ D σ H, t' D σ H → t D σ H) : PS X e t' := ⟨fun pins s σ H D I q => h.run pins s σ H D I (i D σ H q)⟩
theorem PSsimp {X : Cx} {e : List Stmt} {t t' : TS} (h : PSs X e t) (i : ∀ D σ H, t' D σ H → t D σ H) : PSs X e t' := ⟨fun pins s σ H D I q => h.run pins s σ H D I (i D σ H q)⟩
theorem EndD.step {K : PySem.W.Frag} {A A1 : Ad} {H H1 : Hp} {fl : Fl} {w' : Wd} {D : Ends} (q : EndD K A H fl w' D) (s : Step A H A1 H1) : EndD K A1 H1 fl w' D := by
  cases fl with
  | nx => exact fun A' σ' H' s' S => q A' σ' H' (s.trans s') S
  | bk => exact fun A' σ' H' s' S => q A' σ' H' (s.trans s') S
  | ct => exact fun A' σ' H' s' S => q A' σ' H' (s.trans s') S
  | rt d => exact fun A' v σ' H' s' S r => q A' v σ' H' (s.trans s') S r

/-! ### a loop's turn ends: names forgotten, own lists frozen -/
section
variable {K : PySem.W.Frag} {H : Hp} {A : Ad} {w : Wd} {σ : Sl}
theorem nodupA {l : List Addr} (h : l.Nodup) {i j : Nat} {x : Addr} (a : l[i]? = some x) (b : l[j]? = some x) : i = j := by
  obtain ⟨h1, e1⟩ := List.getElem?_eq_some_iff.mp a
  obtain ⟨h2, e2⟩ := List.getElem?_eq_some_iff.mp b
  exact (List.getElem_inj h).mp (e1.trans e2.symm)
theorem Sim.kill (S : Sim K H A w σ) (vs : List Nat) : Sim K H A { w with σ := wipeD w.σ vs } σ := by
  refine ⟨fun i d e => ?_, (wipeD_length _ _).trans S.len, S.mu, S.ga, S.nd, S.ndg, S.dj, S.djg, S.bt, S.cnt, S.cnd, S.gk⟩
  have e : (wipeD w.σ vs)[i]? = some (some d) := e
  rw [wipeD_get] at e
  by_cases h : i ∈ vs
  · rw [if_pos h] at e
    cases q : w.σ[i]? <;> rw [q] at e <;> cases e
  · rw [if_neg h] at e
    exact S.loc i d e
theorem keepO_ok {L : Nat} {m : List (List D)} : ∀ {σ σ' : List (Option D)}, keepO L m σ = some σ' → σ'.length = σ.length ∧ ∀ (i : Nat) d, σ'[i]? = some (some d) → ∃ d0, σ[i]? = some (some d0) ∧ rs (keep L m) true d0 = some d
  | [], _, e => by cases e; exact ⟨rfl, fun i d e => by simp at e⟩
  | none :: r, _, e => by
    obtain ⟨xs, e1, rfl⟩ := Option.map_eq_some_iff.mp (show (keepO L m r).map (fun xs => none :: xs) = some _ from e)
    obtain ⟨h1, h2⟩ := keepO_ok e1
    refine ⟨by rw [List.length_cons, List.length_cons, h1], fun i d e => ?_⟩
    cases i with
    | zero => simp at e
    | succ i => exact h2 i d (by simpa using e)
  | some x :: r, _, e => by
    obtain ⟨y, e0, e⟩ := Option.bind_eq_some_iff.mp (show (rs (keep L m) true x).bind (fun y => (keepO L m r).map fun xs => some y :: xs) = some _ from e)
    obtain ⟨xs, e1, rfl⟩ := Option.map_eq_some_iff.mp e
    obtain ⟨h1, h2⟩ := keepO_ok e1
    refine ⟨by rw [List.length_cons, List.length_cons, h1], fun i d e => ?_⟩
    cases i with
    | zero =>
      have ed : y = d := by simpa using e
      subst ed
      exact ⟨x, rfl, e0⟩
    | succ i => exact h2 i d (by simpa using e)
theorem rsL_ints {ρ : Nat → Option D} {φ : Bool} : ∀ ns : List Int, rsL ρ φ (ns.map D.int) = some (ns.map D.int)
  | [] => rfl
  | n :: ns => by
    show (rs ρ φ (.int n)).bind (fun y => (rsL ρ φ (ns.map D.int)).map fun ys => y :: ys) = _
    rw [rsL_ints ns]
    rfl
theorem EN.keep {A' : Ad} {ρ : Nat → Option D} {φ : Bool} {κ : Type} {kd : D → κ → Prop} (hkd : ∀ d q, kd d q → rs ρ φ d = some d) (hL : ∀ (d d' : D) (v : V), rs ρ φ d = some d' → RD K H A d v → RD K H A' d' v) :
    ∀ {es es' : List D} {kvs : List (κ × V)}, rsL ρ φ es = some es' → EN K H A kd es kvs → EN K H A' kd es' kvs
  | [], _, _, e, h => by cases e; exact h
  | e0 :: es, es', _, e, h => by
    obtain ⟨k, q, d, v, r, rfl, rfl, h1, h2, h3⟩ := h
    obtain ⟨y, e1, e⟩ := Option.bind_eq_some_iff.mp (show (rs ρ φ (.tup [k, d])).bind (fun y => (rsL ρ φ es).map fun ys => y :: ys) = some es' from e)
    obtain ⟨zs, e2, rfl⟩ := Option.map_eq_some_iff.mp e
    obtain ⟨us, e3, rfl⟩ := Option.map_eq_some_iff.mp (show (rsL ρ φ [k, d]).map D.tup = some y from e1)
    obtain ⟨k', e4, e3⟩ := Option.bind_eq_some_iff.mp (show (rs ρ φ k).bind (fun y => (rsL ρ φ [d]).map fun ys => y :: ys) = some us from e3)
    obtain ⟨ds, e5, rfl⟩ := Option.map_eq_some_iff.mp e3
    obtain ⟨d', e6, e5⟩ := Option.bind_eq_some_iff.mp (show (rs ρ φ d).bind (fun y => (rsL ρ φ []).map fun ys => y :: ys) = some ds from e5)
    obtain ⟨ds0, e7, rfl⟩ := Option.map_eq_some_iff.mp e5
    cases e7
    rw [hkd k q h1] at e4
    cases e4
    exact ⟨k, q, d', v, r, rfl, rfl, h1, hL d d' v e6 h2, EN.keep hkd hL e2 h3⟩
theorem Cell.keep {A' : Ad} {ρ : Nat → Option D} {φ : Bool} {a : Addr} {xs ys : List D} (h : Cell K H A a xs) (hL : ∀ (ds es : List D) (vs : List V), rsL ρ φ ds = some es → RDs K H A ds vs → RDs K H A' es vs) (e : rsL ρ φ xs = some ys) : Cell K H A' a ys := by
  have h1 : ∀ (d d' : D) (v : V), rs ρ φ d = some d' → RD K H A d v → RD K H A' d' v := fun d d' v e r => by
    have := hL [d] [d'] [v] (by show (rs ρ φ d).bind (fun y => (rsL ρ φ []).map fun ys => y :: ys) = _; rw [e]; rfl) (RDs.one r)
    exact (RDs.cons_iff.mp this).1
  rcases h with ⟨_, vs, h2, h3⟩ | ⟨n, ks, es, rfl, h2⟩
  · exact Cell.mk h2 (hL xs ys vs e h3)
  · obtain ⟨y, e1, e⟩ := Option.bind_eq_some_iff.mp (show (rs ρ φ (.dic ks es)).bind (fun y => (rsL ρ φ []).map fun ys => y :: ys) = some ys from e)
    obtain ⟨zs, e2, rfl⟩ := Option.map_eq_some_iff.mp e
    cases e2
    obtain ⟨es', e3, rfl⟩ := Option.map_eq_some_iff.mp (show (rsL ρ φ es).map (D.dic ks) = some y from e1)
    refine .inr ⟨n, ks, es', rfl, ?_⟩
    rcases h2 with ⟨kvs, n2, h2, h3⟩ | ⟨kvs, n2, h2, h3⟩
    · refine .inl ⟨kvs, n2, h2, h3.keep (fun d q hq => ?_) h1 e3⟩
      obtain ⟨ns, rfl, _⟩ := hq
      show (rsL ρ φ (ns.map D.int)).map D.tup = _
      rw [rsL_ints]
      rfl
    · refine .inr ⟨kvs, n2, h2, h3.keep (fun d q hq => ?_) h1 e3⟩
      obtain ⟨ns, rfl, _⟩ := hq
      rfl
theorem Sim.gc {L : Nat} {w' : Wd} (S : Sim K H A w σ) (e : w.gc L = some w') : Sim K H { A with mu := A.mu.take L } w' σ ∧ w'.g = w.g := by
  unfold Wd.gc at e
  simp only [Option.bind_eq_some_iff, Option.map_eq_some_iff] at e
  obtain ⟨σ1, e1, m1, e2, rfl⟩ := e
  have ho : ∀ a, A.out a → ({ A with mu := A.mu.take L } : Ad).out a := fun a h => ⟨fun z => h.1 (List.mem_of_mem_take z), h.2.1, h.2.2⟩
  have hk : ∀ (k : Nat) a d', keep L w.m k = some d' → A.mu[k]? = some a → RD K H { A with mu := A.mu.take L } d' (.ref a) := fun k a d' h1 h2 => by
    refine up_rd S ho (fun a _ h => h) rfl (fun k a hl h => ?_) (fun k a ys vs hl h1 h2 h3 => ?_) 4 k a d' h1 h2
    · rw [List.getElem?_take_of_lt hl]
      exact h
    · refine ⟨a, vs, rfl, h2, ⟨fun z => ?_, (S.dj a (List.mem_of_getElem? h1)).1, fun z => (S.cnd a z).1 (List.mem_of_getElem? h1)⟩, (S.dj a (List.mem_of_getElem? h1)).2, h3⟩
      obtain ⟨j, hj⟩ := List.getElem?_of_mem z
      have hj2 : j < L := by
        obtain ⟨l, _⟩ := List.getElem?_eq_some_iff.mp hj
        rw [List.length_take] at l
        omega
      rw [List.getElem?_take_of_lt hj2] at hj
      have := nodupA S.nd hj h1
      omega
  have hL : ∀ (ds es : List D) (vs : List V), rsL (keep L w.m) true ds = some es → RDs K H A ds vs → RDs K H { A with mu := A.mu.take L } es vs := fun ds es vs e r => rsL_rd hk ho (fun a _ h => h) rfl ds vs es e r
  refine ⟨⟨fun i d e => ?_, (keepO_ok e1).1.trans S.len, ?_, ?_, S.nd.sublist (List.take_sublist _ _), S.ndg, fun a h => S.dj a (List.mem_of_mem_take h), S.djg, S.bt, S.cnt, fun a h => ⟨fun z => (S.cnd a h).1 (List.mem_of_mem_take z), (S.cnd a h).2⟩, S.gk⟩, rfl⟩
  · obtain ⟨d0, h1, h2⟩ := (keepO_ok e1).2 i d e
    obtain ⟨v, h3, r⟩ := S.loc i d0 h1
    exact ⟨v, h3, rs_rd hk ho (fun a _ h => h) rfl d0 v d h2 r⟩
  · -- the own lists that stay
    have go : ∀ {as : List Addr} {ms ms' : List (List D)} (n : Nat), RL K H A as ms → keepM L w.m (ms.take n) = some ms' → RL K H { A with mu := A.mu.take L } (as.take n) ms' := fun {as} => by
      induction as with
      | nil =>
        intro ms ms' n h e
        rw [show ms = [] from h, List.take_nil] at e
        cases e
        rw [List.take_nil]
        exact rfl
      | cons a as ih =>
        intro ms ms' n h e
        obtain ⟨xs, r, rfl, h2, h3⟩ := h
        cases n with
        | zero => cases e; exact rfl
        | succ n =>
          rw [List.take_succ_cons] at e ⊢
          obtain ⟨ys, e3, e⟩ := Option.bind_eq_some_iff.mp (show (rsL (keep L w.m) true xs).bind (fun y => (keepM L w.m (r.take n)).map fun zs => y :: zs) = some ms' from e)
          obtain ⟨zs, e4, rfl⟩ := Option.map_eq_some_iff.mp e
          exact ⟨ys, zs, rfl, Cell.keep h2 hL e3, ih n h3 e4⟩
    exact go L S.mu e2
  · exact RL.gok (A := A) (A' := { A with mu := A.mu.take L }) (fun _ _ h _ => h) (.inl rfl) (fun _ h => h) S.gk S.ga
theorem post_ok {A0 : Ad} {H0 : Hp} {kill : List Nat} {gc : Bool} {L : Nat} {w' : Wd} (s : Step A0 H0 A H) (S : Sim K H A w σ) (e : postF kill gc L w = some w') (hL : L = A0.mu.length) : ∃ A', Step A0 H0 A' H ∧ Sim K H A' w' σ ∧ w'.g = w.g := by
  unfold postF at e
  have S1 := S.kill kill
  cases gc with
  | false =>
    cases e
    exact ⟨A, s, S1, rfl⟩
  | true =>
    obtain ⟨S2, hg⟩ := S1.gc (show (Wd.gc { w with σ := wipeD w.σ kill } L) = some w' from e)
    refine ⟨{ A with mu := A.mu.take L }, ⟨⟨fun a o h x => ?_, s.tup, s.frz, fun k a h => ?_, s.ga, s.bad⟩, s.cn, s.cnk⟩, S2, hg⟩
    · obtain ⟨q, y⟩ := s.kept a o h x
      exact ⟨q, fun z => y.1 (List.mem_of_mem_take z), y.2⟩
    · have hk : k < L := by
        rw [hL]
        exact (List.getElem?_eq_some_iff.mp h).1
      show (A.mu.take L)[k]? = some a
      rw [List.getElem?_take_of_lt hk]
      exact s.mu k a h
end
section
variable {T : Tb} {P : Pg} {lv : Nat} {N : List Str} {sc : Scope} {X : Cx}
/-! ### simple statements -/
def noComp : Expr → Bool
  | .ListComp _ _ _ _ => false
  | .SetComp _ _ _ _ => false
  | .DictComp _ _ _ _ _ => false
  | _ => true
theorem swaps_no {e : Expr} {t : Option Expr} {l : Nat} {env : Env} (h : noComp e = true) : swapsWith e t l env = pure false := by
  cases e <;> first | rfl | cases h
theorem snd_ex {e : E} {x : Expr} {pos : Pos} (h : PE X x (rd X.K (evE P e))) (hc : noComp x = true) : PS X (.Expr x pos) (rdS X.K (exS P (.ex e))) := by
  refine PSimp (ps_expr h (swaps_no hc)) fun D σ H q => ?_
  obtain ⟨A, w, S, fl, w', e1, q⟩ := q
  obtain ⟨x, ea, e1⟩ := bd_split e1
  cases e1
  exact ⟨A, w, S, x.1, x.2, ea, fun A1 v H1 s1 S1 r1 => q A1 σ H1 s1 S1⟩
theorem snd_ret {e : E} {x : Expr} {pos : Pos} (h : PE X x (rd X.K (evE P e))) : PS X (.Return (some x) pos) (rdS X.K (exS P (.ret e))) := by
  refine PSimp (ps_ret h) fun D σ H q => ?_
  obtain ⟨A, w, S, fl, w', e1, q⟩ := q
  obtain ⟨x, ea, e1⟩ := bd_split e1
  cases e1
  exact ⟨A, w, S, x.1, x.2, ea, fun A1 v H1 s1 S1 r1 => q A1 v σ H1 s1 S1 r1⟩
theorem snd_retn {pos : Pos} : PS X (.Return none pos) (rdS X.K (exS P .retn)) := by
  refine PSimp ps_retN fun D σ H q => ?_
  obtain ⟨A, w, S, fl, w', e1, q⟩ := q
  cases e1
  exact q A .non σ H (Step.refl A H) S rfl
theorem snd_brk {pos : Pos} : PS X (.Break pos) (rdS X.K (exS P .brk)) := by
  refine PSimp ps_break fun D σ H q => ?_
  obtain ⟨A, w, S, fl, w', e1, q⟩ := q
  cases e1
  exact q A σ H (Step.refl A H) S
theorem snd_cnt {pos : Pos} : PS X (.Continue pos) (rdS X.K (exS P .cnt)) := by
  refine PSimp ps_continue fun D σ H q => ?_
  obtain ⟨A, w, S, fl, w', e1, q⟩ := q
  cases e1
  exact q A σ H (Step.refl A H) S
theorem snd_pas {pos : Pos} : PS X (.Pass pos) (rdS X.K (exS P .pas)) := by
  refine PSimp ps_pass fun D σ H q => ?_
  obtain ⟨A, w, S, fl, w', e1, q⟩ := q
  cases e1
  exact q A σ H (Step.refl A H) S
theorem snd_dead {st : Stmt} : PS X st (rdS X.K (exS P .dead)) := by
  refine PSimp ps_never fun D σ H q => ?_
  obtain ⟨A, w, S, fl, w', e1, q⟩ := q
  cases e1
theorem snd_if {c : E} {a b : List S} {x : Expr} {xs ys : List Stmt} {pos : Pos} (hc : PT X x (rdT X.K (evT P c))) (ha : PSs X xs (rdS X.K (exB P a))) (hb : PSs X ys (rdS X.K (exB P b))) : PS X (.If x xs ys pos) (rdS X.K (exS P (.ite c a b))) := by
  refine PSimp (ps_if hc ha hb) fun D σ H q => ?_
  obtain ⟨A, w, S, fl, w', e1, q⟩ := q
  obtain ⟨x, ea, e1⟩ := bd_split e1
  refine ⟨A, w, S, x.1, x.2, ea, fun A1 H1 s1 S1 => ?_⟩
  cases hx : x.1 with
  | true =>
    rw [hx, if_pos rfl] at e1
    rw [if_pos rfl]
    exact ⟨A1, x.2, S1, fl, w', e1, q.step s1⟩
  | false =>
    rw [hx, if_neg Bool.false_ne_true] at e1
    rw [if_neg Bool.false_ne_true]
    exact ⟨A1, x.2, S1, fl, w', e1, q.step s1⟩
/-- target = value, plainly -/
theorem set_read {t : Tg} {f : Wd → R (D × Wd)} (D : Ends) (σ : Sl) (H : Hp) (q : rdS X.K (fun w => (f w).bd fun x => (R.of (asg t x.1 x.2)).bd fun w' => .ok (.nx, w')) D σ H) : tAsg (rd X.K f) (gD X.K t) D σ H := by
  obtain ⟨A, w, S, fl, w', e1, q⟩ := q
  obtain ⟨x, ea, e1⟩ := bd_split e1
  obtain ⟨w2, eb, e1⟩ := bd_split e1
  cases e1
  exact ⟨A, w, S, x.1, x.2, ea, fun A1 v H1 s1 S1 r1 => ⟨A1, x.2, x.1, w', S1, r1, of_split eb, fun σ' S' _ _ _ => q A1 σ' H1 s1 S'⟩⟩
theorem snd_set {t : Tg} {e : E} {tg x : Expr} {pos : Pos} (h : PE X x (rd X.K (evE P e))) (ht : PG X tg (gD X.K t)) (hc : noComp x = true) (hs : noStar tg = true) (hw : swappedStores [tg] x X.env = pure none) : PS X (.Assign [tg] x pos) (rdS X.K (exS P (.set t e))) :=
  PSimp (ps_asg h ht (swaps_no hc) hw (by rw [assignEach_cons hs]; rfl)) set_read
/-- stored otherwise than to a name of the frame's own -/
def tgF (sc : Scope) (tg : Expr) : Bool := match tg with
  | .Tuple _ _ _ => true
  | .Name y _ => (match sc.names.lookup y with
    | some .cell => true
    | _ => false)
  | _ => false
theorem tgF_ok {sc : Scope} {tg x : Expr} {l : Nat} {env : Env} (hs : env.scope = sc) (h : tgF sc tg = true) : swapsWith x (some tg) l env = pure false := by
  cases tg with
  | Tuple a b c => cases x <;> rfl
  | Name y p =>
    have hy : (env.kindOf y == some NameKind.local) = false := by
      unfold Env.kindOf
      rw [hs]
      have h : (match sc.names.lookup y with
        | some .cell => true
        | _ => false) = true := h
      cases q : sc.names.lookup y with
      | none => rfl
      | some k =>
        rw [q] at h
        cases k <;> first | rfl | cases h
    cases x <;> first | rfl | (unfold swapsWith; simp only [hy, Bool.and_false, Bool.false_and])
  | _ => cases h
theorem snd_setF {t : Tg} {e : E} {tg x : Expr} {pos : Pos} {sc : Scope} (hsc : X.env.scope = sc) (h : PE X x (rd X.K (evE P e))) (ht : PG X tg (gD X.K t)) (hc : tgF sc tg = true) (hs : noStar tg = true) (hw : swappedStores [tg] x X.env = pure none) : PS X (.Assign [tg] x pos) (rdS X.K (exS P (.set t e))) :=
  PSimp (ps_asg h ht (tgF_ok hsc hc) hw (by rw [assignEach_cons hs]; rfl)) set_read
/-- a comprehension stored to a name -/
theorem snd_setc (G : GX T P lv N sc none X) {i : Nat} {md : Nat} {t : Tg} {it : It} {c : Oe} {e : E} {own : List Nat} {y : Str} {x tg iter : Expr} {ifs : List Expr} {scope : Scope} {pos py spos : Pos} (hy : N[i]? = some y) (hl : sc.names.lookup y = some .local)
    (hline : (py.line == pos.line) = true) (ha : (scope.names.any fun (n, k) => n == y && (k == .local || k == .cell)) = false) (h1 : ckI T lv N sc none it tg iter = true) (h2 : okX iter = true) (h3 : ckT N (relS scope sc) (some scope) t tg = true) (h4 : ckC T lv N (relS scope sc) (some scope) c ifs = true)
    (h5 : ckE T lv N (relS scope sc) (some scope) e x = true) (h6 : blkC N sc scope (ownN N own) = true) (h7 : (slotsT t).all (fun i => own.contains i) = true) :
    PS X (.Assign [.Name y py] (.ListComp x [⟨tg, iter, ifs, 0⟩] scope pos) spos) (rdS X.K (exS P (.set (.nm i) (.co md t it c e own)))) := by
  have ok := blkOk_by h6
  have hs : ∀ i ∈ slotsT t, i ∈ own := fun i hi => by simpa using List.all_eq_true.mp h7 i hi
  have kd : X.env.scope.kind = .function := by rw [G.sco]; exact G.kind
  have hl' : X.env.scope.names.lookup y = some .local := by rw [G.sco]; exact hl
  refine PSimp (ps_setLc (own := ownN N own) (i := i) (wi := rdI X.K (evI P it)) (g := gD X.K t) (tt := rdT X.K (evC P c)) (te := rd X.K (evE P e)) G.calm (by rw [G.hN]; exact G.nd) (by rw [G.hN]; exact hy) hl' (sw_true kd hl' hline ha)
    (sndI it sc none X tg iter G h1) (by rw [G.hN, G.sco]; exact ok)
    (fun s H C cl fp => sndT (G.blk ok.kind s H C cl fp) t tg h3) (fun s H C cl fp => sndC c _ _ _ ifs (G.blk ok.kind s H C cl fp) h4)
    (fun s H C cl fp => (sndE e _ _ _ x (G.blk ok.kind s H C cl fp) h5).pe) (folded_ok h2)) fun D σ H q => ?_
  rw [ownN_slots]
  obtain ⟨A, w, S, fl, w', e1, q⟩ := q
  obtain ⟨z, ea, e1⟩ := bd_split e1
  cases e1
  exact coL_read (md := md) hs σ H _ ⟨A, w, S, z.1, z.2, ea, fun A1 v H1 s1 S1 r1 => q A1 _ H1 s1 (S1.set i r1)⟩
/-- a, b = x, y: stored from the right -/
theorem snd_par2 (G : GX T P lv N sc none X) {i j : Nat} {ea eb : E} {xa xb : Expr} {x y : Str} {px py pt pt2 pos : Pos} {kt k2 : Nat} (hi : N[i]? = some x) (hj : N[j]? = some y) (hij : i ≠ j) (lx : sc.names.lookup x = some .local) (ly : sc.names.lookup y = some .local)
    (ha : PA X [xa, xb] (rdA X.K (evEs P (.cons ea (.cons eb .nil))))) (hw : swappedStores [.Tuple [.Name x px, .Name y py] kt pt] (.Tuple [xa, xb] k2 pt2) X.env = pure (some [x, y])) :
    PS X (.Assign [.Tuple [.Name x px, .Name y py] kt pt] (.Tuple [xa, xb] k2 pt2) pos) (rdS X.K (exS P (.set (.tu [.nm i, .nm j]) (.tup (.cons ea (.cons eb .nil)))))) := by
  refine PSimp (ps_par (i := i) (j := j) G.calm (by rw [G.hN]; exact G.nd) (by rw [G.hN]; exact hi) (by rw [G.hN]; exact hj) hij (by rw [G.sco]; exact lx) (by rw [G.sco]; exact ly) ha hw) fun D σ H q => ?_
  obtain ⟨A, w, S, fl, w', e1, q⟩ := q
  obtain ⟨z, e2, e1⟩ := bd_split e1
  obtain ⟨w2, e3, e1⟩ := bd_split e1
  cases e1
  obtain ⟨t, e4, e2⟩ := bd_split e2
  refine ⟨A, w, S, t.1, t.2, e4, fun A1 vs H1 s1 S1 r1 => ?_⟩
  have hl := evEs_len e4
  obtain ⟨ez, ed, _⟩ := newT_ok e2 r1
  match ht : t.1, hl with
  | [d1, d2], _ =>
    rw [ht] at r1
    obtain ⟨v, u, rfl, rv, ru⟩ := two_of r1
    refine ⟨v, u, rfl, ?_⟩
    have e5 := of_split e3
    rw [ed, ez, ht] at e5
    cases e5
    exact q A1 _ H1 s1 ((S1.set i rv).set j ru)
theorem snd_par3 (G : GX T P lv N sc none X) {i j l : Nat} {ea eb ec : E} {xa xb xc : Expr} {x y z : Str} {px py pz pt pt2 pos : Pos} {kt k2 : Nat} (hi : N[i]? = some x) (hj : N[j]? = some y) (hl : N[l]? = some z) (hij : i ≠ j) (hil : i ≠ l) (hjl : j ≠ l)
    (lx : sc.names.lookup x = some .local) (ly : sc.names.lookup y = some .local) (lz : sc.names.lookup z = some .local)
    (ha : PA X [xa, xb, xc] (rdA X.K (evEs P (.cons ea (.cons eb (.cons ec .nil)))))) (hw : swappedStores [.Tuple [.Name x px, .Name y py, .Name z pz] kt pt] (.Tuple [xa, xb, xc] k2 pt2) X.env = pure (some [x, y, z])) :
    PS X (.Assign [.Tuple [.Name x px, .Name y py, .Name z pz] kt pt] (.Tuple [xa, xb, xc] k2 pt2) pos) (rdS X.K (exS P (.set (.tu [.nm i, .nm j, .nm l]) (.tup (.cons ea (.cons eb (.cons ec .nil))))))) := by
  refine PSimp (ps_par3 (i := i) (j := j) (l := l) G.calm (by rw [G.hN]; exact G.nd) (by rw [G.hN]; exact hi) (by rw [G.hN]; exact hj) (by rw [G.hN]; exact hl) hij hil hjl (by rw [G.sco]; exact lx) (by rw [G.sco]; exact ly) (by rw [G.sco]; exact lz) ha hw) fun D σ H q => ?_
  obtain ⟨A, w, S, fl, w', e1, q⟩ := q
  obtain ⟨z, e2, e1⟩ := bd_split e1
  obtain ⟨w2, e3, e1⟩ := bd_split e1
  cases e1
  obtain ⟨t, e4, e2⟩ := bd_split e2
  refine ⟨A, w, S, t.1, t.2, e4, fun A1 vs H1 s1 S1 r1 => ?_⟩
  have hl := evEs_len e4
  obtain ⟨ez, ed, _⟩ := newT_ok e2 r1
  match ht : t.1, hl with
  | [d1, d2, d3], _ =>
    rw [ht] at r1
    obtain ⟨v, r, rfl, rv, r2⟩ := r1
    obtain ⟨u, t3, rfl, ru, rt⟩ := two_of r2
    refine ⟨v, u, t3, rfl, ?_⟩
    have e5 := of_split e3
    rw [ed, ez, ht] at e5
    cases e5
    exact q A1 _ H1 s1 (((S1.set i rv).set j ru).set l rt)
theorem swaps_sub {e o i : Expr} {p : Pos} {l : Nat} {env : Env} : swapsWith e (some (.Subscript o i p)) l env = pure false := by
  cases e <;> rfl
theorem snd_put (G : GX T P lv N sc none X) {o i e : E} {x y z : Expr} {p pos : Pos} (he : PE X z (rd X.K (evE P e))) (ho : PE X x (rd X.K (evE P o))) (hi : PE X y (rd X.K (evE P i))) (hy : okX y = true) : PS X (.Assign [.Subscript x y p] z pos) (rdS X.K (exS P (.put o i e))) := by
  refine PSimp (ps_asg he (pg_sub ho hi set_list (by intro v; cases y <;> first | rfl | cases hy)) (show swapsWithSole [.Subscript x y p] z pos.line X.env = pure false from swaps_sub (o := x) (i := y) (p := p) (l := pos.line) (env := X.env)) rfl rfl) fun D σ H q => ?_
  obtain ⟨A, w, S, fl, w', e1, q⟩ := q
  obtain ⟨z, ea, e1⟩ := bd_split e1
  obtain ⟨x, eb, e1⟩ := bd_split e1
  obtain ⟨y, ec, e1⟩ := bd_split e1
  refine ⟨A, w, S, z.1, z.2, ea, fun A1 v H1 s1 S1 r1 => ⟨A1, z.2, S1, x.1, x.2, eb, fun A2 u H2 s2 S2 r2 => ⟨A2, x.2, S2, y.1, y.2, ec, fun A3 t H3 s3 S3 r3 => ?_⟩⟩⟩
  obtain ⟨d3, w3⟩ := y
  cases d3 with
  | int k =>
    obtain ⟨xs, ed, e1⟩ := bd_split e1
    obtain ⟨j, ef, e1⟩ := bd_split e1
    obtain ⟨w4, eg, e1⟩ := bd_split e1
    cases e1
    obtain ⟨a, us, ys, rfl, h1, h2, h3, h4⟩ := put_ok (of_split ed) (of_split eg) S3 (r2.step s3.toCar)
    have e5 := of_split ed
    rw [h2] at e5
    cases e5
    obtain ⟨s4, S4⟩ := h4 _ (h3.set j ((r1.step s2.toCar).step s3.toCar))
    refine ⟨a, us, k, j, rfl, r3, h1, by rw [h3.length]; exact of_split ef, q A3 σ _ (((s1.trans s2).trans s3).trans s4) S4⟩
  | _ => cases e1

/-- a store into an own dict -/
theorem snd_dput (G : GX T P lv N sc none X) {o e : E} {es : Es} {x z : Expr} {xs : List Expr} {k : Nat} {p p2 pos : Pos} (he : PE X z (rd X.K (evE P e))) (ho : PE X x (rd X.K (evE P o))) (hk : PA X xs (rdA X.K (evEs P es))) :
    PS X (.Assign [.Subscript x (.Tuple xs k p2) p] z pos) (rdS X.K (exS P (.dput o es e))) := by
  refine PSimp (ps_dput G.hu1 ho (key_tup hk) he (show swapsWith z (some (.Subscript x (.Tuple xs k p2) p)) pos.line X.env = pure false from swaps_sub (o := x) (i := .Tuple xs k p2) (p := p) (l := pos.line) (env := X.env))) fun D σ H q => ?_
  obtain ⟨A, w, S, fl, w', e1, q⟩ := q
  obtain ⟨z, ea, e1⟩ := bd_split e1
  obtain ⟨x, eb, e1⟩ := bd_split e1
  obtain ⟨y, ec, e1⟩ := bd_split e1
  obtain ⟨q1, eq1, e1⟩ := bd_split e1
  split at e1
  case isFalse => cases e1
  rename_i hc
  cases e1
  obtain ⟨hc, c3⟩ := Bool.and_eq_true_iff.mp hc
  obtain ⟨c1, c2⟩ := Bool.and_eq_true_iff.mp hc
  obtain ⟨c3, c4⟩ := of_decide_eq_true c3
  refine ⟨A, w, S, z.1, z.2, ea, fun A1 v H1 s1 S1 r1 => ⟨A1, z.2, S1, x.1, x.2, eb, fun A2 u H2 s2 S2 r2 => ⟨A2, x.2, S2, y.1, y.2, ec, c3, fun A3 vs p H3 s3 S3 r3 hp => ?_⟩⟩⟩
  obtain ⟨a, k0, ks, rfl, hx, hm, hw, _, _, de⟩ := S3.dct (r2.step s3.toCar) (of_split eq1)
  obtain ⟨ns, hns⟩ := Option.isSome_iff_exists.mp c2
  have hds := keyT_of hns
  have hvs := r3.ints hns
  have n2 : q1.1 = 2 := of_decide_eq_true c1
  rcases de with ⟨kvs, _, h1, h2⟩ | ⟨kvs, n3, _, _⟩
  · have kk : keyT (.tup y.1) (ns.map Sum.inl) := ⟨ns, by rw [hds], rfl⟩
    have hmap : vs = (ns.map (Sum.inl : Int → Key)).map kV := by
      rw [hvs, List.map_map]
      rfl
    have r4 := (r1.step s2.toCar).step s3.toCar
    obtain ⟨s4, S4⟩ := dset_ok (o := .dT (putK kvs (ns.map Sum.inl) v)) (ks := dks true) (es := putE q1.2 (.tup y.1) z.1) S3 hm h1 (.inl ⟨_, rfl⟩) (dks_dup true) (fun s => .inl ⟨_, rfl, upd_same, EN.put (fun _ _ _ _ => keyT_eq) kk (r4.step s.toCar) (h2.carry fun d v r => r.step s.toCar)⟩)
    refine ⟨a, _, rfl, .inr ⟨kvs, ns.map Sum.inl, p, h1, rfl, by rw [hp, hmap], Nat.lt_of_lt_of_le (by rw [h2.len]; exact c4) (by decide), rfl⟩, ?_⟩
    rw [hx] at q
    exact q A3 σ _ (((s1.trans s2).trans s3).trans s4) S4
  · omega
theorem snd_dputI (G : GX T P lv N sc none X) {o e i : E} {x z y : Expr} {p pos : Pos} (he : PE X z (rd X.K (evE P e))) (ho : PE X x (rd X.K (evE P o))) (hk : PE X y (rd X.K (evE P i))) (hy : okX y = true) :
    PS X (.Assign [.Subscript x y p] z pos) (rdS X.K (exS P (.dputI o i e))) := by
  refine PSimp (ps_dput G.hu1 ho hk he (show swapsWith z (some (.Subscript x y p)) pos.line X.env = pure false from swaps_sub (o := x) (i := y) (p := p) (l := pos.line) (env := X.env))) fun D σ H q => ?_
  obtain ⟨A, w, S, fl, w', e1, q⟩ := q
  obtain ⟨z, ea, e1⟩ := bd_split e1
  obtain ⟨x, eb, e1⟩ := bd_split e1
  obtain ⟨y, ec, e1⟩ := bd_split e1
  obtain ⟨q1, eq1, e1⟩ := bd_split e1
  refine ⟨A, w, S, z.1, z.2, ea, fun A1 v H1 s1 S1 r1 => ⟨A1, z.2, S1, x.1, x.2, eb, fun A2 u H2 s2 S2 r2 => ⟨A2, x.2, S2, y.1, y.2, ec, fun A3 t H3 s3 S3 r3 => ?_⟩⟩⟩
  obtain ⟨a, k0, ks, rfl, hx, hm, hw, _, _, de⟩ := S3.dct (r2.step s3.toCar) (of_split eq1)
  obtain ⟨d3, w3⟩ := y
  cases d3 with
  | int n =>
    have e1 : (if (decide (q1.1 = 3) && decide (q1.2.length < mxLen)) = true then R.ok (Fl.nx, w3.dset x.1 (dks false) (putE q1.2 (.int n) z.1)) else .err) = .ok (fl, w') := e1
    split at e1
    case isFalse => cases e1
    rename_i hc
    cases e1
    obtain ⟨c1, c4⟩ := Bool.and_eq_true_iff.mp hc
    have n2 : q1.1 = 3 := of_decide_eq_true c1
    have c4 := of_decide_eq_true c4
    rcases de with ⟨kvs, n3, _, _⟩ | ⟨kvs, _, h1, h2⟩
    · omega
    · have kk : keyI (.int n) (.inl n) := ⟨n, rfl, rfl⟩
      have r4 := (r1.step s2.toCar).step s3.toCar
      obtain ⟨s4, S4⟩ := dset_ok (o := .dK (putK kvs (.inl n) v)) (ks := dks false) (es := putE q1.2 (.int n) z.1) S3 hm h1 (.inr ⟨_, rfl⟩) (dks_dup false) (fun s => .inr ⟨_, rfl, upd_same, EN.put (fun _ _ _ _ => keyI_eq) kk (r4.step s.toCar) (h2.carry fun d v r => r.step s.toCar)⟩)
      have et : t = .int n := r3
      subst et
      refine ⟨a, _, rfl, .inl ⟨kvs, .inl n, h1, rfl, Nat.lt_of_lt_of_le (by rw [h2.len]; exact c4) (by decide), rfl⟩, ?_⟩
      rw [hx] at q
      exact q A3 σ _ (((s1.trans s2).trans s3).trans s4) S4
  | _ => cases e1

/-! ### blocks, loops -/
theorem snd_bnil : PSs X [] (rdS X.K (exB P [])) := by
  refine PSsimp pss_nil fun D σ H q => ?_
  obtain ⟨A, w, S, fl, w', e1, q⟩ := q
  cases e1
  exact q A σ H (Step.refl A H) S
theorem snd_bcons {s : S} {r : List S} {st : Stmt} {sts : List Stmt} (h1 : PS X st (rdS X.K (exS P s))) (h2 : PSs X sts (rdS X.K (exB P r))) : PSs X (st :: sts) (rdS X.K (exB P (s :: r))) := by
  refine PSsimp (pss_cons h1 h2) fun D σ H q => ?_
  obtain ⟨A, w, S, fl, w', e1, q⟩ := q
  obtain ⟨x, ea, e1⟩ := bd_split (show ((exS P s w).bd fun x => match x.1 with
    | .nx => exB P r x.2
    | f => .ok (f, x.2)) = .ok (fl, w') from e1)
  obtain ⟨f1, w1⟩ := x
  refine ⟨A, w, S, f1, w1, ea, ?_⟩
  cases f1 with
  | nx => exact fun A1 σ1 H1 s1 S1 => ⟨A1, w1, S1, fl, w', e1, q.step s1⟩
  | bk => cases e1; exact q
  | ct => cases e1; exact q
  | rt d => cases e1; exact q
theorem snd_for (G : GX T P lv N sc none X) {t : Tg} {it : It} {body : List S} {kill : List Nat} {gc : Bool} {tg iter : Expr} {sts : List Stmt} {pos : Pos} (hi : PI X tg iter (rdI X.K (evI P it))) (hx : okX iter = true) (ht : PG X tg (gD X.K t)) (hb : PSs X sts (rdS X.K (exB P body))) :
    PS X (.For tg iter sts [] pos) (rdS X.K (exS P (.for t it body kill gc))) := by
  refine PSimp (ps_for (G.po) G.calm hi ht hb (folded_ok hx)) fun D σ H q => ?_
  obtain ⟨A, w, S, fl, w', e1, q⟩ := q
  obtain ⟨x, ea, e1⟩ := bd_split e1
  refine ⟨A, w, S, x.1, x.2, ea, fun A1 H1 J s1 S1 ok1 wd => ?_⟩
  have hL : x.2.m.length = A1.mu.length := S1.mu.length
  let W : Nat → Sl → Hp → Prop := fun i σ' Hh => i ≤ x.1.xs.length ∧ ∃ (A' : Ad) (w1 : Wd), Step A1 H1 A' Hh ∧ Sim X.K Hh A' w1 σ' ∧ x.1.ok w1 = true ∧
    forL (asg t) (exB P body) (postF kill gc x.2.m.length) x.1.ok (x.1.xs.drop i) w1 = .ok (fl, w')
  refine ⟨fun i m σ' Hh => m = x.1.xs.length - i ∧ W i σ' Hh, ⟨x.1.xs.length, by simp, Nat.zero_le _, A1, x.2, Step.refl A1 H1, S1, ok1, e1⟩, ?_⟩
  rintro i m σ' Hh ⟨rfl, hile, A', w1, st, S', ok', hrun⟩
  by_cases hlt : i < x.1.xs.length
  · right
    obtain ⟨g1, g2⟩ := wd.go A' Hh w1 σ' i st.toCar S' ok' hlt
    refine ⟨g1, W (i + 1), fun σ2 H2 hw => ⟨_, by omega, rfl, hw⟩, fun v H2 hy => ?_⟩
    obtain ⟨st2, S2, hv⟩ := g2 v H2 hy
    rw [List.drop_eq_getElem_cons hlt] at hrun
    obtain ⟨wa, eb, hrun⟩ := bd_split hrun
    obtain ⟨r, ec, hrun⟩ := bd_split hrun
    refine ⟨A', w1, _, wa, S2, hv _ (List.getElem?_eq_getElem hlt), of_split eb, fun σ3 S3 _ _ _ => ⟨A', wa, S3, r.1, r.2, ec, ?_⟩⟩
    have s12 : Step A1 H1 A' H2 := st.trans st2
    have next : ∀ {z}, (R.of (postF kill gc x.2.m.length r.2)).bd (fun w3 => if x.1.ok w3 then forL (asg t) (exB P body) (postF kill gc x.2.m.length) x.1.ok (x.1.xs.drop (i + 1)) w3 else .err) = .ok z → z = (fl, w') →
        ∀ A4 σ4 H4, Step A' H2 A4 H4 → Sim X.K H4 A4 r.2 σ4 → W (i + 1) σ4 H4 := fun {z} h hz A4 σ4 H4 s4 S4 => by
      subst hz
      obtain ⟨w3, e3, h⟩ := bd_split h
      obtain ⟨A5, s5, S5, _⟩ := post_ok (s12.trans s4) S4 (of_split e3) hL
      split at h
      · rename_i ok3
        exact ⟨hlt, A5, w3, s5, S5, ok3, h⟩
      · cases h
    cases hr : r.1 with
    | bk =>
      rw [hr] at hrun
      cases hrun
      exact fun A4 σ4 H4 s4 S4 => q A4 σ4 H4 (s1.trans (s12.trans s4)) S4
    | rt d =>
      rw [hr] at hrun
      cases hrun
      exact fun A4 v4 σ4 H4 s4 S4 r4 => q A4 v4 σ4 H4 (s1.trans (s12.trans s4)) S4 r4
    | nx =>
      rw [hr] at hrun
      exact next hrun rfl
    | ct =>
      rw [hr] at hrun
      exact next hrun rfl
  · left
    obtain rfl : i = x.1.xs.length := Nat.le_antisymm hile (Nat.le_of_not_lt hlt)
    refine ⟨wd.stop A' Hh w1 σ' st.toCar S' ok', ?_⟩
    rw [List.drop_length] at hrun
    cases hrun
    exact q A' σ' Hh (s1.trans st) S'
theorem snd_whl (G : GX T P lv N sc none X) {c : E} {body : List S} {kill : List Nat} {gc : Bool} {x : Expr} {sts : List Stmt} {pos : Pos} (hc : PT X x (rdT X.K (evT P c))) (hb : PSs X sts (rdS X.K (exB P body))) :
    PS X (.While x sts [] pos) (rdS X.K (exS P (.whl c body kill gc))) := by
  refine PSimp (ps_while (G.po) hc hb) fun D σ H q => ?_
  obtain ⟨A, w, S, fl, w', e1, q⟩ := q
  have hL : w.m.length = A.mu.length := S.mu.length
  have e1 : whlL (evT P c) (exB P body) (postF kill gc w.m.length) fuel w = .ok (fl, w') := e1
  let W : Nat → Sl → Hp → Prop := fun m σ' Hh => ∃ (A' : Ad) (w1 : Wd), Step A H A' Hh ∧ Sim X.K Hh A' w1 σ' ∧ whlL (evT P c) (exB P body) (postF kill gc w.m.length) m w1 = .ok (fl, w')
  refine ⟨W, ⟨fuel, A, w, Step.refl A H, S, e1⟩, ?_⟩
  rintro m σ' Hh ⟨A', w1, st, S', hrun⟩
  cases m with
  | zero => cases hrun
  | succ m =>
    obtain ⟨r, ea, hrun⟩ := bd_split hrun
    refine ⟨A', w1, S', r.1, r.2, ea, fun A2 H2 s2 S2 => ?_⟩
    cases hr : r.1 with
    | false =>
      rw [hr, if_neg Bool.false_ne_true] at hrun
      rw [if_neg Bool.false_ne_true]
      cases hrun
      exact q A2 σ' H2 (st.trans s2) S2
    | true =>
      rw [hr, if_pos rfl] at hrun
      rw [if_pos rfl]
      obtain ⟨z, eb, hrun⟩ := bd_split hrun
      refine ⟨W m, fun σ3 H3 hw => ⟨m, Nat.lt_succ_self m, hw⟩, A2, r.2, S2, z.1, z.2, eb, ?_⟩
      have s12 : Step A H A2 H2 := st.trans s2
      have next : (R.of (postF kill gc w.m.length z.2)).bd (fun w3 => whlL (evT P c) (exB P body) (postF kill gc w.m.length) m w3) = .ok (fl, w') → ∀ A4 σ4 H4, Step A2 H2 A4 H4 → Sim X.K H4 A4 z.2 σ4 → W m σ4 H4 := fun h A4 σ4 H4 s4 S4 => by
        obtain ⟨w3, e3, h⟩ := bd_split h
        obtain ⟨A5, s5, S5, _⟩ := post_ok (s12.trans s4) S4 (of_split e3) hL
        exact ⟨A5, w3, s5, S5, h⟩
      cases hz : z.1 with
      | bk =>
        rw [hz] at hrun
        cases hrun
        exact fun A4 σ4 H4 s4 S4 => q A4 σ4 H4 (s12.trans s4) S4
      | rt d =>
        rw [hz] at hrun
        cases hrun
        exact fun A4 v4 σ4 H4 s4 S4 r4 => q A4 v4 σ4 H4 (s12.trans s4) S4 r4
      | nx =>
        rw [hz] at hrun
        exact next hrun
      | ct =>
        rw [hz] at hrun
        exact next hrun
end
end Fz

/-! Q15x: what raises, by its text. -/
namespace Fz
open PySem PySem.Spec PyProof.Rows L2
section
variable {T : Tb} {P : Pg} {lv : Nat} {N : List Str}
abbrev xeE (T : Tb) (X : Cx) (W : WX) (f : Wd → Option Xd) : TE := fun σ H _ => xE X T.errs W f σ H
abbrev xeA (T : Tb) (X : Cx) (W : WX) (f : Wd → Option Xd) : TA := fun σ H _ => xE X T.errs W f σ H
abbrev xeI (T : Tb) (X : Cx) (W : WX) (f : Wd → Option Xd) : TI := fun σ H _ => xE X T.errs W f σ H
abbrev xeS (T : Tb) (X : Cx) (W : WX) (f : Wd → Option Xd) : TS := fun _ σ H => xE X T.errs W f σ H
theorem xnd_ite {X : Cx} {W : WX} {er : List (Str × Option Str)} {c a b : E} {x y z : Expr} {pos : Pos} (hc : PT X x (rdT X.K (evT P c))) (xa : PE X y (fun σ H _ => xE X er W (rsE P a) σ H)) (xb : PE X z (fun σ H _ => xE X er W (rsE P b) σ H)) :
    PE X (.IfExp x y z pos) (fun σ H _ => xE X er W (rsE P (.ite c a b)) σ H) := by
  refine PEimp (pe_ifExp hc xa xb) fun σ H Q q => ?_
  obtain ⟨A, w, S, v, h, q⟩ := q
  obtain ⟨u, h1, h2⟩ := nx_some h
  obtain ⟨k, h3, h4⟩ := Option.bind_eq_some_iff.mp h2
  refine ⟨A, w, S, k, u.2, evT_of h1 h3, fun A1 H1 s1 S1 => ?_⟩
  cases k with
  | true =>
    rw [if_pos rfl] at h4 ⊢
    exact ⟨A1, u.2, S1, v, h4, q.step s1⟩
  | false =>
    rw [if_neg Bool.false_ne_true] at h4 ⊢
    exact ⟨A1, u.2, S1, v, h4, q.step s1⟩
mutual
theorem xndE : ∀ (e : E) (sc : Scope) (top : Option Scope) (X : Cx) (W : WX) (ex : Expr), GX T P lv N sc top X → Takes X W → ckE T lv N sc top e ex = true → PE X ex (xeE T X W (rsE P e))
  | .v _, _, _, _, _, _, _, _, _ => xnd_no fun _ => rfl
  | .k _, _, _, _, _, _, _, _, _ => xnd_no fun _ => rfl
  | .gl _, _, _, _, _, _, _, _, _ => xnd_no fun _ => rfl
  | .neg _, _, _, _, _, _, _, _, _ => xnd_no fun _ => rfl
  | .an _ _, _, _, _, _, _, _, _, _ => xnd_no fun _ => rfl
  | .or _ _, _, _, _, _, _, _, _, _ => xnd_no fun _ => rfl
  | .ch _ _ _ _ _, _, _, _, _, _, _, _, _ => xnd_no fun _ => rfl
  | .dis _ _, _, _, _, _, _, _, _, _ => xnd_no fun _ => rfl
  | .lrg _ _ _, _, _, _, _, _, _, _, _ => xnd_no fun _ => rfl
  | .sl _ _ _ _, _, _, _, _, _, _, _, _ => xnd_no fun _ => rfl
  | .me _ _ _, _, _, _, _, _, _, _, _ => xnd_no fun _ => rfl
  | .isi _ _, _, _, _, _, _, _, _, _ => xnd_no fun _ => rfl
  | .dnew _, _, _, _, _, _, _, _, _ => xnd_no fun _ => rfl
  | .dget _ _ _, _, _, _, _, _, _, _, _ => xnd_no fun _ => rfl
  | .din _ _ _, _, _, _, _, _, _, _, _ => xnd_no fun _ => rfl
  | .op o md a b, sc, top, X, W, ex, G, tk, h => by
    cases ex with
    | BinOp x o' y pos =>
      obtain ⟨h1, h2⟩ := and1 h
      obtain ⟨h2, h3⟩ := and1 h2
      obtain rfl := opB_ok h1
      exact xnd_two (fun ta tb p q => pe_op (op_sound o md) p q) (sndE a sc top X x G h2).pe (xndE a sc top X W x G tk h2) (xndE b sc top X W y G tk h3) fun _ => rfl
    | _ => cases h
  | .no a, sc, top, X, W, ex, G, tk, h => by
    cases ex with
    | UnaryOp op x pos =>
      cases op with
      | Not => exact PEimp (pe_notT (xndE a sc top X W x G tk h)) fun σ H Q q => q
      | _ => cases h
    | _ => cases h
  | .cm c a b, sc, top, X, W, ex, G, tk, h => by
    cases ex with
    | Compare x os ys pos =>
      match os, ys, h with
      | [o], [y], h =>
        obtain ⟨h1, h2⟩ := and1 h
        obtain ⟨h2, h3⟩ := and1 h2
        obtain ⟨h3, h4⟩ := and1 h3
        obtain rfl := cmB_ok h1
        exact xnd_two (fun ta tb p q => pe_cmpR (cm_sound c G.hu65) p q (behind_ok h2)) (sndE a sc top X x G h3).pe (xndE a sc top X W x G tk h3) (xndE b sc top X W y G tk h4) fun _ => rfl
      | [], _, h => cases h
      | [_], [], h => cases h
      | [_], _ :: _ :: _, h => cases h
      | _ :: _ :: _, _, h => cases h
    | _ => cases h
  | .ite c a b, sc, top, X, W, ex, G, tk, h => by
    cases ex with
    | IfExp x y z pos =>
      obtain ⟨h1, h2⟩ := and1 h
      obtain ⟨h2, h3⟩ := and1 h2
      exact xnd_ite (sndE c sc top X x G h1).pt (xndE a sc top X W y G tk h2) (xndE b sc top X W z G tk h3)
    | _ => cases h
  | .tup es, sc, top, X, W, ex, G, tk, h => by
    cases ex with
    | Tuple xs k pos => exact PEimp (pe_tup (xndEs es sc top X W xs G tk h)) fun σ H Q q => q
    | _ => cases h
  | .lst md es, sc, top, X, W, ex, G, tk, h => by
    cases ex with
    | List xs pos => exact PEimp (pe_lst (xndEs es sc top X W xs G tk h)) fun σ H Q q => q
    | _ => cases h
  | .ix a i, sc, top, X, W, ex, G, tk, h => by
    cases ex with
    | Subscript x y pos =>
      obtain ⟨h1, h2⟩ := and1 h
      obtain ⟨h2, h3⟩ := and1 h2
      exact xnd_two (fun ta tb p q => pe_ix (ix_any.or (ix_dK G.hu1)) p q (plainIx_ok h1)) (sndE a sc top X x G h2).pe (xndE a sc top X W x G tk h2) (xndE i sc top X W y G tk h3) fun _ => rfl
    | _ => cases h
  | .rev md a, sc, top, X, W, ex, G, tk, h => by
    have hx : ∃ x k p1 p2 p3 pos, ex = .Subscript x (.Slice none none (some (.UnaryOp .USub (.Constant (.int 1) k p1) p2)) p3) pos ∧ ckE T lv N sc top a x = true := by
      unfold ckE at h
      split at h <;> first | (cases h; done) | skip
      all_goals (try rename_i heq; try cases heq)
      all_goals first
        | exact ⟨_, _, _, _, _, _, rfl, h⟩
        | contradiction
    obtain ⟨x, k, p1, p2, p3, pos, rfl, h⟩ := hx
    exact PEimp (pe_revA (xndE a sc top X W x G tk h)) fun σ H Q q => q
  | .call j pm es ks, sc, top, X, W, ex, G, tk, h => by
    cases ex with
    | Call f xs kws pos =>
      cases f with
      | Name x p =>
        obtain ⟨h1, k2⟩ := and1 h
        obtain ⟨h2, k3⟩ := and1 k2
        obtain ⟨h3, k4⟩ := and1 k3
        obtain ⟨h4, k5⟩ := and1 k4
        obtain ⟨h5, h6⟩ := and1 k5
        obtain ⟨g1, g2⟩ := glB_ok h3
        cases q : T.defs[j]? with
        | none => rw [q] at h1; cases h1
        | some dd =>
          rw [q] at h1
          obtain ⟨h7, h8⟩ := and1 h1
          obtain rfl : dd.1 = x := of_decide_eq_true h7
          cases q2 : kwN kws with
          | none => rw [q2] at h6; cases h6
          | some kn =>
            rw [q2] at h6
            obtain ⟨o1, o2⟩ := ckEs_ok h4
            exact xnd_call G tk q (of_decide_eq_true h2) g1 g2 (sndEs es sc top X xs G h4) (xndEs es sc top X W xs G tk h4) (sndKs ks sc top X kws G h5) o1 q2 (of_decide_eq_true h6) o2 (ckKs_ok h5) (of_decide_eq_true h8)
      | _ => cases h
    | _ => cases h
  | .bi b md es, sc, top, X, W, ex, G, tk, h => by
    cases ex with
    | Call f xs kws pos =>
      cases f with
      | Name x p =>
        cases xs with
        | nil => cases h
        | cons x0 xs =>
          cases kws with
          | cons _ _ => cases h
          | nil =>
            obtain ⟨h1, h2⟩ := and1 h
            obtain ⟨h2, h3⟩ := and1 h2
            obtain ⟨h3, h4⟩ := and1 h3
            obtain rfl : x = biName b := of_decide_eq_true h1
            obtain ⟨g1, g2⟩ := glB_ok h2
            exact xnd_bi G (xndEs es sc top X W (x0 :: xs) G tk h4) g1 (of_decide_eq_true h3) (ckEs_ok h4).1
      | _ => cases xs <;> cases h
    | _ => cases h
  | .co md t it c e own, sc, top, X, W, ex, G, tk, h => by
    have hx : ∃ x tg iter ifs scope pos, ex = .ListComp x [⟨tg, iter, ifs, 0⟩] scope pos ∧ (ckI T lv N sc top it tg iter && (okX iter && (ckT N (relS scope sc) (some scope) t tg && (ckC T lv N (relS scope sc) (some scope) c ifs && (ckE T lv N (relS scope sc) (some scope) e x && (blkC N sc scope (ownN N own) && (slotsT t).all (fun i => own.contains i))))))) = true := by
      unfold ckE at h
      split at h <;> first | (cases h; done) | skip
      all_goals (try rename_i heq; try cases heq)
      all_goals first
        | exact ⟨_, _, _, _, _, _, rfl, h⟩
        | contradiction
    obtain ⟨x, tg, iter, ifs, scope, pos, rfl, h⟩ := hx
    obtain ⟨h1, h2⟩ := and1 h
    obtain ⟨h2, h3⟩ := and1 h2
    obtain ⟨h3, h4⟩ := and1 h3
    obtain ⟨h4, h5⟩ := and1 h4
    obtain ⟨h5, h6⟩ := and1 h5
    obtain ⟨h6, h7⟩ := and1 h6
    have ok := blkOk_by h6
    exact PEimp (pe_lc (own := ownN N own) (wi := xeI T X W (rsI P it)) (g := gD X.K t) (tt := rdT X.K (evC P c)) (te := rd X.K (evE P e)) G.calm (by rw [G.hN]; exact G.nd) (xndI it sc top X W tg iter G tk h1) (by rw [G.hN, G.sco]; exact ok)
      (fun s H C cl fp => sndT (G.blk ok.kind s H C cl fp) t tg h3) (fun s H C cl fp => sndC c _ _ _ ifs (G.blk ok.kind s H C cl fp) h4)
      (fun s H C cl fp => (sndE e _ _ _ x (G.blk ok.kind s H C cl fp) h5).pe) (folded_ok h2)) fun σ H Q q => q
theorem xndEs : ∀ (es : Es) (sc : Scope) (top : Option Scope) (X : Cx) (W : WX) (xs : List Expr), GX T P lv N sc top X → Takes X W → ckEs T lv N sc top es xs = true → PA X xs (xeA T X W (rsEs P es))
  | .nil, sc, top, X, W, xs, G, tk, h => by
    cases xs with
    | nil => exact xnd_nil
    | cons _ _ => cases h
  | .cons e r, sc, top, X, W, xs, G, tk, h => by
    cases xs with
    | nil => cases h
    | cons x xs =>
      obtain ⟨h1, h2⟩ := and1 h
      obtain ⟨h2, h3⟩ := and1 h2
      exact xnd_cons (sndE e sc top X x G h2).pe (xndE e sc top X W x G tk h2) (xndEs r sc top X W xs G tk h3) h1
theorem xndI : ∀ (it : It) (sc : Scope) (top : Option Scope) (X : Cx) (W : WX) (tg iter : Expr), GX T P lv N sc top X → Takes X W → ckI T lv N sc top it tg iter = true → PI X tg iter (xeI T X W (rsI P it))
  | .seq e, sc, top, X, W, tg, iter, G, tk, h => PIimp (pi_seq (xndE e sc top X W iter G tk h)) fun σ H Rr q => q
  | .rng _, _, _, _, _, _, _, _, _, _ => ⟨fun pins s σ H Q I q => by obtain ⟨A, w, S, x, h, q⟩ := q; cases h⟩
  | .enu _, _, _, _, _, _, _, _, _, _ => ⟨fun pins s σ H Q I q => by obtain ⟨A, w, S, x, h, q⟩ := q; cases h⟩
  | .zip _ _, _, _, _, _, _, _, _, _, _ => ⟨fun pins s σ H Q I q => by obtain ⟨A, w, S, x, h, q⟩ := q; cases h⟩
end
end
/-! ### statements -/
section
variable {T : Tb} {P : Pg} {lv : Nat} {N : List Str} {sc : Scope} {X : Cx} {W : WX}
theorem pss_orr {sts : List Stmt} {t1 t2 : TS} (h1 : PSs X sts t1) (h2 : PSs X sts t2) : PSs X sts (fun D σ H => t1 D σ H ∨ t2 D σ H) := ⟨fun pins s σ H D I q => q.elim (h1.run pins s σ H D I) (h2.run pins s σ H D I)⟩
theorem ps_orr {st : Stmt} {t1 t2 : TS} (h1 : PS X st t1) (h2 : PS X st t2) : PS X st (fun D σ H => t1 D σ H ∨ t2 D σ H) := ⟨fun pins s σ H D I q => q.elim (h1.run pins s σ H D I) (h2.run pins s σ H D I)⟩
theorem ps_no {st : Stmt} {f : Wd → Option Xd} (hf : ∀ w, f w = none) : PS X st (xeS T X W f) := by
  refine ⟨fun pins s σ H D I q => ?_⟩
  obtain ⟨A, w, S, x, h, q⟩ := q
  rw [hf] at h
  cases h
theorem xnd_if {c : E} {a b : List S} {x : Expr} {xs ys : List Stmt} {pos : Pos} (hc : PT X x (rdT X.K (evT P c))) (ha : PSs X xs (xeS T X W (rsB P a))) (hb : PSs X ys (xeS T X W (rsB P b))) : PS X (.If x xs ys pos) (xeS T X W (rsS P (.ite c a b))) := by
  refine PSimp (ps_if hc ha hb) fun D σ H q => ?_
  obtain ⟨A, w, S, z, e1, q⟩ := q
  obtain ⟨x, ea, e1⟩ := nx_some e1
  refine ⟨A, w, S, x.1, x.2, ea, fun A1 H1 s1 S1 => ?_⟩
  cases hx : x.1 with
  | true =>
    rw [hx, if_pos rfl] at e1
    rw [if_pos rfl]
    exact ⟨A1, x.2, S1, z, e1, q.step s1⟩
  | false =>
    rw [hx, if_neg Bool.false_ne_true] at e1
    rw [if_neg Bool.false_ne_true]
    exact ⟨A1, x.2, S1, z, e1, q.step s1⟩
theorem xnd_bnil : PSs X [] (xeS T X W (rsB P [])) := by
  refine PSsimp pss_nil fun D σ H q => ?_
  obtain ⟨A, w, S, z, e1, q⟩ := q
  cases e1
theorem xnd_bcons {s : S} {r : List S} {st : Stmt} {sts : List Stmt} (h1 : PS X st (rdS X.K (exS P s))) (x1 : PS X st (xeS T X W (rsS P s))) (x2 : PSs X sts (xeS T X W (rsB P r))) : PSs X (st :: sts) (xeS T X W (rsB P (s :: r))) := by
  refine PSsimp (pss_cons (ps_orr h1 x1) x2) fun D σ H q => ?_
  obtain ⟨A, w, S, z, e1, q⟩ := q
  rcases orr_some e1 with e1 | ⟨_, e1⟩
  · exact .inr ⟨A, w, S, z, e1, q⟩
  · obtain ⟨x, ea, e1⟩ := nx_some e1
    obtain ⟨f1, w1⟩ := x
    refine .inl ⟨A, w, S, f1, w1, ea, ?_⟩
    cases f1 with
    | nx => exact fun A1 σ1 H1 s1 S1 => ⟨A1, w1, S1, z, e1, q.step s1⟩
    | _ => cases e1
theorem xnd_for (G : GX T P lv N sc none X) {t : Tg} {it : It} {body : List S} {kill : List Nat} {gc : Bool} {tg iter : Expr} {sts : List Stmt} {pos : Pos} (hi : PI X tg iter (rdI X.K (evI P it))) (xi : PI X tg iter (xeI T X W (rsI P it))) (hx : okX iter = true) (ht : PG X tg (gD X.K t)) (hb : PSs X sts (rdS X.K (exB P body))) (xb : PSs X sts (xeS T X W (rsB P body))) :
    PS X (.For tg iter sts [] pos) (xeS T X W (rsS P (.for t it body kill gc))) := by
  refine PSimp (ps_for G.po G.calm (pi_orr hi xi) ht (pss_orr hb xb) (folded_ok hx)) fun D σ H q => ?_
  obtain ⟨A, w, S, z, e1, q⟩ := q
  rcases orr_some e1 with e1 | ⟨_, e1⟩
  · exact .inr ⟨A, w, S, z, e1, q⟩
  obtain ⟨x, ea, e1⟩ := nx_some e1
  refine .inl ⟨A, w, S, x.1, x.2, ea, fun A1 H1 J s1 S1 ok1 wd => ?_⟩
  have hL : x.2.m.length = A1.mu.length := S1.mu.length
  let Wi : Nat → Sl → Hp → Prop := fun i σ' Hh => i ≤ x.1.xs.length ∧ ∃ (A' : Ad) (w1 : Wd), Step A1 H1 A' Hh ∧ Sim X.K Hh A' w1 σ' ∧ x.1.ok w1 = true ∧
    rsFor (asg t) (exB P body) (rsB P body) (postF kill gc x.2.m.length) x.1.ok (x.1.xs.drop i) w1 = some z
  refine ⟨fun i m σ' Hh => m = x.1.xs.length - i ∧ Wi i σ' Hh, ⟨x.1.xs.length, by simp, Nat.zero_le _, A1, x.2, Step.refl A1 H1, S1, ok1, e1⟩, ?_⟩
  rintro i m σ' Hh ⟨rfl, hile, A', w1, st, S', ok', hrun⟩
  by_cases hlt : i < x.1.xs.length
  · right
    obtain ⟨g1, g2⟩ := wd.go A' Hh w1 σ' i st.toCar S' ok' hlt
    refine ⟨g1, Wi (i + 1), fun σ2 H2 hw => ⟨_, by omega, rfl, hw⟩, fun v H2 hy => ?_⟩
    obtain ⟨st2, S2, hv⟩ := g2 v H2 hy
    rw [List.drop_eq_getElem_cons hlt] at hrun
    obtain ⟨wa, eb, hrun⟩ := Option.bind_eq_some_iff.mp (show (asg t (x.1.xs[i]) w1).bind _ = some z from hrun)
    have s12 : Step A1 H1 A' H2 := st.trans st2
    refine ⟨A', w1, _, wa, S2, hv _ (List.getElem?_eq_getElem hlt), eb, fun σ3 S3 _ _ _ => ?_⟩
    rcases orr_some hrun with hrun | ⟨_, hrun⟩
    · exact .inr ⟨A', wa, S3, z, hrun, q.step (s1.trans s12)⟩
    obtain ⟨r, ec, hrun⟩ := nx_some hrun
    refine .inl ⟨A', wa, S3, r.1, r.2, ec, ?_⟩
    have next : ∀ {o : Option Xd}, (postF kill gc x.2.m.length r.2).bind (fun w3 => if x.1.ok w3 then rsFor (asg t) (exB P body) (rsB P body) (postF kill gc x.2.m.length) x.1.ok (x.1.xs.drop (i + 1)) w3 else none) = o → o = some z →
        ∀ A4 σ4 H4, Step A' H2 A4 H4 → Sim X.K H4 A4 r.2 σ4 → Wi (i + 1) σ4 H4 := fun {o} h hz A4 σ4 H4 s4 S4 => by
      subst hz
      obtain ⟨w3, e3, h⟩ := Option.bind_eq_some_iff.mp h
      obtain ⟨A5, s5, S5, _⟩ := post_ok (s12.trans s4) S4 e3 hL
      split at h
      · rename_i ok3
        exact ⟨hlt, A5, w3, s5, S5, ok3, h⟩
      · cases h
    cases hr : r.1 with
    | bk =>
      rw [hr] at hrun
      cases hrun
    | rt d =>
      rw [hr] at hrun
      cases hrun
    | nx =>
      rw [hr] at hrun
      exact next hrun rfl
    | ct =>
      rw [hr] at hrun
      exact next hrun rfl
  · obtain rfl : i = x.1.xs.length := Nat.le_antisymm hile (Nat.le_of_not_lt hlt)
    rw [List.drop_length] at hrun
    cases hrun
theorem xnd_whl (G : GX T P lv N sc none X) {c : E} {body : List S} {kill : List Nat} {gc : Bool} {x : Expr} {sts : List Stmt} {pos : Pos} (hc : PT X x (rdT X.K (evT P c))) (hb : PSs X sts (rdS X.K (exB P body))) (xb : PSs X sts (xeS T X W (rsB P body))) :
    PS X (.While x sts [] pos) (xeS T X W (rsS P (.whl c body kill gc))) := by
  refine PSimp (ps_while G.po hc (pss_orr hb xb)) fun D σ H q => ?_
  obtain ⟨A, w, S, z, e1, q⟩ := q
  have hL : w.m.length = A.mu.length := S.mu.length
  have e1 : rsWhl (evT P c) (exB P body) (rsB P body) (postF kill gc w.m.length) fuel w = some z := e1
  let Wi : Nat → Sl → Hp → Prop := fun m σ' Hh => ∃ (A' : Ad) (w1 : Wd), Step A H A' Hh ∧ Sim X.K Hh A' w1 σ' ∧ rsWhl (evT P c) (exB P body) (rsB P body) (postF kill gc w.m.length) m w1 = some z
  refine ⟨Wi, ⟨fuel, A, w, Step.refl A H, S, e1⟩, ?_⟩
  rintro m σ' Hh ⟨A', w1, st, S', hrun⟩
  cases m with
  | zero => cases hrun
  | succ m =>
    obtain ⟨r, ea, hrun⟩ := nx_some hrun
    refine ⟨A', w1, S', r.1, r.2, ea, fun A2 H2 s2 S2 => ?_⟩
    cases hr : r.1 with
    | false =>
      rw [hr, if_neg Bool.false_ne_true] at hrun
      cases hrun
    | true =>
      rw [hr, if_pos rfl] at hrun
      rw [if_pos rfl]
      have s12 : Step A H A2 H2 := st.trans s2
      refine ⟨Wi m, fun σ3 H3 hw => ⟨m, Nat.lt_succ_self m, hw⟩, ?_⟩
      rcases orr_some hrun with hrun | ⟨_, hrun⟩
      · exact .inr ⟨A2, r.2, S2, z, hrun, q.step s12⟩
      obtain ⟨y, eb, hrun⟩ := nx_some hrun
      refine .inl ⟨A2, r.2, S2, y.1, y.2, eb, ?_⟩
      have next : (postF kill gc w.m.length y.2).bind (fun w3 => rsWhl (evT P c) (exB P body) (rsB P body) (postF kill gc w.m.length) m w3) = some z → ∀ A4 σ4 H4, Step A2 H2 A4 H4 → Sim X.K H4 A4 y.2 σ4 → Wi m σ4 H4 := fun h A4 σ4 H4 s4 S4 => by
        obtain ⟨w3, e3, h⟩ := Option.bind_eq_some_iff.mp h
        obtain ⟨A5, s5, S5, _⟩ := post_ok (s12.trans s4) S4 e3 hL
        exact ⟨A5, w3, s5, S5, h⟩
      cases hz : y.1 with
      | bk =>
        rw [hz] at hrun
        cases hrun
      | rt d =>
        rw [hz] at hrun
        cases hrun
      | nx =>
        rw [hz] at hrun
        exact next hrun
      | ct =>
        rw [hz] at hrun
        exact next hrun
/-- raise c(..) -/
theorem xnd_rai (G : GX T P lv N sc none X) (tk : Takes X W) {c : Str} {f : Option Str} {es : Es} {xs : List Expr} {p pos pos2 : Pos} (hm : (c, f) ∈ T.errs) (hs : ("super" : Str) ∈ T.free) (hg : sc.names.lookup c = some .globalImplicit) (hl : es.len = f.toList.length) (hx : xs.length = es.len) (ho : xs.all okX = true) (ha : PA X xs (rdA X.K (evEs P es))) :
    PS X (.Raise (some (.Call (.Name c p) xs [] pos)) none pos2) (xeS T X W (rsS P (.rai c es))) := by
  obtain ⟨C, B, gC, gB, dbg, EA⟩ := G.er c f hm
  have gs := G.free _ hs
  have gl : Gl X c := by show X.env.kindOf _ = _; unfold Env.kindOf; rw [G.sco]; exact hg
  cases f with
  | none =>
    have : xs = [] := List.length_eq_zero_iff.mp (hx.trans hl)
    subst this
    obtain ⟨fI, q1, p1, p2, p3, p4, p5, scope, EI, hpos⟩ := EA.i0 rfl
    refine PSimp (ps_raise G.calm tk (pmk_err0 EA.c EI hpos gC gs G.room gl dbg)) fun D σ H q => ?_
    obtain ⟨A, w, S, x, h, q⟩ := q
    obtain ⟨y, ea, h⟩ := nx_some h
    cases es with
    | cons _ _ => cases hl
    | nil =>
      cases ea
      split at h
      · cases h
        exact q A σ H (.ref C) none (Step.refl A H) S ⟨C, none, gC, rfl, hm, .inl ⟨rfl, rfl, rfl⟩⟩
      · cases h
  | some n =>
    match xs, hx, hl, ho, ha with
    | [], hx, hl, _, _ => rw [← hx] at hl; cases hl
    | _ :: _ :: _, hx, hl, _, _ => rw [← hx] at hl; cases hl
    | [x], hx, hl, ho, ha =>
      obtain ⟨fI, q1, q2, p1, p2, p3, p4, p5, p6, p7, p8, p9, p10, scope, EI, hpos, hfl, hfs, hdf, noN, hbind⟩ := EA.i1 n rfl
      refine PSimp (ps_raise G.calm tk (pmk_err1 EA.c EI hpos hfl hfs hdf noN hbind gC gs G.room gl dbg ha (starEach_cons (by simpa using ho)))) fun D σ H q => ?_
      obtain ⟨A, w, S, z, h, q⟩ := q
      obtain ⟨y, ea, h⟩ := nx_some h
      split at h
      case isFalse => cases h
      rename_i hc
      cases h
      have hy := evEs_len ea
      refine ⟨A, w, S, y.1, y.2, ea, fun A1 vs H1 s1 S1 r1 => ?_⟩
      match hd : y.1, hy with
      | [dv], _ =>
        rw [hd] at r1 hc
        obtain ⟨v, rfl, r2⟩ := one_of r1
        refine ⟨v, rfl, fun dd hdd => ?_⟩
        have hn : Step A1 H1 A1 (upd H1 dd (.xd [(n, v)])) := Step.new hdd (S1.fresh hdd).1.2.2
        refine q A1 σ _ (.ref C) (some dd) (s1.trans hn) (S1.new hdd) ⟨C, some n, gC, rfl, hm, .inr ⟨n, dv, v, dd, rfl, ?_, rfl, upd_same, r2.step hn.toCar, ?_⟩⟩
        · show y.1 = [dv]
          exact hd
        · have := (Bool.and_eq_true_iff.mp hc).1
          simpa using this
      | [], hy => rw [hl] at hy; cases hy
      | _ :: _ :: _, hy => rw [hl] at hy; cases hy
end
end Fz

/-! Q41: within an except clause: what the error is, what it holds, the list that is returned. -/
namespace PySem.FzX
open PySem PySem.Spec PySem.Calls PyProof.Rows PySem.W
section
variable {prog : Program} {w : World} {A : Around} {E : Value → Shared → Prop} {s : Shared} {K : Frag} {x D : Addr} {ox : Obj} {od : Option Obj}
/-- a data descriptor stands ahead of what an instance's own dict holds -/
theorem found_data {name : Str} {a g : Value} (hc : hasDictIn K D = true) (ha : findIn K (.ref D) name = some (some a)) (hg : specialIn K a "__get__" = some (some g)) (ht : takesIn K a = some true) : findObj K D od name = some (.bind g a) := by
  obtain ⟨cd, hc, _⟩ := any_some hc
  unfold findObj
  rw [hc, Option.bind_some, ha, Option.bind_some]
  simp [hg, ht]
/-- e.__class__, e an error with a dict or without -/
theorem classOf {Q : Option Value → Shared → Prop} (T : L2.ExcC K D) (X : K.In s.heap) (I : InstAt s.heap x ox D od) (h : Q (some (.ref D)) { s with toks := s.toks + 1 }) : wpAny (model prog w) A (getAttr? (.ref x) "__class__") Q E s := by
  have hf : findObj K D od "__class__" = some (.bind (.builtin "getset_descriptor.__get__") (.builtin "object.__class__")) := found_data T.hd T.ha T.hn T.ht
  obtain ⟨hp, g, d, t, os⟩ := s
  have L0 := I.type (M := model prog w)
  have L1 := looks_findIn (M := model prog w) X T.hg
  have L2 := looks_findIn (M := model prog w) X T.hk
  have L3 := looks_find (M := model prog w) X I hf
  have sub : Looks (model prog w) hp (isInstance (.ref x) (.type "BaseException")) true := L0.andThen (looks_subIn X T.hs)
  have hx2 : (Value.builtin "BaseException.__getattribute__" == Value.builtin "object.__getattribute__") = false := by decide +kernel
  have hx1 : (onTheHeap (Value.ref D) && Value.builtin "BaseException.__getattribute__" == Value.builtin "object.__getattribute__") = false := by rw [hx2]; rfl
  unfold getAttr? getAttrBy? getAttrBy
  refine wpAny_bind (wpAny_mkText (wpAny_bind (wpAny_attempt (wpAny_holding (wpAny_bind (L0.at (wpAny_bind (L1.at ?_))))))))
  show wpAny _ _ (if (onTheHeap (Value.ref D) && Value.builtin "BaseException.__getattribute__" == Value.builtin "object.__getattribute__") = true then _ else _) _ _ _
  rw [hx1, if_neg Bool.false_ne_true]
  unfold getAttrByItsOwn hookBefore
  refine wpAny_bind ?_
  rw [if_pos (show onTheHeap (Value.ref D) = true from rfl)]
  refine L2.at (wpAny_bind (wpAny_attempt (wpAny_holding ?_)))
  unfold callGetattribute
  rw [show (false && onTheHeap (Value.builtin "BaseException.__getattribute__")) = false from rfl, if_neg Bool.false_ne_true]
  unfold boundAndCalled
  rw [PySem.F.excAttr_ValueError.ga.bind (.ref x)]
  refine wpAny_bind (wpAny_pure ?_)
  show wpAny _ _ (call (.builtin "BaseException.__getattribute__") [.ref x, .str "__class__" t]) _ _ _
  refine wpAny_call (codeAny_call_builtin PySem.F.excAttr_ValueError.ga.plain PySem.F.entry_bexc_ga ?_)
  refine @check_slot (model prog w) _ _ ⟨hp, g, d, t + 1, os⟩ "BaseException.__getattribute__" "BaseException" "__getattribute__" (.ref x) [.str "__class__" t] [] _ (by decide +kernel) (by decide +kernel) sub (PySem.F.args_bexc_ga (.ref x) (.str "__class__" t)) ?_
  unfold Builtin.«object.__getattribute__»
  refine wpAny_bind (wpAny_of_eq (a := ((Value.ref x : Value), [Value.str "__class__" t])) (by first | rfl | (simp only [slotArgs]; rfl)) ?_)
  refine wpAny_bind (wpAny_pure (wpAny_bind (L0.at (wpAny_bind (L3.at ?_)))))
  show wpAny _ _ (holding [Value.builtin "object.__class__"] (call (.builtin "getset_descriptor.__get__") [.builtin "object.__class__", .ref x, .ref D]) >>= ret) _ _ _
  refine wpAny_bind (wpAny_holding (wpAny_call (class_get (s := ⟨hp, g, d, t + 1, os⟩) (ox := ox) (od := od) X I T.hm ?_)))
  refine wpAny_pure ?_
  show wpAny _ _ (handedOut (.ref D)) _ _ _
  rw [handedOut_of (v := .ref D) rfl]
  first
    | exact wpAny_pure (wpAny_pure h)
    | exact wpAny_pure h
    | exact wpAny_pure (wpAny_bind (wpAny_pure (wpAny_pure h)))
theorem isOf (T : L2.ExcC K D) : KitX K (.ref x) (.ref D) (fun h => InstAt h x ox D od) := by
  have key : ∀ {h : Heap}, K.In h → ∃ c d cd sl, h.get? D = some ⟨c, d, .cls cd, sl⟩ := fun {h} X => by
    obtain ⟨cdD, hcD, _⟩ := any_some T.hd
    unfold clsIn at hcD
    split at hcD
    · rename_i c' d' cd' sl' ho
      exact ⟨_, _, _, _, X _ _ ho⟩
    · cases hcD
  refine ⟨fun _ _ _ I => I.type, fun _ _ X _ => ?_, fun h tp dd its n sl X htp => ?_, fun X I k => classOf T X I k⟩
  · obtain ⟨c, d, cd, sl, e⟩ := key X
    intro A' Q' E' s' k q
    unfold isType loadHead
    exact wpAny_bind (wpAny_loadPart (k _ _ e) (wpAny_pure q))
  · obtain ⟨c, d, cd, sl, e⟩ := key X
    refine Bool.eq_false_iff.mpr fun q => ?_
    have e2 : D = tp := Value.ref.inj (beq_iff_eq.mp q)
    subst e2
    rw [e] at htp
    cases htp
end
end PySem.FzX
namespace Fz
open PySem PySem.Spec PyProof.Rows L2
section
variable {X : Cx} {a C : Addr} {oe : Obj} {cls : Value} {d : Option Addr} {pn : List (Addr × Obj)}
/-- the error's dict stands -/
def dOk (d : Option Addr) (H : Hp) : Prop := ∀ dd, d = some dd → ∃ fs, H dd = some (.xd fs)
def rIsD (K : PySem.W.Frag) (C a : Addr) (d : Option Addr) : List V → Hp → VK → Prop := fun xs H Q => ∃ (c : V) (cv : Value) (b : Bool), xs = [.ref a, c] ∧ (∀ u, RelV c u → u = cv) ∧ PySem.W.kitOne K (.ref C) cv = some b ∧ dOk d H ∧ Q (.bl b) H
theorem call_isD (T : ExcC X.K C) (hz : Zc (.ref C) d oe) (hf : ∃ vs, oe.data = .fields vs) : CallR (X.suite a ((a, oe) :: pn)) (.builtin "isinstance") (rIsD X.K C a d) := by
  intro pins s σ H xs us Q I r h
  obtain ⟨c, cv, b, rfl, hcv, e, hdk, q⟩ := h
  cases r with
  | cons rx rr =>
    cases rr with
    | cons rt rr =>
      cases rr
      cases rx
      have ec := hcv _ rt
      subst ec
      obtain ⟨hget, _⟩ := I.pin (a, oe) (List.mem_append.mpr (.inl List.mem_cons_self))
      obtain ⟨vs, hv⟩ := hf
      have J : ∃ od, PySem.W.InstAt s.heap a oe C od := by
        cases d with
        | none =>
          refine ⟨none, hget, hz.1, by unfold PySem.W.notCls; rw [hv] <;> rfl, ?_⟩
          rw [hz.2]
          trivial
        | some dd =>
          obtain ⟨fs, hfs⟩ := hdk dd rfl
          have hx : ObjOk X.prog X.w H s.heap dd (.xd fs) := I.hok dd _ hfs
          obtain ⟨mA, hns, hr⟩ := hx
          obtain ⟨od, ho, hl⟩ := lookIn_ns hns
          refine ⟨some od, hget, hz.1, by unfold PySem.W.notCls; rw [hv] <;> rfl, ?_⟩
          rw [hz.2]
          exact ho
      obtain ⟨od, J⟩ := J
      exact PySem.W.kia_one (PySem.FzX.isOf T) I.kIn J e (fun z => nomatch z) fun tk => ⟨.bl b, H, I.kept (t' := tk) fun _ _ z => z, rfl, q⟩
/-- what an item of the list is worth -/
def hvV (v : V) : HI → V
  | .str s => .str s
  | .fld => v
  | .isi => .bl true
/-- what holds of the error in slot i -/
structure HOk1 (i : Nat) (a : Addr) (cls : Value) (C : Addr) (d : Option Addr) (f : Option Str) (v : V) (σ : Sl) (H : Hp) : Prop where
  sl : σ[i]? = some (some (.ref a))
  cl : cls = .ref C
  dk : dOk d H
  fd : ∀ n, f = some n → ∃ dd, d = some dd ∧ H dd = some (.xd [(n, v)])
def isName (n : Str) : Expr → Bool
  | .Name x _ => decide (x = n)
  | _ => false
/-- f: the field's name; n: the clause's; eb: what the errors stand under -/
def ckHI (u : Bool) (f : Option Str) (n eb : Str) : HI → Expr → Bool
  | .str s, .Constant (.str z) _ _ => decide (s = z)
  | .fld, .Attribute x m _ => decide (f = some m) && isName n x
  | .isi, .Call (.Name g _) [x, y] [] _ => u && (decide (g = ("isinstance" : Str)) && (isName n x && isName eb y))
  | _, _ => false
def ckHIs (u : Bool) (f : Option Str) (n eb : Str) : List HI → List Expr → Bool
  | [], [] => true
  | h :: hs, x :: xs => ckHI u f n eb h x && ckHIs u f n eb hs xs
  | _, _ => false
theorem isName_ok {n : Str} {e : Expr} (h : isName n e = true) : ∃ p, e = .Name n p := by
  cases e with
  | Name x p => exact ⟨p, by rw [of_decide_eq_true (show decide (x = n) = true from h)]⟩
  | _ => cases h
/-- what the clause's names are -/
structure HNm (X : Cx) (u : Bool) (i : Nat) (n eb : Str) (B : Addr) : Prop where
  hN : X.N[i]? = some n
  lo : X.env.kindOf n = some .local
  db : (n == ("__debug__" : Str)) = false
  cd : (n == ("__classdict__" : Str)) = false
  gi : u = true → Gl X "isinstance"
  fi : u = true → X.mg "isinstance" = none
  ge : u = true → Gl X eb
  me : X.mg eb = some (.ref B)
  de : u = true → (eb == ("__debug__" : Str)) = false
theorem hi_ok {u : Bool} {i : Nat} {n eb : Str} {B : Addr} {f : Option Str} {v : V} (M : HNm X u i n eb B) (T : ErrA X.prog X.K C B f) (hz : Zc cls d oe) (hf : ∃ vs, oe.data = .fields vs) : ∀ {h : HI} {x : Expr}, ckHI u f n eb h x = true →
    PE (X.suite a ((a, oe) :: pn)) x (fun σ H Q => HOk1 i a cls C d f v σ H ∧ Q (hvV v h) H) := by
  intro h x hc
  have vn : Vis X.env.scope n := .inl M.lo
  have pn1 : ∀ p, PE (X.suite a ((a, oe) :: pn)) (.Name n p) (tVar i) := fun p => pe_var (X := X.suite a ((a, oe) :: pn)) M.hN vn M.db M.cd
  have xf : XfC X.K C := ⟨T.x.hg, T.x.hk, T.x.hs, T.x.hd⟩
  cases h with
  | str s =>
    cases x with
    | Constant c k p =>
      cases c with
      | str z =>
        obtain rfl : s = z := of_decide_eq_true hc
        exact ⟨fun pins s2 σ H Q I q => pe_str.run pins s2 σ H Q I q.2⟩
      | _ => cases hc
    | _ => cases hc
  | fld =>
    cases x with
    | Attribute y m p =>
      obtain ⟨h1, h2⟩ := Bool.and_eq_true_iff.mp hc
      have h1 := of_decide_eq_true h1
      obtain ⟨p2, rfl⟩ := isName_ok h2
      obtain ⟨fI, q1, q2, p1, p2, p3, p4, p5, p6, p7, p8, p9, p10, scope, _, _, _, _, _, hno, _⟩ := T.i1 m h1
      refine ⟨fun pins s2 σ H Q I q => (pe_xf (X := X) (C := C) (n := m) xf hno hz hf (pn1 _)).run pins s2 σ H Q I ?_⟩
      obtain ⟨⟨q1, q2, q3, q4⟩, q⟩ := q
      obtain ⟨dd, hd, hx⟩ := q4 m h1
      exact ⟨.ref a, q1, rfl, q2, dd, [(m, v)], v, hd, hx, by simp [List.lookup], q⟩
    | _ => cases hc
  | isi =>
    cases x with
    | Call f xs kws pos =>
      cases f with
      | Name g p =>
        match xs, kws, hc with
        | [x, y], [], hc =>
          obtain ⟨hu, hc⟩ := Bool.and_eq_true_iff.mp hc
          obtain ⟨h1, h2⟩ := Bool.and_eq_true_iff.mp hc
          obtain ⟨h2, h3⟩ := Bool.and_eq_true_iff.mp h2
          obtain rfl : g = "isinstance" := of_decide_eq_true h1
          obtain ⟨p2, rfl⟩ := isName_ok h2
          obtain ⟨p3, rfl⟩ := isName_ok h3
          refine ⟨fun pins s2 σ H Q I q => ?_⟩
          obtain ⟨⟨q1, q2, q3, q4⟩, q⟩ := q
          subst q2
          have ha : PA (X.suite a ((a, oe) :: pn)) [.Name n p2, .Name eb p3] (tCons (tVar i) (tCons (tC (.ref B)) tNil)) :=
            pa_cons (pn1 _) (pa_cons (pe_glob (X := X.suite a ((a, oe) :: pn)) (M.ge hu) M.me rfl (M.de hu)) pa_nil)
          exact (pe_callB (X := X.suite a ((a, oe) :: pn)) (call_isD T.x hz hf) (M.gi hu) (M.fi hu) rfl ha).run pins s2 σ H Q I ⟨.ref a, q1, .ref B, .ref B, true, rfl, fun u r => r, T.kb, q3, q⟩
        | [], _, hc => cases hc
        | [_], _, hc => cases hc
        | [_, _], _ :: _, hc => cases hc
        | _ :: _ :: _ :: _, _, hc => cases hc
      | _ => cases xs <;> cases hc
    | _ => cases hc
theorem his_ok {u : Bool} {i : Nat} {n eb : Str} {B : Addr} {f : Option Str} {v : V} (M : HNm X u i n eb B) (T : ErrA X.prog X.K C B f) (hz : Zc cls d oe) (hf : ∃ vs, oe.data = .fields vs) : ∀ {hs : List HI} {xs : List Expr}, ckHIs u f n eb hs xs = true →
    PA (X.suite a ((a, oe) :: pn)) xs (fun σ H Q => HOk1 i a cls C d f v σ H ∧ Q (hs.map (hvV v)) H)
  | [], [], _ => ⟨fun pos pins s σ H Q I q => pa_nil.run pos pins s σ H Q I q.2⟩
  | [], _ :: _, h => nomatch h
  | _ :: _, [], h => nomatch h
  | h :: hs, x :: xs, hc => by
    obtain ⟨h1, h2⟩ := Bool.and_eq_true_iff.mp hc
    have ih := his_ok M T hz hf h2 (v := v)
    have hx : starEach (x :: xs) X.env = (false, eval x X.env) :: starEach xs X.env := by
      cases x <;> first | rfl | (cases h <;> cases h1)
    exact ⟨fun pos pins s σ H Q I q => (pa_cons (X := X.suite a ((a, oe) :: pn)) (hi_ok M T hz hf h1 (v := v)) ih hx).run pos pins s σ H Q I ⟨q.1, q.1, q.2⟩⟩
/-- the clause: return [..], or return [..] if isinstance(e, eb) else [..] -/
def ckHd (u : Bool) (f : Option Str) (n eb : Str) (its : List HI) : List Stmt → Bool
  | [.Return (some (.List xs _)) _] => ckHIs u f n eb its xs
  | [.Return (some (.IfExp t (.List xs _) _ _)) _] => ckHI u f n eb .isi t && ckHIs u f n eb its xs
  | _ => false
def tHd (K : PySem.W.Frag) (i : Nat) (C : Addr) (f : Option Str) (its : List HI) (a : Addr) (cls : Value) (d : Option Addr) : TS := fun D σ H => ∃ v, HOk1 i a cls C d f v σ H ∧ its.length ≤ sizeLine ∧ ∀ p, H p = none → D.rt (.ref p) (upd H p (.lst (its.map (hvV v))))
theorem hd_ok {u : Bool} {i : Nat} {n eb : Str} {B : Addr} {f : Option Str} {its : List HI} {sts : List Stmt} (M : HNm X u i n eb B) (T : ErrA X.prog X.K C B f) (hz : Zc cls d oe) (hf : ∃ vs, oe.data = .fields vs) (hc : ckHd u f n eb its sts = true) :
    PSs (X.suite a ((a, oe) :: pn)) sts (tHd X.K i C f its a cls d) := by
  cases sts with
  | nil => cases hc
  | cons st r =>
    cases r with
    | cons st2 r => cases st <;> first | (cases hc; done) | (rename_i v _; cases v with
      | none => cases hc
      | some v => cases v <;> first | (cases hc; done) | (rename_i a1 b1 c1 d1; cases b1 <;> cases hc))
    | nil =>
      cases st with
      | Return v p2 =>
        cases v with
        | none => cases hc
        | some v =>
          cases v with
          | List xs p =>
            refine ⟨fun pins s σ H D I q => ?_⟩
            obtain ⟨v, q1, q2, q3⟩ := q
            exact (pss_cons (ps_ret (pe_lst (his_ok M T hz hf hc (v := v)))) pss_nil).run pins s σ H D I ⟨q1, by rw [List.length_map]; exact q2, q3⟩
          | IfExp t l o p3 =>
            cases l with
            | List xs p =>
              obtain ⟨h1, h2⟩ := Bool.and_eq_true_iff.mp hc
              refine ⟨fun pins s σ H D I q => ?_⟩
              obtain ⟨v, q1, q2, q3⟩ := q
              have hp : plainT t = true := by
                cases t <;> first | rfl | cases h1
              have never : PE (X.suite a ((a, oe) :: pn)) o (fun _ _ _ => False) := ⟨fun _ _ _ _ _ _ q => q.elim⟩
              refine (pss_cons (ps_ret (pe_ifExp (pt_truth (hi_ok M T hz hf h1 (v := v)) (fun w => plainT_ok hp w)) (pe_lst (his_ok M T hz hf h2 (v := v))) never)) pss_nil).run pins s σ H D I ?_
              exact ⟨q1, true, rfl, q1, by rw [List.length_map]; exact q2, q3⟩
            | _ => cases hc
          | _ => cases hc
      | _ => cases hc
end
end Fz

/-! Q16: the checker of statements; defs. -/
namespace Fz
open PySem PySem.Spec PyProof.Rows L2

/-- which names a = b of tuples stores from the right: none: the model does not say -/
def swS (sc : Scope) (t v : Expr) : Option (Option (List Str)) := match t, v with
  | .Tuple ts _ _, .Tuple vs _ _ =>
    if (!(ts.length == 2 || ts.length == 3) || vs.length != ts.length) = true then some none else
    if (vs.any fun | .Starred .. => true | _ => false) = true then some none else
    let line := (ts.head?.map (·.pos.line)).getD 0
    let names := ts.filterMap fun
      | .Name id pos => if sc.names.lookup id == some .local && pos.line == line then some id else none
      | _ => none
    if (names.length != ts.length || names.eraseDups.length != names.length) = true then some none else
    if vs.all (foldedForSure 8) = true then some none else
    if vs.all (constantsAlone 8) = true then none else some (some names)
  | .List _ _, .Tuple _ _ _ => none
  | _, _ => some none
theorem swS_ok {sc : Scope} {t v : Expr} {env : Env} {o : Option (List Str)} (hs : env.scope = sc) (hk : sc.kind = .function) (h : swS sc t v = some o) : swappedStores [t] v env = pure o := by
  have bk : (env.blockKind != .function) = false := by
    unfold Env.blockKind
    rw [hs, hk]
    rfl
  have ko : ∀ x, env.kindOf x = sc.names.lookup x := fun x => by unfold Env.kindOf; rw [hs]
  cases t with
  | Tuple ts k pos =>
    cases v with
    | Tuple vs k2 pos2 =>
      unfold swappedStores
      simp only [swS] at h
      simp only [bk, Bool.or_false, ko, pure_bind]
      split at h
      · rename_i h1
        cases h
        exact (if_pos h1)
      · rename_i h1
        refine (if_neg h1).trans ?_
        split at h
        · rename_i h2
          cases h
          try simp only [pure_bind]
          exact (if_pos h2)
        · rename_i h2
          try simp only [pure_bind]
          refine (if_neg h2).trans ?_
          split at h
          · rename_i h3
            cases h
            try simp only [pure_bind]
            exact (if_pos h3)
          · rename_i h3
            try simp only [pure_bind]
            refine (if_neg h3).trans ?_
            split at h
            · rename_i h4
              cases h
              try simp only [pure_bind]
              exact (if_pos h4)
            · rename_i h4
              try simp only [pure_bind]
              refine (if_neg h4).trans ?_
              split at h
              · cases h
              · rename_i h5
                cases h
                try simp only [pure_bind]
                exact (if_neg h5)
    | _ => cases h; rfl
  | List ts pos =>
    cases v with
    | Tuple vs k2 pos2 => cases h
    | _ => cases h; rfl
  | _ => cases h; rfl

section
variable (T : Tb) (lv : Nat) (N : List Str) (sc : Scope)
def locB (i : Nat) (x : Str) : Bool := decide (N[i]? = some x) && (match sc.names.lookup x with
  | some .local => true
  | _ => false)
def ckPar (t : Tg) (e : E) (tg x : Expr) (names : List Str) : Bool := match t, e, tg, x with
  | .tu [.nm i, .nm j], .tup (.cons ea (.cons eb .nil)), .Tuple [.Name a _, .Name b _] _ _, .Tuple [xa, xb] _ _ =>
    locB N sc i a && (locB N sc j b && (!(i == j) && (decide (names = [a, b]) && ckEs T lv N sc none (.cons ea (.cons eb .nil)) [xa, xb])))
  | .tu [.nm i, .nm j, .nm l], .tup (.cons ea (.cons eb (.cons ec .nil))), .Tuple [.Name a _, .Name b _, .Name c _] _ _, .Tuple [xa, xb, xc] _ _ =>
    locB N sc i a && (locB N sc j b && (locB N sc l c && (!(i == j) && (!(i == l) && (!(j == l) && (decide (names = [a, b, c]) && ckEs T lv N sc none (.cons ea (.cons eb (.cons ec .nil))) [xa, xb, xc]))))))
  | _, _, _, _ => false
def ckCo (t : Tg) (e : E) (tg x : Expr) : Bool := match t, e, tg, x with
  | .nm i, .co _ t it c e own, .Name y py, .ListComp x [⟨tg, iter, ifs, 0⟩] scope pos =>
    locB N sc i y && ((py.line == pos.line) && (!(scope.names.any fun (n, k) => n == y && (k == .local || k == .cell)) && (ckI T lv N sc none it tg iter && (okX iter && (ckT N (relS scope sc) (some scope) t tg && (ckC T lv N (relS scope sc) (some scope) c ifs &&
      (ckE T lv N (relS scope sc) (some scope) e x && (blkC N sc scope (ownN N own) && (slotsT t).all (fun i => own.contains i)))))))))
  | _, _, _, _ => false
def ckSet (t : Tg) (e : E) (tg x : Expr) : Bool :=
  if noComp x then noStar tg && (match swS sc tg x with
    | some none => ckT N sc none t tg && ckE T lv N sc none e x
    | some (some names) => ckPar T lv N sc t e tg x names
    | none => false)
  else ckCo T lv N sc t e tg x || (tgF sc tg && (noStar tg && (match swS sc tg x with
    | some none => ckT N sc none t tg && ckE T lv N sc none e x
    | _ => false)))
def ckTu (es : Es) : Expr → Bool
  | .Tuple xs _ _ => ckEs T lv N sc none es xs
  | _ => false
/-- isinstance may be asked -/
def uB : Bool := decide (("isinstance" : Str) ∈ T.free) && (glB sc "isinstance" && glB sc T.eb)
def ckRai (c : Str) (es : Es) : Stmt → Bool
  | .Raise (some (.Call (.Name x _) xs [] _)) none _ => decide (x = c) && (glB sc c && (decide (("super" : Str) ∈ T.free) && ((match T.errs.lookup c with
    | some f => decide (xs.length = f.toList.length)
    | none => false) && ckEs T lv N sc none es xs)))
  | _ => false
def ckCls (c : Str) (i : Nat) (its : List HI) : List ExceptHandler → Bool
  | [.ExceptHandler (some (.Name x _)) (some n) (b :: hst) _] => decide (x = c) && (glB sc c && (locB N sc i n && (!(n == ("__debug__" : Str)) && (!(n == ("__classdict__" : Str)) && (match T.errs.lookup c with
    | some f => ckHd (uB T sc) f n T.eb its (b :: hst) && T.errs.all (fun q => !(q.1 == c) || decide (q.2 = f))
    | none => false)))))
  | _ => false
mutual
def ckS : S → Stmt → Bool
  | .set t e, .Assign [tg] x _ => ckSet T lv N sc t e tg x
  | .put o i e, .Assign [.Subscript x y _] z _ => okX y && (ckE T lv N sc none e z && (ckE T lv N sc none o x && ckE T lv N sc none i y))
  | .dput o es e, .Assign [.Subscript x y _] z _ => ckE T lv N sc none e z && (ckE T lv N sc none o x && ckTu T lv N sc es y)
  | .dputI o i e, .Assign [.Subscript x y _] z _ => okX y && (ckE T lv N sc none e z && (ckE T lv N sc none o x && ckE T lv N sc none i y))
  | .ex e, .Expr x _ => noComp x && ckE T lv N sc none e x
  | .ret e, .Return (some x) _ => ckE T lv N sc none e x
  | .retn, .Return none _ => true
  | .brk, .Break _ => true
  | .cnt, .Continue _ => true
  | .pas, .Pass _ => true
  | .dead, _ => true
  | .ite c a b, .If x xs ys _ => ckE T lv N sc none c x && (ckB a xs && ckB b ys)
  | .for t it body _ _, .For tg iter sts [] _ => okX iter && (ckI T lv N sc none it tg iter && (ckT N sc none t tg && ckB body sts))
  | .whl c body _ _, .While x sts [] _ => ckE T lv N sc none c x && ckB body sts
  | .rai c es, st => ckRai T lv N sc c es st
  | .tr body c (some i) its, .Try sts hs [] [] _ => ckCls T N sc c i its hs && ckB body sts
  | _, _ => false
def ckB : List S → List Stmt → Bool
  | [], [] => true
  | s :: r, st :: sts => ckS s st && ckB r sts
  | _, _ => false
end
end
section
variable {T : Tb} {P : Pg} {lv : Nat} {N : List Str} {sc : Scope} {X : Cx}
theorem locB_ok {i : Nat} {x : Str} (h : locB N sc i x = true) : N[i]? = some x ∧ sc.names.lookup x = some .local := by
  obtain ⟨h1, h2⟩ := and1 h
  refine ⟨of_decide_eq_true h1, ?_⟩
  cases q : sc.names.lookup x with
  | none => rw [q] at h2; cases h2
  | some k =>
    rw [q] at h2
    cases k <;> first | rfl | cases h2
theorem ne_ok {i j : Nat} (h : (!(i == j)) = true) : i ≠ j := by simpa using h
theorem sndSet (G : GX T P lv N sc none X) {t : Tg} {e : E} {tg x : Expr} {pos : Pos} (h : ckSet T lv N sc t e tg x = true) : PS X (.Assign [tg] x pos) (rdS X.K (exS P (.set t e))) := by
  unfold ckSet at h
  split at h
  · rename_i hc
    obtain ⟨h1, h2⟩ := and1 h
    cases q : swS sc tg x with
    | none => rw [q] at h2; cases h2
    | some o =>
      rw [q] at h2
      have hw := swS_ok G.sco G.kind q
      cases o with
      | none =>
        obtain ⟨h3, h4⟩ := and1 h2
        exact snd_set (sndE e sc none X x G h4).pe (sndT G t tg h3) hc h1 hw
      | some names =>
        have h2 : ckPar T lv N sc t e tg x names = true := h2
        unfold ckPar at h2
        split at h2
        · obtain ⟨h3, k⟩ := and1 h2
          obtain ⟨h4, k⟩ := and1 k
          obtain ⟨h5, k⟩ := and1 k
          obtain ⟨h6, kz⟩ := and1 k
          have h6 := of_decide_eq_true h6
          subst h6
          obtain ⟨a1, a2⟩ := locB_ok h3
          obtain ⟨b1, b2⟩ := locB_ok h4
          exact snd_par2 G a1 b1 (ne_ok h5) a2 b2 (sndEs _ sc none X _ G kz) hw
        · obtain ⟨h3, k⟩ := and1 h2
          obtain ⟨h4, k⟩ := and1 k
          obtain ⟨h5, k⟩ := and1 k
          obtain ⟨h6, k⟩ := and1 k
          obtain ⟨h7, k⟩ := and1 k
          obtain ⟨h8, k⟩ := and1 k
          obtain ⟨h9, kz⟩ := and1 k
          have h9 := of_decide_eq_true h9
          subst h9
          obtain ⟨a1, a2⟩ := locB_ok h3
          obtain ⟨b1, b2⟩ := locB_ok h4
          obtain ⟨c1, c2⟩ := locB_ok h5
          exact snd_par3 G a1 b1 c1 (ne_ok h6) (ne_ok h7) (ne_ok h8) a2 b2 c2 (sndEs _ sc none X _ G kz) hw
        · cases h2
  · rcases Bool.or_eq_true_iff.mp h with h | h
    case inr =>
      obtain ⟨h1, k⟩ := and1 h
      obtain ⟨h2, k⟩ := and1 k
      cases q : swS sc tg x with
      | none => rw [q] at k; cases k
      | some o =>
        rw [q] at k
        cases o with
        | none =>
          obtain ⟨h3, h4⟩ := and1 k
          exact snd_setF G.sco (sndE e sc none X x G h4).pe (sndT G t tg h3) h1 h2 (swS_ok G.sco G.kind q)
        | some names => cases k
    unfold ckCo at h
    split at h
    · obtain ⟨h1, k⟩ := and1 h
      obtain ⟨h2, k⟩ := and1 k
      obtain ⟨h3, k⟩ := and1 k
      obtain ⟨h4, k⟩ := and1 k
      obtain ⟨h5, k⟩ := and1 k
      obtain ⟨h6, k⟩ := and1 k
      obtain ⟨h7, k⟩ := and1 k
      obtain ⟨h8, k⟩ := and1 k
      obtain ⟨h9, h10⟩ := and1 k
      obtain ⟨a1, a2⟩ := locB_ok h1
      exact snd_setc G a1 a2 h2 (by simpa using h3) h4 h5 h6 h7 h8 h9 h10
    · cases h
theorem ps_err {s : S} {X : Cx} {st : Stmt} (h : ∀ w, exS P s w = .err) : PS X st (rdS X.K (exS P s)) := by
  refine ⟨fun pins s σ H D I q => ?_⟩
  obtain ⟨A, w, S, fl, w', e, q⟩ := q
  rw [h] at e
  cases e
theorem xnd_setc (G : GX T P lv N sc none X) {W : WX} (tk : Takes X W) {i : Nat} {md : Nat} {t : Tg} {it : It} {c : Oe} {e : E} {own : List Nat} {y : Str} {x tg iter : Expr} {ifs : List Expr} {scope : Scope} {pos py spos : Pos} (hy : N[i]? = some y) (hl : sc.names.lookup y = some .local)
    (hline : (py.line == pos.line) = true) (ha : (scope.names.any fun (n, k) => n == y && (k == .local || k == .cell)) = false) (h1 : ckI T lv N sc none it tg iter = true) (h2 : okX iter = true) (h3 : ckT N (relS scope sc) (some scope) t tg = true) (h4 : ckC T lv N (relS scope sc) (some scope) c ifs = true)
    (h5 : ckE T lv N (relS scope sc) (some scope) e x = true) (h6 : blkC N sc scope (ownN N own) = true) :
    PS X (.Assign [.Name y py] (.ListComp x [⟨tg, iter, ifs, 0⟩] scope pos) spos) (xeS T X W (rsS P (.set (.nm i) (.co md t it c e own)))) := by
  have ok := blkOk_by h6
  have kd : X.env.scope.kind = .function := by rw [G.sco]; exact G.kind
  have hl' : X.env.scope.names.lookup y = some .local := by rw [G.sco]; exact hl
  exact PSimp (ps_setLc (own := ownN N own) (i := i) (wi := xeI T X W (rsI P it)) (g := gD X.K t) (tt := rdT X.K (evC P c)) (te := rd X.K (evE P e)) G.calm (by rw [G.hN]; exact G.nd) (by rw [G.hN]; exact hy) hl' (sw_true kd hl' hline ha)
    (xndI it sc none X W tg iter G tk h1) (by rw [G.hN, G.sco]; exact ok)
    (fun s H C cl fp => sndT (G.blk ok.kind s H C cl fp) t tg h3) (fun s H C cl fp => sndC c _ _ _ ifs (G.blk ok.kind s H C cl fp) h4)
    (fun s H C cl fp => (sndE e _ _ _ x (G.blk ok.kind s H C cl fp) h5).pe) (folded_ok h2)) fun D σ H q => q
theorem xndSet (G : GX T P lv N sc none X) {W : WX} (tk : Takes X W) {t : Tg} {e : E} {tg x : Expr} {pos : Pos} (h : ckSet T lv N sc t e tg x = true) : PS X (.Assign [tg] x pos) (xeS T X W (rsS P (.set t e))) := by
  unfold ckSet at h
  split at h
  · rename_i hc
    obtain ⟨h1, h2⟩ := and1 h
    cases q : swS sc tg x with
    | none => rw [q] at h2; cases h2
    | some o =>
      rw [q] at h2
      have hw := swS_ok G.sco G.kind q
      cases o with
      | none =>
        obtain ⟨h3, h4⟩ := and1 h2
        exact PSimp (ps_asg (xndE e sc none X W x G tk h4) (sndT G t tg h3) (swaps_no hc) hw (by rw [assignEach_cons h1]; rfl)) fun D σ H q => q
      | some names =>
        have h2 : ckPar T lv N sc t e tg x names = true := h2
        unfold ckPar at h2
        split at h2
        · obtain ⟨h3, k⟩ := and1 h2
          obtain ⟨h4, k⟩ := and1 k
          obtain ⟨h5, k⟩ := and1 k
          obtain ⟨h6, kz⟩ := and1 k
          have h6 := of_decide_eq_true h6
          subst h6
          obtain ⟨a1, a2⟩ := locB_ok h3
          obtain ⟨b1, b2⟩ := locB_ok h4
          exact PSimp (ps_par G.calm (by rw [G.hN]; exact G.nd) (by rw [G.hN]; exact a1) (by rw [G.hN]; exact b1) (ne_ok h5) (by rw [G.sco]; exact a2) (by rw [G.sco]; exact b2) (xndEs _ sc none X W _ G tk kz) hw) fun D σ H q => q
        · obtain ⟨h3, k⟩ := and1 h2
          obtain ⟨h4, k⟩ := and1 k
          obtain ⟨h5, k⟩ := and1 k
          obtain ⟨h6, k⟩ := and1 k
          obtain ⟨h7, k⟩ := and1 k
          obtain ⟨h8, k⟩ := and1 k
          obtain ⟨h9, kz⟩ := and1 k
          have h9 := of_decide_eq_true h9
          subst h9
          obtain ⟨a1, a2⟩ := locB_ok h3
          obtain ⟨b1, b2⟩ := locB_ok h4
          obtain ⟨c1, c2⟩ := locB_ok h5
          exact PSimp (ps_par3 G.calm (by rw [G.hN]; exact G.nd) (by rw [G.hN]; exact a1) (by rw [G.hN]; exact b1) (by rw [G.hN]; exact c1) (ne_ok h6) (ne_ok h7) (ne_ok h8) (by rw [G.sco]; exact a2) (by rw [G.sco]; exact b2) (by rw [G.sco]; exact c2) (xndEs _ sc none X W _ G tk kz) hw) fun D σ H q => q
        · cases h2
  · rcases Bool.or_eq_true_iff.mp h with h | h
    case inr =>
      obtain ⟨h1, k⟩ := and1 h
      obtain ⟨h2, k⟩ := and1 k
      cases q : swS sc tg x with
      | none => rw [q] at k; cases k
      | some o =>
        rw [q] at k
        cases o with
        | none =>
          obtain ⟨h3, h4⟩ := and1 k
          exact PSimp (ps_asg (xndE e sc none X W x G tk h4) (sndT G t tg h3) (tgF_ok G.sco h1) (swS_ok G.sco G.kind q) (by rw [assignEach_cons h2]; rfl)) fun D σ H q => q
        | some names => cases k
    unfold ckCo at h
    split at h
    · obtain ⟨h1, k⟩ := and1 h
      obtain ⟨h2, k⟩ := and1 k
      obtain ⟨h3, k⟩ := and1 k
      obtain ⟨h4, k⟩ := and1 k
      obtain ⟨h5, k⟩ := and1 k
      obtain ⟨h6, k⟩ := and1 k
      obtain ⟨h7, k⟩ := and1 k
      obtain ⟨h8, k⟩ := and1 k
      obtain ⟨h9, h10⟩ := and1 k
      obtain ⟨a1, a2⟩ := locB_ok h1
      exact xnd_setc G tk a1 a2 h2 (by simpa using h3) h4 h5 h6 h7 h8 h9
    · cases h
/-! ### try -/
theorem GX.tr (G : GX T P lv N sc none X) {pn : List (Addr × Obj)} {xe : Value → Shared → Prop} (hp : PassesOwn (model X.prog X.w) X.A X.env xe) : GX T P lv N sc none (X.tr pn xe) :=
  ⟨G.hN, G.nd, G.sco, G.kind, G.calm, hp, G.sf, G.er, G.room, G.gd, G.dig, G.fn, G.free, G.defs, G.cons⟩
theorem hi_rds {K : PySem.W.Frag} {H : Hp} {A : Ad} {es : List D} {v : V} : ∀ {its : List HI}, (HI.fld ∈ its → RD K H A (es.headD .non) v) → RDs K H A (its.map (hiV es)) (its.map (hvV v))
  | [], _ => rfl
  | h :: r, hf => by
    refine ⟨_, _, rfl, ?_, hi_rds fun z => hf (List.mem_cons_of_mem _ z)⟩
    cases h with
    | str s => rfl
    | fld => exact hf List.mem_cons_self
    | isi => rfl
theorem snd_try (G : GX T P lv N sc none X) {body : List S} {c : Str} {i : Nat} {its : List HI} {sts : List Stmt} {hs : List ExceptHandler} {pos : Pos} (h : ckCls T N sc c i its hs = true)
    (hb : ∀ (pn : List (Addr × Obj)) (xe : Value → Shared → Prop), GX T P lv N sc none (X.tr pn xe) → PSs (X.tr pn xe) sts (rdS X.K (exB P body)) ∧ ∀ W, Takes (X.tr pn xe) W → PSs (X.tr pn xe) sts (xeS T (X.tr pn xe) W (rsB P body))) :
    PS X (.Try sts hs [] [] pos) (rdS X.K (exS P (.tr body c (some i) its))) := by
  have hx : ∃ x np n b hst hp, hs = [.ExceptHandler (some (.Name x np)) (some n) (b :: hst) hp] := by
    cases hs with
    | nil => cases h
    | cons h0 r =>
      obtain ⟨ty, nm, bd, hp⟩ := h0
      cases ty with
      | none => cases r <;> cases h
      | some ty =>
        cases ty with
        | Name x np =>
          cases nm with
          | none => cases r <;> cases h
          | some n =>
            cases bd with
            | nil => cases r <;> cases h
            | cons b hst =>
              cases r with
              | nil => exact ⟨_, _, _, _, _, _, rfl⟩
              | cons _ _ => cases h
        | _ => cases r <;> cases nm <;> cases bd <;> cases h
  obtain ⟨x, np, n, b, hst, hp, rfl⟩ := hx
  obtain ⟨h1, k⟩ := and1 h
  obtain ⟨h2, k⟩ := and1 k
  obtain ⟨h3, k⟩ := and1 k
  obtain ⟨h4, k⟩ := and1 k
  obtain ⟨h5, k⟩ := and1 k
  obtain rfl : x = c := of_decide_eq_true h1
  obtain ⟨a1, a2⟩ := locB_ok h3
  obtain ⟨g1, g2⟩ := glB_ok h2
  cases ql : T.errs.lookup x with
  | none => rw [ql] at k; cases k
  | some f =>
    rw [ql] at k
    obtain ⟨k1, k2⟩ := and1 k
    have hm := PySem.mem_of_lookup ql
    obtain ⟨C, B, gC, gB, dbg, EA⟩ := G.er x f hm
    obtain ⟨sf1, sf2⟩ := G.sf rfl
    have ko : ∀ y, X.env.kindOf y = sc.names.lookup y := fun y => by unfold Env.kindOf; rw [G.sco]
    have M : HNm X (uB T sc) i n T.eb B := ⟨by rw [G.hN]; exact a1, (ko n).trans a2, by simpa using h4, by simpa using h5, fun u => (ko _).trans (glB_ok (and1 (and1 u).2).1).1, fun u => G.free _ (of_decide_eq_true (and1 u).1), fun u => (ko _).trans (glB_ok (and1 (and1 u).2).2).1, gB, fun u => (glB_ok (and1 (and1 u).2).2).2⟩
    refine PSimp (ps_try_as (i := i) (c := .ref C) (ts := tHd X.K i C f its) (Wout := fun _ _ _ _ => False) (tb := fun W D σ H => rdS X.K (exB P body) D σ H ∨ xE X T.errs W (rsB P body) σ H) sf1 sf2 (by rw [G.hN]; exact G.nd) M.hN M.lo ⟨(ko _).trans g1, dbg, .inl gC⟩ (fun u s' ⟨_, _, _, _, _, _, _, _, _, _, _, _, _, _, _, _, w⟩ => w.elim)
      (fun W pn xe tk hp => pss_orr (hb pn xe (G.tr hp)).1 ((hb pn xe (G.tr hp)).2 W tk)) (fun a oe cls d pn hz hf => hd_ok M EA hz hf k1)) fun D σ H q => ?_
    obtain ⟨A, w, S, fl, w', e1, q⟩ := q
    have e1 : (match rsB P body w with
      | some z => hdl x (some i) its z
      | none => exB P body w) = .ok (fl, w') := e1
    cases hr : rsB P body w with
    | none =>
      rw [hr] at e1
      exact .inl ⟨A, w, S, fl, w', e1, q⟩
    | some z =>
      rw [hr] at e1
      have e1 : hdl x (some i) its z = .ok (fl, w') := e1
      unfold hdl at e1
      split at e1
      case isFalse => cases e1
      rename_i hc
      obtain ⟨c1, c2⟩ := hc
      obtain ⟨c2, c3⟩ := and1 c2
      obtain ⟨y, e2, e1⟩ := bd_split e1
      cases e1
      refine .inr ⟨A, w, S, z, hr, fun A' σ' H' cls d st S' xo => ?_⟩
      obtain ⟨C', f', m1, m2, m3, m4⟩ := xo
      rw [c1] at m1 m3
      rw [m1] at gC
      cases gC
      have hff : f' = f := by
        have z2 := List.all_eq_true.mp k2 _ m3
        simpa using z2
      subst hff
      subst m2
      refine ⟨true, EA.mt, fun _ a ha => ?_, fun z => nomatch z⟩
      have hlt : i < σ'.length := by
        rw [← S'.len]
        exact Nat.le_of_ble_eq_true c3
      have fin : ∀ v : V, (HI.fld ∈ its → RD X.K H' A' (z.2.1.headD .non) v) → dOk d H' → (∀ n, f' = some n → ∃ dd, d = some dd ∧ H' dd = some (.xd [(n, v)])) → ∃ v, HOk1 i a (.ref C) C d f' v (σ'.set i (some (.ref a))) H' ∧ its.length ≤ sizeLine ∧ ∀ p, H' p = none → D.rt (.ref p) (upd H' p (.lst (its.map (hvV v)))) := fun v hv hd hf => by
        obtain ⟨l1, l2⟩ := newL_ok e2 S' (hi_rds hv)
        refine ⟨v, ⟨List.getElem?_set_self hlt, rfl, hd, hf⟩, by rw [List.length_map] at l1; exact l1, fun p hp => ?_⟩
        obtain ⟨A2, st2, S2, r2⟩ := l2 p hp
        exact q A2 (.ref p) σ' _ (st.trans st2) S2 r2
      rcases m4 with ⟨n1, n2, n3⟩ | ⟨n0, x0, v, dd, n1, n2, n3, n4, n5, n6⟩
      · refine fin .non (fun z2 => ?_) (fun dd z2 => by rw [n3] at z2; cases z2) (fun n z2 => by rw [n1] at z2; cases z2)
        have z3 := List.all_eq_true.mp c2 _ z2
        rw [n2] at z3
        cases z3
      · refine fin v (fun _ => by rw [n2]; exact n5) (fun dd2 z2 => by rw [n3] at z2; cases z2; exact ⟨_, n4⟩) (fun n z2 => ?_)
        rw [n1] at z2
        cases z2
        exact ⟨dd, n3, n4⟩
mutual
theorem sndS : ∀ (s : S) (X : Cx) (G : GX T P lv N sc none X) (st : Stmt), ckS T lv N sc s st = true → PS X st (rdS X.K (exS P s))
  | .set t e, X, G, st, h => by
    cases st with
    | Assign tgs x pos =>
      match tgs, h with
      | [], h => cases h
      | [tg], h => exact sndSet G h
      | _ :: _ :: _, h => cases h
    | _ => cases h
  | .put o i e, X, G, st, h => by
    cases st with
    | Assign tgs z pos =>
      match tgs, h with
      | [], h => cases h
      | [tg], h =>
        cases tg with
        | Subscript x y p =>
          obtain ⟨h1, k⟩ := and1 h
          obtain ⟨h2, k⟩ := and1 k
          obtain ⟨h3, h4⟩ := and1 k
          exact snd_put G (sndE e sc none X z G h2).pe (sndE o sc none X x G h3).pe (sndE i sc none X y G h4).pe h1
        | _ => cases h
      | t1 :: _ :: _, h => cases t1 <;> cases h
    | _ => cases h
  | .dput o es e, X, G, st, h => by
    cases st with
    | Assign tgs z pos =>
      match tgs, h with
      | [], h => cases h
      | [tg], h =>
        cases tg with
        | Subscript x y p =>
          obtain ⟨h2, k⟩ := and1 h
          obtain ⟨h3, h4⟩ := and1 k
          cases y with
          | Tuple xs k p2 => exact snd_dput G (sndE e sc none X z G h2).pe (sndE o sc none X x G h3).pe (sndEs es sc none X xs G h4)
          | _ => cases h4
        | _ => cases h
      | t1 :: _ :: _, h => cases t1 <;> cases h
    | _ => cases h
  | .dputI o i e, X, G, st, h => by
    cases st with
    | Assign tgs z pos =>
      match tgs, h with
      | [], h => cases h
      | [tg], h =>
        cases tg with
        | Subscript x y p =>
          obtain ⟨h1, k⟩ := and1 h
          obtain ⟨h2, k⟩ := and1 k
          obtain ⟨h3, h4⟩ := and1 k
          exact snd_dputI G (sndE e sc none X z G h2).pe (sndE o sc none X x G h3).pe (sndE i sc none X y G h4).pe h1
        | _ => cases h
      | t1 :: _ :: _, h => cases t1 <;> cases h
    | _ => cases h
  | .ex e, X, G, st, h => by
    cases st with
    | Expr x pos =>
      obtain ⟨h1, h2⟩ := and1 h
      exact snd_ex (sndE e sc none X x G h2).pe h1
    | _ => cases h
  | .ret e, X, G, st, h => by
    cases st with
    | Return x pos =>
      cases x with
      | none => cases h
      | some x => exact snd_ret (sndE e sc none X x G h).pe
    | _ => cases h
  | .retn, X, G, st, h => by
    cases st with
    | Return x pos =>
      cases x with
      | none => exact snd_retn
      | some x => cases h
    | _ => cases h
  | .brk, X, G, st, h => by
    cases st with
    | Break pos => exact snd_brk
    | _ => cases h
  | .cnt, X, G, st, h => by
    cases st with
    | Continue pos => exact snd_cnt
    | _ => cases h
  | .pas, X, G, st, h => by
    cases st with
    | Pass pos => exact snd_pas
    | _ => cases h
  | .dead, X, G, st, h => snd_dead
  | .ite c a b, X, G, st, h => by
    cases st with
    | If x xs ys pos =>
      obtain ⟨h1, k⟩ := and1 h
      obtain ⟨h2, h3⟩ := and1 k
      exact snd_if (sndE c sc none X x G h1).pt (sndB a X G xs h2) (sndB b X G ys h3)
    | _ => cases h
  | .for t it body kill gc, X, G, st, h => by
    cases st with
    | For tg iter sts el pos =>
      cases el with
      | nil =>
        obtain ⟨h1, k⟩ := and1 h
        obtain ⟨h2, k⟩ := and1 k
        obtain ⟨h3, h4⟩ := and1 k
        exact snd_for G (sndI it sc none X tg iter G h2) h1 (sndT G t tg h3) (sndB body X G sts h4)
      | cons _ _ => cases h
    | _ => cases h
  | .whl c body kill gc, X, G, st, h => by
    cases st with
    | While x sts el pos =>
      cases el with
      | nil =>
        obtain ⟨h1, h2⟩ := and1 h
        exact snd_whl G (sndE c sc none X x G h1).pt (sndB body X G sts h2)
      | cons _ _ => cases h
    | _ => cases h
  | .rai c es, X, G, st, h => ps_err fun _ => rfl
  | .tr body c none its, X, G, st, h => by
    cases st <;> cases h
  | .tr body c (some i) its, X, G, st, h => by
    cases st with
    | Try sts hs os fs pos =>
      cases os with
      | cons _ _ => cases h
      | nil =>
        cases fs with
        | cons _ _ => cases h
        | nil =>
          obtain ⟨h1, h2⟩ := and1 h
          exact snd_try G h1 fun pn xe G' => ⟨sndB body _ G' sts h2, fun W tk => xndB body _ W G' tk sts h2⟩
    | _ => cases h
theorem sndB : ∀ (b : List S) (X : Cx) (G : GX T P lv N sc none X) (sts : List Stmt), ckB T lv N sc b sts = true → PSs X sts (rdS X.K (exB P b))
  | [], X, G, sts, h => by
    cases sts with
    | nil => exact snd_bnil
    | cons _ _ => cases h
  | s :: r, X, G, sts, h => by
    cases sts with
    | nil => cases h
    | cons st sts =>
      obtain ⟨h1, h2⟩ := and1 h
      exact snd_bcons (sndS s X G st h1) (sndB r X G sts h2)
theorem xndS : ∀ (s : S) (X : Cx) (W : WX) (G : GX T P lv N sc none X) (tk : Takes X W) (st : Stmt), ckS T lv N sc s st = true → PS X st (xeS T X W (rsS P s))
  | .set t e, X, W, G, tk, st, h => by
    cases st with
    | Assign tgs x pos =>
      match tgs, h with
      | [], h => cases h
      | [tg], h => exact xndSet G tk h
      | _ :: _ :: _, h => cases h
    | _ => cases h
  | .put o i e, X, W, G, tk, st, h => by
    cases st with
    | Assign tgs z pos =>
      match tgs, h with
      | [], h => cases h
      | [tg], h =>
        cases tg with
        | Subscript x y p =>
          obtain ⟨h1, k⟩ := and1 h
          obtain ⟨h2, k⟩ := and1 k
          obtain ⟨h3, h4⟩ := and1 k
          exact PSimp (ps_asg (xndE e sc none X W z G tk h2) (pg_sub (sndE o sc none X x G h3).pe (sndE i sc none X y G h4).pe set_list (by intro v; cases y <;> first | rfl | cases h1)) (show swapsWithSole [.Subscript x y p] z pos.line X.env = pure false from swaps_sub (o := x) (i := y) (p := p) (l := pos.line) (env := X.env)) rfl rfl) fun D σ H q => q
        | _ => cases h
      | t1 :: _ :: _, h => cases t1 <;> cases h
    | _ => cases h
  | .dput _ _ _, _, _, _, _, _, _ => ps_no fun _ => rfl
  | .dputI _ _ _, _, _, _, _, _, _ => ps_no fun _ => rfl
  | .ex e, X, W, G, tk, st, h => by
    cases st with
    | Expr x pos =>
      obtain ⟨h1, h2⟩ := and1 h
      exact PSimp (ps_expr (xndE e sc none X W x G tk h2) (swaps_no h1)) fun D σ H q => q
    | _ => cases h
  | .ret e, X, W, G, tk, st, h => by
    cases st with
    | Return x pos =>
      cases x with
      | none => cases h
      | some x => exact PSimp (ps_ret (xndE e sc none X W x G tk h)) fun D σ H q => q
    | _ => cases h
  | .retn, _, _, _, _, _, _ => ps_no fun _ => rfl
  | .brk, _, _, _, _, _, _ => ps_no fun _ => rfl
  | .cnt, _, _, _, _, _, _ => ps_no fun _ => rfl
  | .pas, _, _, _, _, _, _ => ps_no fun _ => rfl
  | .dead, _, _, _, _, _, _ => ps_no fun _ => rfl
  | .tr _ _ _ _, _, _, _, _, _, _ => ps_no fun _ => rfl
  | .rai c es, X, W, G, tk, st, h => by
    cases st with
    | Raise e cs pos2 =>
      cases e with
      | none => cases h
      | some e =>
        cases e with
        | Call f xs kws pos =>
          cases f with
          | Name x p =>
            cases kws with
            | cons _ _ => cases h
            | nil =>
              cases cs with
              | some _ => cases h
              | none =>
                obtain ⟨h1, k⟩ := and1 h
                obtain ⟨h2, k⟩ := and1 k
                obtain ⟨h3, k⟩ := and1 k
                obtain ⟨h4, h5⟩ := and1 k
                obtain rfl : x = c := of_decide_eq_true h1
                obtain ⟨o1, o2⟩ := ckEs_ok h5
                cases q : T.errs.lookup x with
                | none => rw [q] at h4; cases h4
                | some f =>
                  rw [q] at h4
                  have h4 := of_decide_eq_true h4
                  exact xnd_rai G tk (PySem.mem_of_lookup q) (of_decide_eq_true h3) (glB_ok h2).1 (o2.trans h4) o2.symm o1 (sndEs es sc none X xs G h5)
          | _ => cases h
        | _ => cases h
    | _ => cases h
  | .ite c a b, X, W, G, tk, st, h => by
    cases st with
    | If x xs ys pos =>
      obtain ⟨h1, k⟩ := and1 h
      obtain ⟨h2, h3⟩ := and1 k
      exact xnd_if (sndE c sc none X x G h1).pt (xndB a X W G tk xs h2) (xndB b X W G tk ys h3)
    | _ => cases h
  | .for t it body kill gc, X, W, G, tk, st, h => by
    cases st with
    | For tg iter sts el pos =>
      cases el with
      | nil =>
        obtain ⟨h1, k⟩ := and1 h
        obtain ⟨h2, k⟩ := and1 k
        obtain ⟨h3, h4⟩ := and1 k
        exact xnd_for G (sndI it sc none X tg iter G h2) (xndI it sc none X W tg iter G tk h2) h1 (sndT G t tg h3) (sndB body X G sts h4) (xndB body X W G tk sts h4)
      | cons _ _ => cases h
    | _ => cases h
  | .whl c body kill gc, X, W, G, tk, st, h => by
    cases st with
    | While x sts el pos =>
      cases el with
      | nil =>
        obtain ⟨h1, h2⟩ := and1 h
        exact xnd_whl G (sndE c sc none X x G h1).pt (sndB body X G sts h2) (xndB body X W G tk sts h2)
      | cons _ _ => cases h
    | _ => cases h
theorem xndB : ∀ (b : List S) (X : Cx) (W : WX) (G : GX T P lv N sc none X) (tk : Takes X W) (sts : List Stmt), ckB T lv N sc b sts = true → PSs X sts (xeS T X W (rsB P b))
  | [], X, W, G, tk, sts, h => by
    cases sts with
    | nil => exact xnd_bnil
    | cons _ _ => cases h
  | s :: r, X, W, G, tk, sts, h => by
    cases sts with
    | nil => cases h
    | cons st sts =>
      obtain ⟨h1, h2⟩ := and1 h
      exact xnd_bcons (sndS s X G st h1) (xndS s X W G tk st h1) (xndB r X W G tk sts h2)
end
end

/-! ### defs -/
structure DefC where
  name : Str
  ps : List Str
  N : List Str
  body : List S
/-- the defs below n -/
def Fn (C : List D) (ds : List DefC) : Nat → Nat → List D → List (List D) → R (D × List (List D))
  | 0 => fun _ _ _ => .err
  | n + 1 => fun j => if j = n then (match ds[n]? with
    | some d => exD ⟨Fn C ds n, C⟩ d.N.length d.body
    | none => fun _ _ => .err) else Fn C ds n j
theorem Fn_lt {C : List D} {ds : List DefC} {j : Nat} : ∀ {n : Nat}, j < n → Fn C ds n j = Fn C ds (j + 1) j
  | 0, h => absurd h (Nat.not_lt_zero _)
  | n + 1, h => by
    by_cases e : j = n
    · subst e
      rfl
    · show (if j = n then _ else Fn C ds n j) = _
      rw [if_neg e]
      exact Fn_lt (by omega)
theorem Fn_at {C : List D} {ds : List DefC} {j : Nat} {d : DefC} (h : ds[j]? = some d) : Fn C ds (j + 1) j = exD ⟨Fn C ds j, C⟩ d.N.length d.body := by
  show (if j = j then _ else _) = _
  rw [if_pos rfl, h]
mutual
theorem give_ok {m : List (List D)} (n : Nat) (hn : ∀ k d', up D.lst 0 m false n k = some d' → okRet d' = true) : ∀ (d d' : D), rs (up D.lst 0 m false n) false d = some d' → okRet d' = true
  | .non, _, e => by cases e; rfl
  | .bl _, _, e => by cases e; rfl
  | .int _, _, e => by cases e; rfl
  | .str _, _, e => by cases e; rfl
  | .tup ds, _, e => by
    obtain ⟨es, e1, rfl⟩ := Option.map_eq_some_iff.mp (show (rsL (up D.lst 0 m false n) false ds).map D.tup = some _ from e)
    exact gives_ok n hn ds es e1
  | .lst ds, _, e => by
    obtain ⟨es, e1, rfl⟩ := Option.map_eq_some_iff.mp (show (rsL (up D.lst 0 m false n) false ds).map D.lst = some _ from e)
    exact gives_ok n hn ds es e1
  | .fl ds, _, e => by cases e
  | .sc ds, _, e => by cases e
  | .ref k, d', e => hn k d' e
  | .g k, _, e => by cases e; rfl
  | .dic ks ds, _, e => by
    obtain ⟨es, e1, rfl⟩ := Option.map_eq_some_iff.mp (show (rsL (up D.lst 0 m false n) false ds).map (D.dic ks) = some _ from e)
    exact gives_ok n hn ds es e1
theorem gives_ok {m : List (List D)} (n : Nat) (hn : ∀ k d', up D.lst 0 m false n k = some d' → okRet d' = true) : ∀ (ds ds' : List D), rsL (up D.lst 0 m false n) false ds = some ds' → okRets ds' = true
  | [], _, e => by cases e; rfl
  | d :: ds, _, e => by
    simp only [rsL, Option.bind_eq_some_iff, Option.map_eq_some_iff] at e
    obtain ⟨y, e1, ys, e2, rfl⟩ := e
    show (okRet y && okRets ys) = true
    rw [give_ok n hn d y e1, gives_ok n hn ds ys e2]
    rfl
end
theorem up_ok {m : List (List D)} : ∀ (n k : Nat) (d' : D), up D.lst 0 m false n k = some d' → okRet d' = true
  | 0, k, d', e => by cases e
  | n + 1, k, d', e => by
    have e : (((m[k]?).bind lsq).bind fun ds => (rsL (up D.lst 0 m false n) false ds).map D.lst) = some d' := e
    simp only [Option.bind_eq_some_iff, Option.map_eq_some_iff] at e
    obtain ⟨ds, _, ys, e2, rfl⟩ := e
    exact gives_ok n (up_ok n) ds ys e2
theorem exD_ret {P : Pg} {n : Nat} {body : List S} {ds : List D} {g : List (List D)} {r : D} {g' : List (List D)} (e : exD P n body ds g = .ok (r, g')) : okRet r = true := by
  have e := (exD_ok _).mp e
  unfold exO at e
  obtain ⟨x, _, e⟩ := bd_split e
  split at e
  · obtain ⟨d', e1, e⟩ := bd_split e
    cases e
    exact give_ok 4 (up_ok 4) _ _ (of_split e1)
  · cases e; rfl
  · cases e
def scopeB (N ps : List Str) (sc : Scope) : Bool := (match sc.kind with
  | .function => true
  | _ => false) && (!sc.isCoroutine && (!sc.isGenerator && (decide N.Nodup && (decide (N.take ps.length = ps) && (ps.all (fun x => match sc.names.lookup x with
    | some .local => true
    | some .cell => true
    | _ => false) && sc.names.all fun y => match y.2 with
    | .free => false
    | _ => true)))))
theorem scopeB_ok {N ps : List Str} {sc : Scope} (h : scopeB N ps sc = true) : FnScope N ps sc := by
  obtain ⟨h1, k⟩ := and1 h
  obtain ⟨h2, k⟩ := and1 k
  obtain ⟨h3, k⟩ := and1 k
  obtain ⟨h4, k⟩ := and1 k
  obtain ⟨h5, k⟩ := and1 k
  obtain ⟨h6, h7⟩ := and1 k
  refine ⟨?_, by simpa using h2, by simpa using h3, of_decide_eq_true h4, of_decide_eq_true h5, fun x hx => ?_, fun y hy z => ?_⟩
  · cases q : sc.kind <;> first | rfl | (rw [q] at h1; cases h1)
  · have q := List.all_eq_true.mp h6 x hx
    cases e : sc.names.lookup x with
    | none => rw [e] at q; cases q
    | some k => 
      rw [e] at q
      cases k with
      | «local» => exact .inl rfl
      | cell => exact .inr rfl
      | _ => cases q
  · have q := List.all_eq_true.mp h7 y hy
    rw [z] at q
    cases q
section
variable {P : Program} {w : World} {K : PySem.W.Frag} {mg : Str → Option Value} {base : Heap}
theorem Room.guards {A : Around} {qual : Str} {scope : Scope} {n f : Nat} {cd : Value} (h : A.guards = some []) : (A.deeper (envOfC qual scope n f cd)).guards = some [] := by
  first
    | exact h
    | (unfold Around.deeper; simp [h])
/-- a def keeps its promise -/
theorem def_ok {T : Tb} {Pr : Pg} {j : Nat} {dc : DefC} {fd : FuncData} {f : Addr} {params : Arguments} {stmts : List Stmt} {scope : Scope} {dvs : List V} {kws : List (Str × V)} {nm : Str} (F : FunD K nm dc.name params stmts scope dvs kws f fd)
    (hs : scopeB dc.N dc.ps scope = true) (hb : ckB T j dc.N scope dc.body stmts = true) (dig : base.NoDigits)
    (free : ∀ x ∈ T.free, mg x = none)
    (defs : ∀ (i : Nat) d, T.defs[i]? = some d → i < j → ∃ f fd, mg d.1 = some (.ref f) ∧ PySem.W.keepIn K (.ref f) = true ∧ FnG P w K mg base j f fd d.2 (spD K (Pr.F i) d.2.length) ∧
      (∀ n ks p, (i, n, ks, p) ∈ T.binds → BindOk fd d.2 n ks p) ∧ (∀ ds g r g', Pr.F i ds g = .ok (r, g') → okRet r = true) ∧ FnX P w K mg base j f fd d.2 T.errs (Pr.F i))
    (er : ∀ c f, (c, f) ∈ T.errs → ∃ C B, mg c = some (.ref C) ∧ mg T.eb = some (.ref B) ∧ (c == ("__debug__" : Str)) = false ∧ ErrA P K C B f)
    (cons : ∀ (i : Nat) c, T.cons[i]? = some c → Pr.C[i]? = some c.2 ∧ ∃ u v, mg c.1 = some u ∧ RelV v u ∧ ∀ H A, RD K H A c.2 v) :
    FnG P w K mg base (j + 1) f fd dc.ps (spD K (exD Pr dc.N.length dc.body) dc.ps.length) := by
  have S := scopeB_ok hs
  obtain ⟨oc, od, dV, kV, doc, pm, an, cdv, ct, osl, rfl, lk, hcd, _, _⟩ := F.ex
  refine ⟨fun A outer s H args us vs Q E hr hg e0 hbd rv hsp => ?_⟩
  obtain ⟨Ad0, g, ds, d, g', m0, c0, S0, r0, l0, e1, q⟩ := hsp
  have hl : vs.length = dc.ps.length := r0.length.trans l0
  have kx : K.In s.heap := e0.mod.kin.keeps fun b o e => (e0.bs b o e).1
  have lim : s.heap.NoLimit := e0.mod.nolimit.keeps fun b o e => (e0.bs b o e).1
  have kinds : ∀ y ∈ dc.ps.zip us, scope.names.lookup y.1 = some .local ∨ (scope.names.lookup y.1 = some .cell ∧ ((cellsFrom (s.heap.objs.size + 1) scope.names []).lookup y.1).isSome = true) := by
    rintro ⟨n, v⟩ hy
    rcases S.par n (List.of_mem_zip hy).1 with q | q
    · exact .inl q
    · exact .inr ⟨q, PySem.W.cellsFrom_some _ _ _ (.inl q)⟩
  refine codeAny_call_function hr.depth (kx _ _ lk) rfl S.co S.gen rfl (PySem.W.codeRec_of kx hcd) (hbd _ _ _ _ ?_)
  refine wpAny_newFunctionEnv_cells S.kind kinds fun env he s1 x => ?_
  subst he
  refine ⟨lim.keeps x.toInCall.keep, codeAny_func ?_⟩
  have I : Inv (cxOf CX0 P w K mg base dc.N dc.name scope f cdv A outer s H E) [] (L2.start dc.N vs) H s1 := inv_start S hr.hd e0 hl rv x
  have G : GX T Pr j dc.N scope none ((cxOf CX0 P w K mg base dc.N dc.name scope f cdv A outer s H E).nox) :=
    ⟨rfl, S.nd, rfl, S.kind, rfl, PassesOwn.never, fun _ => ⟨rfl, rfl⟩, er, hr.deeper _, Room.guards hg, dig, fun _ _ => rfl, free, defs, cons⟩
  have body := (sndB dc.body _ G stmts hb).nox
  obtain ⟨z, e2, e3⟩ := bd_split (show ((exB Pr dc.body ⟨ds.map some ++ List.replicate (dc.N.length - ds.length) none, [], g⟩).bd fun x => match x.1 with
    | .rt d => (R.of (give x.2 d)).bd fun d' => R.ok (d', x.2.g)
    | .nx => R.ok (D.non, x.2.g)
    | _ => R.err) = .ok (d, g') from (exD_ok _).mp e1)
  have hpl : dc.ps.length ≤ dc.N.length := by
    have := congrArg List.length S.pre
    rw [List.length_take] at this
    omega
  -- the slots at the entry
  have St : Sim K H Ad0 ⟨ds.map some ++ List.replicate (dc.N.length - ds.length) none, [], g⟩ (L2.start dc.N vs) := by
    refine ⟨fun i d e => ?_, ?_, S0.mu, S0.ga, S0.nd, S0.ndg, S0.dj, S0.djg, S0.bt, S0.cnt, S0.cnd, S0.gk⟩
    · have hi : i < ds.length := by
        by_cases hi : i < ds.length
        · exact hi
        · have e : (ds.map some ++ List.replicate (dc.N.length - ds.length) none)[i]? = some (some d) := e
          rw [List.getElem?_append_right (by simpa using hi), List.getElem?_replicate] at e
          split at e <;> cases e
      have e : (ds.map some ++ List.replicate (dc.N.length - ds.length) none)[i]? = some (some d) := e
      rw [List.getElem?_append_left (by simpa using hi), List.getElem?_map] at e
      cases e4 : ds[i]? with
      | none => rw [e4] at e; cases e
      | some d2 =>
        rw [e4] at e
        cases e
        obtain ⟨v, h1, h2⟩ := r0.get e4
        refine ⟨v, ?_, h2⟩
        unfold L2.start
        rw [List.getElem?_append_left (by rw [List.length_map, r0.length]; exact hi), List.getElem?_map, h1]
        rfl
    · show (ds.map some ++ List.replicate (dc.N.length - ds.length) none).length = (L2.start dc.N vs).length
      unfold L2.start
      rw [List.length_append, List.length_append, List.length_map, List.length_map, List.length_replicate, List.length_replicate, r0.length]
  have back : ∀ {A' : Ad} {w' : Wd} {σ' : Sl} {H' : Hp}, Step Ad0 H A' H' → Sim K H' A' w' σ' → Step Ad0 H ⟨[], A'.ga, A'.bad, []⟩ H' ∧ Sim K H' ⟨[], A'.ga, A'.bad, []⟩ ⟨[], [], w'.g⟩ [] := fun {A' w' σ' H'} st S' => by
    have hc : A'.cn = [] := st.cn.trans c0
    refine ⟨⟨⟨fun a o h x => ?_, st.tup, st.frz, fun k a h => ?_, st.ga, st.bad⟩, c0.symm, st.cnk⟩, fun i d e => by simp at e, rfl, rfl, ?_, List.nodup_nil, S'.ndg, (fun a h => nomatch h), S'.djg, S'.bt, (fun a h => nomatch h), (fun a h => nomatch h), S'.gk⟩
    · obtain ⟨h1, h2⟩ := st.kept a o h x
      exact ⟨h1, List.not_mem_nil, h2.2.1, List.not_mem_nil⟩
    · rw [m0] at h
      simp at h
    · exact RL.gok (A := A') (A' := ⟨[], A'.ga, A'.bad, []⟩) (fun _ _ h _ => h) (.inl rfl) (fun _ h => h) S'.gk S'.ga
  have fin : ∀ {σ' : Sl} {H' : Hp} {v : V} {u : Value} {s' : Shared}, Inv (cxOf CX0 P w K mg base dc.N dc.name scope f cdv A outer s H E) [] σ' H' s' → RelV v u → Q v H' → CE outer P w H s Q u s' :=
    fun {σ' H' v u s'} J r q => ⟨v, H', J.os, J.bare, J.base, J.hok, r, q⟩
  refine wpAny_mono (body.run [] s1 (L2.start dc.N vs) H { nx := fun _ H' => Q .non H', rt := Q } I ⟨Ad0, _, St, z.1, z.2, e2, ?_⟩) (fun fl s' hs => ?_) fun e s' hs => hs
  · cases hz : z.1 with
    | nx =>
      rw [hz] at e3
      cases e3
      exact fun A' σ' H' st S' => let ⟨a, b⟩ := back st S'; q _ .non H' a rfl b rfl
    | rt d1 =>
      rw [hz] at e3
      obtain ⟨d2, e4, e3⟩ := bd_split e3
      cases e3
      refine fun A' v σ' H' st S' r => ?_
      obtain ⟨a, b⟩ := back st S'
      have hc : A'.cn = [] := st.cn.trans c0
      refine q _ v H' a rfl b ?_
      refine rs_rd (A := A') (A' := ⟨[], A'.ga, A'.bad, []⟩) (fun k a d' e h => up_rd (K := K) (A' := ⟨[], A'.ga, A'.bad, []⟩) S' (fun a h => ⟨List.not_mem_nil, h.2.1, List.not_mem_nil⟩) (fun a _ h => h) rfl (fun k a h => absurd h (Nat.not_lt_zero _)) (fun k a ys vs _ h1 h2 h3 => ?_) 4 k a d' e h) (fun a h => ⟨List.not_mem_nil, h.2.1, List.not_mem_nil⟩) (fun a _ h => h) rfl d1 v d (of_split e4) r
      obtain ⟨d3, d4⟩ := S'.dj a (List.mem_of_getElem? h1)
      exact ⟨a, vs, rfl, h2, ⟨List.not_mem_nil, d3, List.not_mem_nil⟩, d4, h3⟩
    | bk => rw [hz] at e3; cases e3
    | ct => rw [hz] at e3; cases e3
  · cases fl with
    | ret u =>
      obtain ⟨v, σ', H', J, r, q⟩ := hs
      exact fin J r q
    | next =>
      obtain ⟨σ', H', J, q⟩ := hs
      exact fin (v := V.non) (u := Value.none) J rfl q
    | brk =>
      obtain ⟨_, _, _, q⟩ := hs
      exact False.elim q
    | cont =>
      obtain ⟨_, _, _, q⟩ := hs
      exact False.elim q
/-- .. where it raises -/
theorem def_okX {T : Tb} {Pr : Pg} {j : Nat} {dc : DefC} {fd : FuncData} {f : Addr} {params : Arguments} {stmts : List Stmt} {scope : Scope} {dvs : List V} {kws : List (Str × V)} {nm : Str} (F : FunD K nm dc.name params stmts scope dvs kws f fd)
    (hs : scopeB dc.N dc.ps scope = true) (hb : ckB T j dc.N scope dc.body stmts = true) (dig : base.NoDigits)
    (free : ∀ x ∈ T.free, mg x = none)
    (defs : ∀ (i : Nat) d, T.defs[i]? = some d → i < j → ∃ f fd, mg d.1 = some (.ref f) ∧ PySem.W.keepIn K (.ref f) = true ∧ FnG P w K mg base j f fd d.2 (spD K (Pr.F i) d.2.length) ∧
      (∀ n ks p, (i, n, ks, p) ∈ T.binds → BindOk fd d.2 n ks p) ∧ (∀ ds g r g', Pr.F i ds g = .ok (r, g') → okRet r = true) ∧ FnX P w K mg base j f fd d.2 T.errs (Pr.F i))
    (er : ∀ c f, (c, f) ∈ T.errs → ∃ C B, mg c = some (.ref C) ∧ mg T.eb = some (.ref B) ∧ (c == ("__debug__" : Str)) = false ∧ ErrA P K C B f)
    (cons : ∀ (i : Nat) c, T.cons[i]? = some c → Pr.C[i]? = some c.2 ∧ ∃ u v, mg c.1 = some u ∧ RelV v u ∧ ∀ H A, RD K H A c.2 v) :
    FnX P w K mg base (j + 1) f fd dc.ps T.errs (exD Pr dc.N.length dc.body) := by
  have S := scopeB_ok hs
  obtain ⟨oc, od, dV, kV, doc, pm, an, cdv, ct, osl, rfl, lk, hcd, _, _⟩ := F.ex
  refine ⟨fun A outer s H args us vs E hr hg e0 hbd rv hsp => ?_⟩
  obtain ⟨Ad0, g, ds, c, es, g', m0, c0, S0, r0, l0, e1, q⟩ := hsp
  have hl : vs.length = dc.ps.length := r0.length.trans l0
  have kx : K.In s.heap := e0.mod.kin.keeps fun b o e => (e0.bs b o e).1
  have lim : s.heap.NoLimit := e0.mod.nolimit.keeps fun b o e => (e0.bs b o e).1
  have kinds : ∀ y ∈ dc.ps.zip us, scope.names.lookup y.1 = some .local ∨ (scope.names.lookup y.1 = some .cell ∧ ((cellsFrom (s.heap.objs.size + 1) scope.names []).lookup y.1).isSome = true) := by
    rintro ⟨n, v⟩ hy
    rcases S.par n (List.of_mem_zip hy).1 with q | q
    · exact .inl q
    · exact .inr ⟨q, PySem.W.cellsFrom_some _ _ _ (.inl q)⟩
  refine codeAny_call_function hr.depth (kx _ _ lk) rfl S.co S.gen rfl (PySem.W.codeRec_of kx hcd) (hbd _ _ _ _ ?_)
  refine wpAny_newFunctionEnv_cells S.kind kinds fun env he s1 x => ?_
  subst he
  refine ⟨lim.keeps x.toInCall.keep, codeAny_func ?_⟩
  have I : Inv (cxOf (L2.CX P w) P w K mg base dc.N dc.name scope f cdv A outer s H E) [] (L2.start dc.N vs) H s1 := inv_start S hr.hd e0 hl rv x
  have G : GX T Pr j dc.N scope none (cxOf (L2.CX P w) P w K mg base dc.N dc.name scope f cdv A outer s H E) :=
    ⟨rfl, S.nd, rfl, S.kind, rfl, passes_of (X := cxOf (L2.CX P w) P w K mg base dc.N dc.name scope f cdv A outer s H E) rfl, fun _ => ⟨rfl, rfl⟩, er, hr.deeper _, Room.guards hg, dig, fun _ _ => rfl, free, defs, cons⟩
  have tk : Takes (cxOf (L2.CX P w) P w K mg base dc.N dc.name scope f cdv A outer s H E) (fun cls d _ H => E cls d H) := takes_of rfl rfl rfl rfl
  have body := xndB dc.body _ _ G tk stmts hb
  obtain ⟨x, e2, hx⟩ : ∃ x, rsB Pr dc.body ⟨ds.map some ++ List.replicate (dc.N.length - ds.length) none, [], g⟩ = some x ∧ (x.1, x.2.1, x.2.2.g) = (c, es, g') := by
    unfold exD at e1
    split at e1
    · cases e1
    · split at e1
      · rename_i z hz
        cases e1
        exact ⟨z, hz, rfl⟩
      · cases e1
  cases hx
  have hpl : dc.ps.length ≤ dc.N.length := by
    have := congrArg List.length S.pre
    rw [List.length_take] at this
    omega
  -- the slots at the entry
  have St : Sim K H Ad0 ⟨ds.map some ++ List.replicate (dc.N.length - ds.length) none, [], g⟩ (L2.start dc.N vs) := by
    refine ⟨fun i d e => ?_, ?_, S0.mu, S0.ga, S0.nd, S0.ndg, S0.dj, S0.djg, S0.bt, S0.cnt, S0.cnd, S0.gk⟩
    · have hi : i < ds.length := by
        by_cases hi : i < ds.length
        · exact hi
        · have e : (ds.map some ++ List.replicate (dc.N.length - ds.length) none)[i]? = some (some d) := e
          rw [List.getElem?_append_right (by simpa using hi), List.getElem?_replicate] at e
          split at e <;> cases e
      have e : (ds.map some ++ List.replicate (dc.N.length - ds.length) none)[i]? = some (some d) := e
      rw [List.getElem?_append_left (by simpa using hi), List.getElem?_map] at e
      cases e4 : ds[i]? with
      | none => rw [e4] at e; cases e
      | some d2 =>
        rw [e4] at e
        cases e
        obtain ⟨v, h1, h2⟩ := r0.get e4
        refine ⟨v, ?_, h2⟩
        unfold L2.start
        rw [List.getElem?_append_left (by rw [List.length_map, r0.length]; exact hi), List.getElem?_map, h1]
        rfl
    · show (ds.map some ++ List.replicate (dc.N.length - ds.length) none).length = (L2.start dc.N vs).length
      unfold L2.start
      rw [List.length_append, List.length_append, List.length_map, List.length_map, List.length_replicate, List.length_replicate, r0.length]
  have back : ∀ {A' : Ad} {w' : Wd} {σ' : Sl} {H' : Hp}, Step Ad0 H A' H' → Sim K H' A' w' σ' → Step Ad0 H ⟨[], A'.ga, A'.bad, []⟩ H' ∧ Sim K H' ⟨[], A'.ga, A'.bad, []⟩ ⟨[], [], w'.g⟩ [] := fun {A' w' σ' H'} st S' => by
    have hc : A'.cn = [] := st.cn.trans c0
    refine ⟨⟨⟨fun a o h x => ?_, st.tup, st.frz, fun k a h => ?_, st.ga, st.bad⟩, c0.symm, st.cnk⟩, fun i d e => by simp at e, rfl, rfl, ?_, List.nodup_nil, S'.ndg, (fun a h => nomatch h), S'.djg, S'.bt, (fun a h => nomatch h), (fun a h => nomatch h), S'.gk⟩
    · obtain ⟨h1, h2⟩ := st.kept a o h x
      exact ⟨h1, List.not_mem_nil, h2.2.1, List.not_mem_nil⟩
    · rw [m0] at h
      simp at h
    · exact RL.gok (A := A') (A' := ⟨[], A'.ga, A'.bad, []⟩) (fun _ _ h _ => h) (.inl rfl) (fun _ h => h) S'.gk S'.ga
  refine wpAny_mono (body.run [] s1 (L2.start dc.N vs) H { nx := fun _ _ => False, rt := fun _ _ => False } I ⟨Ad0, _, St, x, e2, fun A' σ' H' cls d st S' xo => ?_⟩) (fun fl s' hs => ?_) fun e s' hs => hs
  · obtain ⟨a, b⟩ := back st S'
    exact q _ H' cls d a rfl b xo.moved
  · cases fl with
    | ret u =>
      obtain ⟨v, σ', H', J, r, z⟩ := hs
      exact z.elim
    | next =>
      obtain ⟨σ', H', J, z⟩ := hs
      exact z.elim
    | brk =>
      obtain ⟨_, _, _, z⟩ := hs
      exact False.elim z
    | cont =>
      obtain ⟨_, _, _, z⟩ := hs
      exact False.elim z
end
end Fz

/-! Q17: the program's end: all defs keep their promises; the law's call. -/
namespace Fz
open PySem PySem.Spec PyProof.Rows L2

/-! ### the law's call -/
theorem law_callG {P : Program} {w : World} {K : PySem.W.Frag} {mg mb : Str → Option Value} {k : Nat} {fa a : Addr} {fd : FuncData} {x : Str} {sp : Sp} {s1 : Shared} {vs : List Value} {ns : List Int}
    (KX : K.In s1.heap) (hns : s1.heap.Ns mainGlobals mg) (hb : s1.heap.Ns builtinsNs mb) (hbb : ∀ x : Str, x ≠ "__name__" → mb x = bootBuiltins x) (hlim : s1.heap.NoLimit) (hdig : s1.heap.NoDigits) (hg : s1.gens = #[])
    (ha : s1.heap.get? a = some { cls := .type "list", data := .seq vs.toArray }) (hi : IntsAre vs ns) (hl : ns.length ≤ sizeLine) (hr : Room k callerA)
    (F : ∀ base : Heap, K.In base → base.Ns mainGlobals mg → base.NoDigits → FnG P w K mg base k fa fd [x] sp) (hbind : ∀ (s : Shared) (u : Value), BindsTo s fd ⟨[u], []⟩ [(x, u)])
    (hsp : ∀ H : Hp, SqF K H a (ns.map V.int) → sp [.ref a] H (fun v _ => v = .bl true) fun _ _ _ => False) :
    codeAny (model P w) callerA (.call (.ref fa) ⟨[.ref a], []⟩) (fun r s' => r = .ok (.ret (.bool true)) ∧ OldK s1.heap s'.heap ∧ s'.os = s1.os ∧ AllBare s'.gens) s1 := by
  have rv := vals_ints hi
  have lv := hi.length
  -- with an abstract heap that holds the script alone, or nothing
  have core : ∀ H : Hp, SqF K H a (ns.map V.int) → HOk P w H s1.heap → (∀ b u, H b = some u → b = a ∧ ∃ o ys, u = .frz o (.lst ys)) → (H a ≠ none → K.lookup a = none) →
      codeAny (model P w) callerA (.call (.ref fa) ⟨[.ref a], []⟩) (fun r s' => r = .ok (.ret (.bool true)) ∧ OldK s1.heap s'.heap ∧ s'.os = s1.os ∧ AllBare s'.gens) s1 := by
    intro H hS hok hA hK
    have dictH : ∀ {b : Addr} {o : Obj} {es : Array DictEntry} {ep : Nat}, s1.heap.get? b = some o → o.data = .dict es ep → H b = none := fun {b o es ep} e d => by
      cases q : H b with
      | none => rfl
      | some u =>
        obtain ⟨rfl, _⟩ := hA b u q
        rw [ha] at e
        cases e
        cases (show Data.seq vs.toArray _ = Data.dict es ep from d)
    have nsH : ∀ {b : Addr} {m : Str → Option Value}, s1.heap.Ns b m → (hidT s1.heap H).Ns b m := fun {b m} ⟨o, es, ep, e, d, r⟩ => ⟨o, es, ep, hidT_get e (dictH e d), d, r⟩
    have kIn : K.In (hidT s1.heap H) := fun b o e => hidT_get (KX b o e) (by
      cases q : H b with
      | none => rfl
      | some u =>
        obtain ⟨rfl, _⟩ := hA b u q
        rw [hK (by rw [q]; exact fun z => nomatch z)] at e
        cases e)
    have mod : Mod K mg (hidT s1.heap H) := ⟨kIn, nsH hns, ⟨mb, nsH hb, hbb⟩, let ⟨mc, h1, h2⟩ := hlim; ⟨mc, nsH h1, h2⟩⟩
    have dig : (hidT s1.heap H).NoDigits := let ⟨mc, h1, h2⟩ := hdig; ⟨mc, nsH h1, h2⟩
    have e0 : Env0 P w K mg (hidT s1.heap H) callerA [] s1 H := ⟨rfl, mod, fun b o e => of_hidT e, Nat.le_of_eq (hidT_size _ _), trivial, (fun b hb => nomatch hb), hok, .of_eq hg⟩
    refine codeAny_mono ((F _ kIn (nsH hns) dig).run callerA [] s1 H ⟨[.ref a], []⟩ [.ref a] [.ref a] _ _ hr rfl e0 (hbind s1 (.ref a)) (.cons rfl .nil) (hsp H hS)) fun r s' h => ?_
    cases r with
    | error e => exact False.elim h
    | ok fl =>
      cases fl with
      | next => exact False.elim h
      | brk => exact False.elim h
      | cont => exact False.elim h
      | ret u =>
        obtain ⟨v, H', os, bare, un, hok', r', q⟩ := h
        obtain rfl : v = .bl true := q
        obtain rfl : u = Value.bool true := r'
        refine ⟨rfl, OldK.of_keep fun b o e => ?_, os, bare⟩
        cases q : H b with
        | none => exact un.keep b o e q (fun z => nomatch z) (fun z => nomatch z)
        | some u =>
          obtain ⟨_, ob, ys, rfl⟩ := hA b u q
          have e1 := (hok b _ q).1
          have e2 := (hok' b _ (un.frzs b ob _ q)).1
          rw [e] at e1
          cases e1
          exact e2
  cases hk : K.lookup a with
  | some o =>
    have e := KX a o hk
    rw [ha] at e
    cases e
    exact core (fun _ => none) (.inr (.inr ⟨_, vs.toArray, _, hk, rfl, rfl, rfl, by rw [List.size_toArray, lv]; exact hl, rv⟩)) (fun b u z => nomatch z) (fun b u z => nomatch z) fun z => absurd rfl z
  | none =>
    let o : Obj := { cls := .type "list", data := .seq vs.toArray }
    have at_ : ∀ b u, (if b = a then some (HO.frz o (.lst (ns.map V.int))) else none) = some u → b = a ∧ u = .frz o (.lst (ns.map V.int)) := fun b u z => by
      by_cases hb : b = a
      · rw [if_pos hb] at z
        cases z
        exact ⟨hb, rfl⟩
      · rw [if_neg hb] at z
        cases z
    refine core (fun b => if b = a then some (.frz o (.lst (ns.map V.int))) else none) (.inl ⟨o, if_pos rfl⟩) (fun b u z => ?_) (fun b u z => ?_) fun _ => hk
    · obtain ⟨rfl, rfl⟩ := at_ b u z
      exact ⟨ha, by rw [List.length_map]; exact hl, vs, _, rv, ha⟩
    · obtain ⟨e1, e2⟩ := at_ b u z
      exact ⟨e1, _, _, e2⟩
theorem intD_rds {K : PySem.W.Frag} {H : Hp} {A : Ad} : ∀ ns : List Int, RDs K H A (ns.map D.int) (ns.map V.int)
  | [] => rfl
  | n :: ns => ⟨_, _, rfl, rfl, intD_rds ns⟩
/-- the end of a law's row -/
theorem walk_ofG {l : PySem.W.OpenLaw} {n k : Nat} {q : Program} {loose : List Str} {XP : (Str → Option Value) → Heap → Prop} {YP : World → Heap → Prop} {d : DefRec} {x : Str} {Fl : List D → List (List D) → R (D × List (List D))}
    (hn : l.most = some n) (hn2 : n ≤ sizeLine) (hdf : d.params.defaults = []) (hr : Room k callerA)
    (F : ∀ (w : World) (mg : Str → Option Value) (fa : Addr) (h : Heap), YP w h → h.Ns mainGlobals mg → mg d.name = some (.ref fa) →
      ∃ (K : PySem.W.Frag) (fd : FuncData), K.In h ∧ (∀ (s : Shared) (u : Value), BindsTo s fd ⟨[u], []⟩ [(x, u)]) ∧
        ∀ base : Heap, K.In base → base.Ns mainGlobals mg → base.NoDigits → FnG l.prog w K mg base k fa fd [x] (spD K Fl 1))
    (hrun : ∀ ns : List Int, ns.length ≤ n → ∃ g', Fl [.sc (ns.map D.int)] [] = .ok (.bl true, g')) :
    PySem.W.WalkO q loose XP YP l.row.toRowW d [] (fun f vs => PySem.call f vs) := by
  refine Att.attach_call hn hdf fun w s0 s1 mg mb fa o pm cd doc a vs ns G Y ho hd hcd hmg hobj hints hlen hg => ?_
  obtain ⟨K, fd, KX, hb, hF⟩ := F w mg fa _ Y G.T.g hmg
  obtain ⟨g', hrun⟩ := hrun ns hlen
  refine law_callG KX G.T.g G.T.b G.T.builtins G.T.nolimit G.T.nodigits hg hobj hints (Nat.le_trans hlen hn2) hr hF hb fun H hS => ?_
  refine ⟨⟨[], [], [], []⟩, [], [.sc (ns.map D.int)], .bl true, g', rfl, rfl, ⟨fun i d e => by simp at e, rfl, rfl, rfl, List.nodup_nil, List.nodup_nil, (fun a h => nomatch h), (fun a h => nomatch h), (fun a h => nomatch h), (fun a h => nomatch h), (fun a h => nomatch h), fun xs h => nomatch h⟩, ?_, rfl, hrun, fun A' v H' _ _ _ r => r⟩
  exact ⟨_, [], rfl, ⟨a, _, rfl, hS, intD_rds ns⟩, rfl⟩

/-! ### all defs -/
/-- a def of the text: its row's statement -/
def stName : Stmt → Str
  | .FunctionDef n _ _ _ _ _ _ _ _ _ => n
  | _ => ""
def dOf (st : Stmt) : He.DefD := ⟨(stName st, none), stName st, stName st, defArgs st, defBody st, defScope st, [], []⟩
def faOf (ds : List DefC) (free : List Str) (nums : List (Str × Int)) : List He.Fa := ds.map (fun d => He.Fa.glo d.name) ++ (free.map He.Fa.free ++ nums.map fun p => He.Fa.int p.1 p.2)
theorem says_all {fa : List He.Fa} {fn : List He.DefD} {K : PySem.W.Frag} (c : He.SaysD fa fn K) {f : He.Fa} (h : f ∈ fa) : f.ok K = true := by
  obtain ⟨i, hi⟩ := List.getElem?_of_mem h
  exact c.fact i hi
def ckAll (T : Tb) : Nat → List DefC → List Stmt → Bool
  | _, [], [] => true
  | j, d :: ds, st :: sts => decide (stName st = d.name) && (scopeB d.N d.ps (defScope st) && (ckB T j d.N (defScope st) d.body (defBody st) && ckAll T (j + 1) ds sts))
  | _, _, _ => false
theorem ckAll_at {T : Tb} : ∀ {j : Nat} {ds : List DefC} {sts : List Stmt}, ckAll T j ds sts = true → ∀ (i : Nat) d, ds[i]? = some d → ∃ st, sts[i]? = some st ∧ stName st = d.name ∧ scopeB d.N d.ps (defScope st) = true ∧ ckB T (j + i) d.N (defScope st) d.body (defBody st) = true
  | _, [], _, _, i, d, e => by simp at e
  | _, _ :: _, [], h, _, _, _ => nomatch h
  | j, d :: ds, st :: sts, h, i, d', e => by
    obtain ⟨h1, k⟩ := and1 h
    obtain ⟨h2, k⟩ := and1 k
    obtain ⟨h3, h4⟩ := and1 k
    cases i with
    | zero =>
      cases e
      exact ⟨st, rfl, of_decide_eq_true h1, h2, h3⟩
    | succ i =>
      obtain ⟨st', a, b, c, d2⟩ := ckAll_at h4 i d' e
      exact ⟨st', a, b, c, by rw [show j + (i + 1) = j + 1 + i by omega]; exact d2⟩
def tbOf (ds : List DefC) (free : List Str) (nums : List (Str × Int)) (binds : List (Nat × Nat × List Str × Option (List Nat))) (ers : List (Str × Option Str) := []) (eb : Str := "") : Tb := ⟨free, ds.map fun d => (d.name, d.ps), nums.map fun p => (p.1, D.int p.2), binds, ers, eb⟩
def cOf (nums : List (Str × Int)) : List D := nums.map fun p => D.int p.2
/-- how the calls bind, by the defs' heads -/
def BindsAll (ds : List DefC) (sts : List Stmt) (binds : List (Nat × Nat × List Str × Option (List Nat))) : Prop :=
  ∀ b ∈ binds, ∀ d st, ds[b.1]? = some d → sts[b.1]? = some st → ∀ (kV doc pm : Value) (an : Option Addr) (cdv ct : Value) (us ws zs : List Value), us.length = b.2.1 → ws.length = b.2.2.1.length → arrD b.2.2.2 (us ++ ws) = some zs →
    bindArgs (PySem.W.fnOf (stName st) (stName st) (defArgs st) (defBody st) (defScope st) .none kV doc pm an cdv ct) ⟨us, b.2.2.1.zip ws⟩ = pure (d.ps.zip zs)
theorem all_okX {P : Program} {w : World} {K : PySem.W.Frag} {h : Heap} {mg : Str → Option Value} {ds : List DefC} {sts : List Stmt} {free : List Str} {nums : List (Str × Int)} {binds : List (Nat × Nat × List Str × Option (List Nat))} {ers : List (Str × Option Str)} {eb : Str}
    (X : K.In h) (G : h.Ns mainGlobals mg) (c : He.SaysD (faOf ds free nums) (sts.map dOf) K) (ck : ckAll (tbOf ds free nums binds ers eb) 0 ds sts = true) (hb : BindsAll ds sts binds)
    (er : ∀ c f, (c, f) ∈ ers → ∃ C B, mg c = some (.ref C) ∧ mg eb = some (.ref B) ∧ (c == ("__debug__" : Str)) = false ∧ ErrA P K C B f) :
    ∀ (j : Nat) d, ds[j]? = some d → ∃ fd, FunD K d.name d.name (defArgs (sts.getD j (.Pass ⟨0, 0, 0, 0⟩))) (defBody (sts.getD j (.Pass ⟨0, 0, 0, 0⟩))) (defScope (sts.getD j (.Pass ⟨0, 0, 0, 0⟩))) [] [] (He.fAd K (d.name, none)) fd ∧ mg d.name = some (.ref (He.fAd K (d.name, none))) ∧
      (∀ base : Heap, base.NoDigits → FnG P w K mg base (j + 1) (He.fAd K (d.name, none)) fd d.ps (spD K (Fn (cOf nums) ds (j + 1) j) d.ps.length) ∧ FnX P w K mg base (j + 1) (He.fAd K (d.name, none)) fd d.ps ers (Fn (cOf nums) ds (j + 1) j)) ∧ ∀ n ks p, (j, n, ks, p) ∈ binds → BindOk fd d.ps n ks p := by
  intro j
  induction j using Nat.strongRecOn with
  | ind j ih =>
    intro d hd
    obtain ⟨st, hst, hn, hs, hbody⟩ := ckAll_at ck j d hd
    have hgd : sts.getD j (.Pass ⟨0, 0, 0, 0⟩) = st := by rw [List.getD_eq_getElem?_getD, hst]; rfl
    obtain ⟨fd, F⟩ := c.def_ j (d := dOf st) (by rw [List.getElem?_map, hst]; rfl)
    have F : FunD K (stName st) (stName st) (defArgs st) (defBody st) (defScope st) [] [] (He.fAd K (stName st, none)) fd := F
    rw [hn] at F
    have glo : ∀ (i : Nat) d, ds[i]? = some d → mg d.name = some (.ref (He.fAd K (d.name, none))) := fun i d hi =>
      He.glo_ok X G (says_all c (List.mem_append_left _ (List.mem_map.mpr ⟨d, List.mem_of_getElem? hi, rfl⟩)))
    refine ⟨fd, by rw [hgd]; exact F, glo j d hd, ?_, fun n ks p hm => ?_⟩
    · intro base dig
      rw [Fn_at hd]
      rw [Nat.zero_add] at hbody
      have f1 : ∀ x ∈ (tbOf ds free nums binds ers eb).free, mg x = none := fun x hx => by
        exact He.free_ok X G (says_all c (List.mem_append_right _ (List.mem_append_left _ (List.mem_map.mpr ⟨x, hx, rfl⟩))))
      have f2 : ∀ (i : Nat) e, (tbOf ds free nums binds ers eb).defs[i]? = some e → i < j → ∃ f fd, mg e.1 = some (.ref f) ∧ PySem.W.keepIn K (.ref f) = true ∧ FnG P w K mg base j f fd e.2 (spD K (Fn (cOf nums) ds j i) e.2.length) ∧
          (∀ n ks p, (i, n, ks, p) ∈ (tbOf ds free nums binds ers eb).binds → BindOk fd e.2 n ks p) ∧ (∀ ds' g r g', Fn (cOf nums) ds j i ds' g = .ok (r, g') → okRet r = true) ∧ FnX P w K mg base j f fd e.2 ers (Fn (cOf nums) ds j i) := fun i e hi hij => by
        have hi : (ds.map fun d => (d.name, d.ps))[i]? = some e := hi
        rw [List.getElem?_map] at hi
        cases hdi : ds[i]? with
        | none => rw [hdi] at hi; cases hi
        | some di =>
          rw [hdi] at hi
          cases hi
          obtain ⟨fdi, Fi, gi, fi, bi⟩ := ih i hij di hdi
          refine ⟨_, fdi, gi, Fi.kp, ?_, bi, fun ds' g r g' e => ?_, ?_⟩
          · show FnG P w K mg base j _ fdi di.ps (spD K (Fn (cOf nums) ds j i) di.ps.length)
            rw [Fn_lt hij]
            exact (fi base dig).1.mono hij
          · have e : Fn (cOf nums) ds j i ds' g = .ok (r, g') := e
            rw [Fn_lt hij, Fn_at hdi] at e
            exact exD_ret e
          · show FnX P w K mg base j _ fdi di.ps ers (Fn (cOf nums) ds j i)
            rw [Fn_lt hij]
            exact (fi base dig).2.mono hij
      have f3 : ∀ (i : Nat) c, (tbOf ds free nums binds ers eb).cons[i]? = some c → (cOf nums)[i]? = some c.2 ∧ ∃ u v, mg c.1 = some u ∧ RelV v u ∧ ∀ H A, RD K H A c.2 v := fun i e hi => by
        have hi : (nums.map fun p => (p.1, D.int p.2))[i]? = some e := hi
        rw [List.getElem?_map] at hi
        cases hdi : nums[i]? with
        | none => rw [hdi] at hi; cases hi
        | some p =>
          rw [hdi] at hi
          cases hi
          obtain ⟨t, ht⟩ := He.int_ok X G (says_all c (List.mem_append_right _ (List.mem_append_right _ (List.mem_map.mpr ⟨p, List.mem_of_getElem? hdi, rfl⟩))))
          refine ⟨?_, _, .int p.2, ht, ⟨t, rfl⟩, fun _ _ => rfl⟩
          show (nums.map fun p => D.int p.2)[i]? = _
          rw [List.getElem?_map, hdi]
          rfl
      exact ⟨def_ok (T := tbOf ds free nums binds ers eb) (Pr := ⟨Fn (cOf nums) ds j, cOf nums⟩) F hs hbody dig f1 f2 er f3, def_okX (T := tbOf ds free nums binds ers eb) (Pr := ⟨Fn (cOf nums) ds j, cOf nums⟩) F hs hbody dig f1 f2 er f3⟩
    · obtain ⟨oc, od, dV, kV, doc, pm, an, cdv, ct, osl, rfl, lk, hcd, hD, hK⟩ := F.ex
      rcases hD with ⟨_, rfl⟩ | ⟨e, _⟩
      · intro s us ws zs l1 l2 e
        have := hb _ hm d st hd hst kV doc pm an cdv ct us ws zs l1 l2 e
        rw [hn] at this
        exact .of_eq this
      · exact absurd rfl e
theorem all_ok {P : Program} {w : World} {K : PySem.W.Frag} {h : Heap} {mg : Str → Option Value} {ds : List DefC} {sts : List Stmt} {free : List Str} {nums : List (Str × Int)} {binds : List (Nat × Nat × List Str × Option (List Nat))}
    (X : K.In h) (G : h.Ns mainGlobals mg) (c : He.SaysD (faOf ds free nums) (sts.map dOf) K) (ck : ckAll (tbOf ds free nums binds) 0 ds sts = true) (hb : BindsAll ds sts binds) :
    ∀ (j : Nat) d, ds[j]? = some d → ∃ fd, FunD K d.name d.name (defArgs (sts.getD j (.Pass ⟨0, 0, 0, 0⟩))) (defBody (sts.getD j (.Pass ⟨0, 0, 0, 0⟩))) (defScope (sts.getD j (.Pass ⟨0, 0, 0, 0⟩))) [] [] (He.fAd K (d.name, none)) fd ∧ mg d.name = some (.ref (He.fAd K (d.name, none))) ∧
      (∀ base : Heap, base.NoDigits → FnG P w K mg base (j + 1) (He.fAd K (d.name, none)) fd d.ps (spD K (Fn (cOf nums) ds (j + 1) j) d.ps.length)) ∧ ∀ n ks p, (j, n, ks, p) ∈ binds → BindOk fd d.ps n ks p := by
  intro j d hd
  obtain ⟨fd, F, g, J, b⟩ := all_okX (ers := []) (eb := "") X G c ck hb (fun _ _ z => nomatch z) j d hd
  exact ⟨fd, F, g, fun base dig => (J base dig).1, b⟩
/-- the end's last step -/
theorem end_ok {P : Program} {w : World} {K : PySem.W.Frag} {h : Heap} {mg : Str → Option Value} {fa : Addr} {nums : List (Str × Int)} {ds : List DefC} {j : Nat} {d : DefC} {pa : Arguments} {bo : List Stmt} {sc : Scope} {x : Str}
    (A : ∃ fd, FunD K d.name d.name pa bo sc [] [] (He.fAd K (d.name, none)) fd ∧ mg d.name = some (.ref (He.fAd K (d.name, none))) ∧ (∀ base : Heap, base.NoDigits → FnG P w K mg base (j + 1) (He.fAd K (d.name, none)) fd d.ps (spD K (Fn (cOf nums) ds (j + 1) j) d.ps.length)) ∧ ∀ n ks p, (j, n, ks, p) ∈ ([] : List (Nat × Nat × List Str × Option (List Nat))) → True)
    (hps : d.ps = [x]) (B : ∀ f fd, FunD K d.name d.name pa bo sc [] [] f fd → ∀ (s : Shared) (u : Value), BindsTo s fd ⟨[u], []⟩ [(x, u)]) (X : K.In h) (hmg : mg d.name = some (.ref fa)) :
    ∃ (fd : FuncData), K.In h ∧ (∀ (s : Shared) (u : Value), BindsTo s fd ⟨[u], []⟩ [(x, u)]) ∧ ∀ base : Heap, K.In base → base.Ns mainGlobals mg → base.NoDigits → FnG P w K mg base (j + 1) fa fd [x] (spD K (Fn (cOf nums) ds (j + 1) j) 1) := by
  obtain ⟨fd, F, g, G, _⟩ := A
  rw [hmg] at g
  cases g
  rw [hps] at G
  exact ⟨fd, X, B _ _ F, fun base _ _ dig => G base dig⟩
end Fz

/-! Q42: the heads of laws with errors: what is asked of the classes, and what it gives. -/
namespace PySem.FzX
open PySem PySem.Spec PySem.Calls PyProof.Rows PySem.W
def veB : List Value := [.type "ValueError", .type "Exception", .type "BaseException", .type "object"]
def eqOO (a b : Option (Option Value)) : Bool := decide (a = b)
def refsC (K : Frag) (C : Addr) : Bool := match clsIn K C with
  | some cd => (match cd.mro with
    | .ref _ :: bm => PySem.HandSPX.refsVE bm
    | _ => false)
  | none => false
theorem cls_at {K : Frag} {C : Addr} (h1 : excInitIn K C veB "ValueError.__new__" = true) (h2 : hasDictIn K C = true) (h3 : refsC K C = true) :
    ∃ nm q N bs bm sn sub ab col dd k0 k1 k2 k3 k5, K.lookup C = some (excClassObj nm q C N bs bm true sn sub ab col dd k0 k1 k2 k3 k5 "ValueError.__new__") ∧ PySem.HandSPX.refsVE bm = true := by
  unfold excInitIn at h1
  split at h1
  · rename_i dd cd sl ho
    split at h1
    · rename_i C' bm k0 k1 k2 k3 n k5 hm hs
      simp only [Bool.and_eq_true, beq_iff_eq, Bool.not_eq_true'] at h1
      obtain ⟨⟨⟨rfl, rfl⟩, hdel⟩, ht⟩ := h1
      have hc : clsIn K C' = some cd := by unfold clsIn; rw [ho] <;> rfl
      obtain ⟨nm, bs, mro, ns, qn, hd, sn, sub, ab, col, del⟩ := cd
      dsimp only at hm hdel
      subst hm hdel
      have hsl : sl = #[k0, k1, k2, k3, some (.builtin "ValueError.__new__"), k5] := by
        obtain ⟨l⟩ := sl
        simp only at hs
        rw [hs]
      subst hsl
      unfold hasDictIn at h2
      rw [hc] at h2
      obtain rfl : hd = true := h2
      unfold refsC at h3
      rw [hc] at h3
      exact ⟨nm, qn, ns, bs, bm, sn, sub, ab, col, dd, k0, k1, k2, k3, k5, ho, h3⟩
    · cases h1
  · cases h1
def errCB (K : Frag) (C : Addr) : Bool := excInitIn K C veB "ValueError.__new__" && (hasDictIn K C && (refsC K C && (eqOO (findIn K (.ref C) "__setattr__") (some (some (.builtin "object.__setattr__"))) && (keepIn K (.ref C) && (decide (subIn K (.ref C) (.type "BaseException") = some true) &&
  (decide (subIn K (.ref C) (.type "ValueError") = some true) && (decide (typeIn K (.ref C) = some (.type "type")) && (decide (mroIn K C (.ref C) = some true) && (eqOO (ks_superIn K C C "__init__") (some (some (.builtin "ValueError.__init__"))) && eqOO (nsIn K cStatics "thirdparty.any") (some none))))))))))
theorem b2 {a b : Bool} (h : (a && b) = true) : a = true ∧ b = true := Bool.and_eq_true_iff.mp h
theorem errCB_ok {K : Frag} {C : Addr} (h : errCB K C = true) : ErrC K C := by
  obtain ⟨h1, h⟩ := b2 h
  obtain ⟨h2, h⟩ := b2 h
  obtain ⟨h3, h⟩ := b2 h
  obtain ⟨h4, h⟩ := b2 h
  obtain ⟨h5, h⟩ := b2 h
  obtain ⟨h6, h⟩ := b2 h
  obtain ⟨h7, h⟩ := b2 h
  obtain ⟨h8, h⟩ := b2 h
  obtain ⟨h9, h⟩ := b2 h
  obtain ⟨h10, h11⟩ := b2 h
  exact ⟨cls_at h1 h2 h3, of_decide_eq_true h4, h5, of_decide_eq_true h6, of_decide_eq_true h7, of_decide_eq_true h8, of_decide_eq_true h9, of_decide_eq_true h10, of_decide_eq_true h11⟩
def excCB (K : Frag) (C : Addr) : Bool := eqOO (findIn K (.ref C) "__getattribute__") (some (some (.builtin "BaseException.__getattribute__"))) && (eqOO (findIn K (.ref C) "__getattr__") (some none) && (decide (subIn K (.ref C) (.type "BaseException") = some true) && (hasDictIn K C &&
  (eqOO (findIn K (.ref C) "__class__") (some (some (.builtin "object.__class__"))) && (eqOO (specialIn K (.builtin "object.__class__") "__get__") (some (some (.builtin "getset_descriptor.__get__"))) && (decide (takesIn K (.builtin "object.__class__") = some true) && decide (mroIn K C (.type "object") = some true)))))))
theorem excCB_ok {K : Frag} {C : Addr} (h : excCB K C = true) : L2.ExcC K C := by
  obtain ⟨h1, h⟩ := b2 h
  obtain ⟨h2, h⟩ := b2 h
  obtain ⟨h3, h⟩ := b2 h
  obtain ⟨h4, h⟩ := b2 h
  obtain ⟨h5, h⟩ := b2 h
  obtain ⟨h6, h⟩ := b2 h
  obtain ⟨h7, h8⟩ := b2 h
  exact ⟨of_decide_eq_true h1, of_decide_eq_true h2, of_decide_eq_true h3, h4, of_decide_eq_true h5, of_decide_eq_true h6, of_decide_eq_true h7, of_decide_eq_true h8⟩
/-- an __init__ but for its closure -/
abbrev InW : Type := Option (Arguments × FuncBody × Scope × Addr × Addr)
def inW (K : Frag) (f : Addr) : InW := match K.lookup f with
  | some ⟨_, _, .func fd, _⟩ => some (fd.params, fd.body, fd.scope, fd.globals, fd.builtins)
  | _ => none
def cellB (K : Frag) (C cc : Addr) : Bool := match K.lookup cc with
  | some ⟨_, _, .cell (some v), _⟩ => v == .ref C
  | _ => false
def at2 (vs : Array Value) : Option Value := vs[2]?
def codeB (K : Frag) (pf : Str) (cv : Value) : Bool := match cv with
  | .ref a => (match K.lookup a with
    | some ⟨_, _, .fields vs, _⟩ => (match at2 vs with
      | some (.str file _) => pf == file
      | _ => false)
    | _ => false)
  | _ => false
theorem codeB_ok {K : Frag} {pf : Str} : ∀ {cv : Value}, codeB K pf cv = true → ∃ a cc cd vs sl file tf, cv = .ref a ∧ K.lookup a = some ⟨cc, cd, .fields vs, sl⟩ ∧ vs[2]? = some (.str file tf) ∧ (pf == file) = true := by
  intro cv h
  cases cv with
  | ref a =>
    have h : (match K.lookup a with
      | some ⟨_, _, .fields vs, _⟩ => (match at2 vs with
        | some (.str file _) => pf == file
        | _ => false)
      | _ => false) = true := h
    cases q : K.lookup a with
    | none => rw [q] at h; cases h
    | some o =>
      rw [q] at h
      obtain ⟨cc, cd, dt, sl⟩ := o
      cases dt with
      | fields vs =>
        have h : (match at2 vs with
          | some (.str file _) => pf == file
          | _ => false) = true := h
        cases q2 : at2 vs with
        | none => rw [q2] at h; cases h
        | some v =>
          rw [q2] at h
          cases v with
          | str file tf => exact ⟨a, cc, cd, vs, sl, file, tf, rfl, q, q2, h⟩
          | _ => cases h
      | _ => cases h
  | _ => cases h
def closB (K : Frag) (C : Addr) : List (Str × Addr) → Bool
  | [(x, cc)] => decide (x = ("__class__" : Str)) && cellB K C cc
  | _ => false
theorem closB_ok {K : Frag} {C : Addr} : ∀ {cl : List (Str × Addr)}, closB K C cl = true → ∃ cc cv cd csl, cl = [(("__class__" : Str), cc)] ∧ K.lookup cc = some ⟨cv, cd, .cell (some (.ref C)), csl⟩
  | [], h => nomatch h
  | _ :: _ :: _, h => nomatch h
  | [(x, cc)], h => by
    obtain ⟨h1, h2⟩ := Bool.and_eq_true_iff.mp (show (decide (x = ("__class__" : Str)) && cellB K C cc) = true from h)
    have e1 := of_decide_eq_true h1
    subst e1
    unfold cellB at h2
    split at h2
    · rename_i cl cld v csl hcc
      have e2 : v = .ref C := beq_iff_eq.mp h2
      subst e2
      exact ⟨cc, cl, cld, csl, rfl, hcc⟩
    · cases h2
def initB (K : Frag) (pf : Str) (C f : Addr) : Bool := match K.lookup f with
  | some ⟨_, _, .func fd, _⟩ => (match fd.defaults with
    | .none => true
    | _ => false) && ((match fd.kwdefaults with
    | .none => true
    | _ => false) && (codeIn K fd.code fd.qualname && (codeB K pf fd.code && closB K C fd.closure)))
  | _ => false
def inF (K : Frag) (C : Addr) : Addr := match findIn K (.ref C) "__init__" with
  | some (some (.ref a)) => a
  | _ => 0
def errIB (K : Frag) (pf : Str) (C : Addr) : Bool := eqOO (findIn K (.ref C) "__init__") (some (some (.ref (inF K C)))) && (decide (typeIn K (.ref (inF K C)) = some (.type "function")) && initB K pf C (inF K C))
theorem errIB_ok {prog : Program} {K : Frag} {C : Addr} {params : Arguments} {body : List Stmt} {scope : Scope} (h : errIB K prog.main.file C = true) (hw : inW K (inF K C) = some (params, .stmts body, scope, mainGlobals, builtinsNs))
    (top : (prog.main.scope.names.lookup ("super" : Str)).isSome = false) (hks : scope.names.lookup ("super" : Str) = some .globalImplicit) (hkc : scope.names.lookup ("__class__" : Str) = some .free) (hse : scope.names.lookup ("self" : Str) = some .local) (hk : scope.kind = .function)
    (hco : scope.isCoroutine = false) (hge : scope.isGenerator = false) (hce : ∀ x ∈ scope.names, x.2 ≠ .cell) : ErrI prog K C (inF K C) params body scope := by
  obtain ⟨h1, h⟩ := b2 h
  obtain ⟨h2, h3⟩ := b2 h
  refine ⟨of_decide_eq_true h1, of_decide_eq_true h2, ?_, top, hks, hkc, hse, hk, hco, hge, hce⟩
  unfold initB at h3
  unfold inW at hw
  split at h3
  · rename_i oc od fd osl ho
    rw [ho] at hw
    obtain ⟨n1, n2, n3, n4, n5, n6, n7, n8, n9, n10, n11, n12, n13, n14, n15⟩ := fd
    have hw : (some (n3, n4, n5, n6, n15) : InW) = some (params, .stmts body, scope, mainGlobals, builtinsNs) := hw
    simp only [Option.some.injEq, Prod.mk.injEq] at hw
    obtain ⟨rfl, rfl, rfl, rfl, rfl⟩ := hw
    obtain ⟨a1, h3⟩ := b2 h3
    obtain ⟨a2, h3⟩ := b2 h3
    obtain ⟨a3, h3⟩ := b2 h3
    obtain ⟨a4, a5⟩ := b2 h3
    have d1 : n8 = .none := by cases n8 <;> first | rfl | cases a1
    have d2 : n9 = .none := by cases n9 <;> first | rfl | cases a2
    subst d1
    subst d2
    have a4 : codeB K prog.main.file n13 = true := a4
    obtain ⟨cda, ccl, cdd, vs, ccs, file, tf, rfl, hcda, hvs, a6⟩ := codeB_ok a4
    obtain ⟨cc, cl, cld, csl, rfl, hcc⟩ := closB_ok (show closB K C n7 = true from a5)
    exact ⟨oc, od, n1, n2, n10, n11, n12, cda, cc, n14, osl, ccl, cl, cdd, cld, vs, ccs, csl, file, tf, ho, a3, hcda, hvs, a6, hcc⟩
  · cases h3
end PySem.FzX
namespace Fz
open PySem PySem.Spec PyProof.Rows L2
/-- the first statement of a class -/
def initOf : Stmt → Stmt
  | .ClassDef _ _ _ (b :: _) _ _ _ _ _ _ _ => b
  | s => s
/-- an error of the package: its name, its field, its __init__ -/
structure ErT where
  c : Str
  f : Option Str
  params : Arguments
  body : List Stmt
  scope : Scope
/-- its text -/
structure ErSh (prog : Program) (t : ErT) : Prop where
  sh0 : t.f = none → ∃ (q1 p1 p2 p3 p4 p5 : Pos), t.params = PySem.FzX.iA0 q1 ∧ t.body = PySem.FzX.body0 p1 p2 p3 p4 p5 ∧ (p3.endLine == p4.line) = true
  sh1 : ∀ n, t.f = some n → ∃ (q1 q2 p1 p2 p3 p4 p5 p6 p7 p8 p9 p10 : Pos), t.params = PySem.FzX.iA1 n q1 q2 ∧ t.body = PySem.FzX.body1 n p1 p2 p3 p4 p5 p6 p7 p8 p9 p10 ∧ (p3.endLine == p4.line) = true ∧
    ∀ (v : Value) (x : Addr) (nm qual : Str) (doc pm : Value) (an : Option Addr) (cdv ct : Value) (cl : List (Str × Addr)), bindArgs (PySem.W.fnX nm qual t.params t.body t.scope cl .none .none doc pm an cdv ct) ⟨[.ref x, v], []⟩ = pure [(("self" : Str), .ref x), (n, v)]
  fl : t.f.all (fun n => decide (t.scope.names.lookup n = some .local) && (decide (n ≠ "self") && !(n == ("__debug__" : Str)))) = true
  top : (prog.main.scope.names.lookup ("super" : Str)).isSome = false
  hks : t.scope.names.lookup ("super" : Str) = some .globalImplicit
  hkc : t.scope.names.lookup ("__class__" : Str) = some .free
  hse : t.scope.names.lookup ("self" : Str) = some .local
  hk : t.scope.kind = .function
  hco : t.scope.isCoroutine = false
  hge : t.scope.isGenerator = false
  hce : (t.scope.names.all fun x => decide (x.2 ≠ .cell)) = true
  db : (t.c == ("__debug__" : Str)) = false
def errB (pf eb : Str) (t : ErT) (K : PySem.W.Frag) : Bool := PySem.FzX.errCB K (He.ga K t.c) && (PySem.FzX.excCB K (He.ga K t.c) && (PySem.FzX.errIB K pf (He.ga K t.c) && (decide (PySem.W.kitOne K (.ref (He.ga K t.c)) (.ref (He.ga K eb)) = some true) && (decide (PySem.W.exmOne K (.ref (He.ga K t.c)) (.ref (He.ga K t.c)) = some true) && t.f.all fun n => PySem.FzX.eqOO (PySem.W.findIn K (.ref (He.ga K t.c)) n) (some none)))))
def erW (t : ErT) : PySem.FzX.InW := some (t.params, .stmts t.body, t.scope, mainGlobals, builtinsNs)
def erI (K : PySem.W.Frag) (t : ErT) : PySem.FzX.InW := PySem.FzX.inW K (PySem.FzX.inF K (He.ga K t.c))
theorem errA_ok {prog : Program} {K : PySem.W.Frag} {eb : Str} {t : ErT} (s : ErSh prog t) (h : errB prog.main.file eb t K = true) (hw : erI K t = erW t) : ErrA prog K (He.ga K t.c) (He.ga K eb) t.f := by
  obtain ⟨h1, h⟩ := and1 h
  obtain ⟨h2, h⟩ := and1 h
  obtain ⟨h3, h⟩ := and1 h
  obtain ⟨h4, h⟩ := and1 h
  obtain ⟨h5, h6⟩ := and1 h
  have hI := PySem.FzX.errIB_ok (prog := prog) h3 hw s.top s.hks s.hkc s.hse s.hk s.hco s.hge fun x hx => of_decide_eq_true (List.all_eq_true.mp s.hce x hx)
  refine ⟨PySem.FzX.errCB_ok h1, fun hf => ?_, fun n hf => ?_, PySem.FzX.excCB_ok h2, of_decide_eq_true h4, of_decide_eq_true h5⟩
  · obtain ⟨q1, p1, p2, p3, p4, p5, e1, e2, e3⟩ := s.sh0 hf
    rw [e1, e2] at hI
    exact ⟨_, q1, p1, p2, p3, p4, p5, t.scope, hI, e3⟩
  · obtain ⟨q1, q2, p1, p2, p3, p4, p5, p6, p7, p8, p9, p10, e1, e2, e3, e4⟩ := s.sh1 n hf
    have e5 := s.fl
    rw [hf] at e5 h6
    obtain ⟨g1, g⟩ := and1 (show (decide (t.scope.names.lookup n = some .local) && (decide (n ≠ "self") && !(n == ("__debug__" : Str)))) = true from e5)
    obtain ⟨g2, g3⟩ := and1 g
    rw [e1, e2] at hI e4
    exact ⟨_, q1, q2, p1, p2, p3, p4, p5, p6, p7, p8, p9, p10, t.scope, hI, e3, of_decide_eq_true g1, of_decide_eq_true g2, by simpa using g3, of_decide_eq_true h6, e4⟩
/-! ### the Hook -/
abbrev AlX : Type := He.AlD × List PySem.FzX.InW
def obsK (fa : List He.Fa) (fn : List He.DefD) (pf eb : Str) (ers : List ErT) (K : PySem.W.Frag) : AlX := (((He.obsD fa fn K).1 && ers.all fun t => errB pf eb t K, (He.obsD fa fn K).2), ers.map (erI K))
def valX (fn : List He.DefD) (ers : List ErT) : AlX := (He.valD fn, ers.map erW)
def SaysX (fa : List He.Fa) (fn : List He.DefD) (pf eb : Str) (ers : List ErT) (K : PySem.W.Frag) : Prop := obsK fa fn pf eb ers K = valX fn ers
def asX (g : Addr → Option Obj) : Nat → List Addr
  | 0 => [mainGlobals, cStatics]
  | n + 1 => He.growD g (asX g n)
def obsXG (n : Nat) (fa : List He.Fa) (fn : List He.DefD) (pf eb : Str) (ers : List ErT) (g : Addr → Option Obj) : AlX := obsK fa fn pf eb ers (He.frG g (asX g n))
def hookX (n : Nat) (fa : List He.Fa) (fn : List He.DefD) (pf eb : Str) (ers : List ErT) : PySem.W.Hook where
  α := AlX
  obs := fun s => obsXG n fa fn pf eb ers s.heap.get?
  val := fun _ => valX fn ers
  says := fun _ h => ∃ K : PySem.W.Frag, K.In h ∧ SaysX fa fn pf eb ers K
  of := fun _ _ e => ⟨_, He.frG_in, e⟩
  keeps := fun _ _ _ ⟨K, hK, c⟩ k => ⟨K, PySem.W.Frag.In.keeps hK k, c⟩
theorem obsXG_eq {n : Nat} {fa : List He.Fa} {fn : List He.DefD} {pf eb : Str} {ers : List ErT} {g : Addr → Option Obj} {s : Shared} (h : ∀ a, g a = s.heap.get? a) : obsXG n fa fn pf eb ers g = (hookX n fa fn pf eb ers).obs s := by
  have e : g = s.heap.get? := funext h
  rw [e] <;> rfl
theorem SaysX.d {fa : List He.Fa} {fn : List He.DefD} {pf eb : Str} {ers : List ErT} {K : PySem.W.Frag} (c : SaysX fa fn pf eb ers K) : He.SaysD fa fn K := by
  have e1 : ((He.obsD fa fn K).1 && ers.all fun t => errB pf eb t K) = true := congrArg (fun z : AlX => z.1.1) c
  have e2 : (He.obsD fa fn K).2 = fn.map He.DefD.val := congrArg (fun z : AlX => z.1.2) c
  exact Prod.ext (and1 e1).1 e2
theorem SaysX.er {fa : List He.Fa} {fn : List He.DefD} {eb : Str} {ers : List ErT} {K : PySem.W.Frag} {prog : Program} (c : SaysX fa fn prog.main.file eb ers K) (s : ∀ t ∈ ers, ErSh prog t) {t : ErT} (h : t ∈ ers) : ErrA prog K (He.ga K t.c) (He.ga K eb) t.f := by
  have e1 : ((He.obsD fa fn K).1 && ers.all fun t => errB prog.main.file eb t K) = true := congrArg (fun z : AlX => z.1.1) c
  have e2 : ers.map (erI K) = ers.map erW := congrArg (fun z : AlX => z.2) c
  refine errA_ok (s t h) (List.all_eq_true.mp (and1 e1).2 t h) ?_
  obtain ⟨i, hi⟩ := List.getElem?_of_mem h
  have e3 : (ers.map (erI K))[i]? = (ers.map erW)[i]? := by rw [e2]
  rw [List.getElem?_map, List.getElem?_map, hi] at e3
  exact Option.some.inj e3
/-- all defs of a law with errors -/
theorem all_okE {P : Program} {w : World} {K : PySem.W.Frag} {h : Heap} {mg : Str → Option Value} {ds : List DefC} {sts : List Stmt} {free : List Str} {nums : List (Str × Int)} {binds : List (Nat × Nat × List Str × Option (List Nat))} {ers : List ErT} {eb : Str}
    (X : K.In h) (G : h.Ns mainGlobals mg) (c : SaysX (faOf ds free nums ++ He.Fa.glo eb :: ers.map fun t => He.Fa.glo t.c) (sts.map dOf) P.main.file eb ers K) (ck : ckAll (tbOf ds free nums binds (ers.map fun t => (t.c, t.f)) eb) 0 ds sts = true) (hb : BindsAll ds sts binds) (sh : ∀ t ∈ ers, ErSh P t) :
    ∀ (j : Nat) d, ds[j]? = some d → ∃ fd, FunD K d.name d.name (defArgs (sts.getD j (.Pass ⟨0, 0, 0, 0⟩))) (defBody (sts.getD j (.Pass ⟨0, 0, 0, 0⟩))) (defScope (sts.getD j (.Pass ⟨0, 0, 0, 0⟩))) [] [] (He.fAd K (d.name, none)) fd ∧ mg d.name = some (.ref (He.fAd K (d.name, none))) ∧
      (∀ base : Heap, base.NoDigits → FnG P w K mg base (j + 1) (He.fAd K (d.name, none)) fd d.ps (spD K (Fn (cOf nums) ds (j + 1) j) d.ps.length)) ∧ ∀ n ks p, (j, n, ks, p) ∈ binds → BindOk fd d.ps n ks p := by
  intro j d hd
  have cd := c.d
  have cd2 : He.SaysD (faOf ds free nums) (sts.map dOf) K := by
    have e1 : (((faOf ds free nums ++ He.Fa.glo eb :: ers.map fun t => He.Fa.glo t.c).all fun f => f.ok K) && (sts.map dOf).all fun d => d.ok K) = true := congrArg (fun z : He.AlD => z.1) cd
    have e2 : (sts.map dOf).map (fun d => He.fnW K d.at_) = (sts.map dOf).map He.DefD.val := congrArg (fun z : He.AlD => z.2) cd
    obtain ⟨a1, a2⟩ := and1 e1
    rw [List.all_append] at a1
    have e3 : (((faOf ds free nums).all fun f => f.ok K) && (sts.map dOf).all fun d => d.ok K) = true := by rw [(and1 a1).1, a2]; rfl
    exact Prod.ext e3 e2
  obtain ⟨fd, F, g, J, b⟩ := all_okX (P := P) (w := w) X G cd2 ck hb (fun c0 f hm => by
    obtain ⟨t, ht, e⟩ := List.mem_map.mp hm
    cases e
    exact ⟨_, _, He.glo_ok X G (says_all cd (List.mem_append_right _ (List.mem_cons_of_mem _ (List.mem_map.mpr ⟨t, ht, rfl⟩)))), He.glo_ok X G (says_all cd (List.mem_append_right _ List.mem_cons_self)), (sh t ht).db, c.er sh ht⟩) j d hd
  exact ⟨fd, F, g, fun base dig => (J base dig).1, b⟩
end Fz

/-! Q18: reasoning about the evaluator. -/
namespace Fz
open PySem
section
variable {P : Pg} {w : Wd}
theorem bd_congr {α β : Type} {x x' : R α} {f : α → R β} (h : x = x') : x.bd f = x'.bd f := by rw [h]
@[simp] theorem bd_ite {α β : Type} {c : Prop} [Decidable c] (a b : R α) (f : α → R β) : (if c then a else b).bd f = if c then a.bd f else b.bd f := by split <;> rfl
@[simp] theorem evE_v {i : Nat} : evE P (.v i) w = (match w.σ[i]? with
    | some (some d) => .ok (d, w)
    | _ => .err) := .trans rfl rfl
@[simp] theorem evE_k {d : D} : evE P (.k d) w = .ok (d, w) := .trans rfl rfl
@[simp] theorem evE_gl {i : Nat} : evE P (.gl i) w = (R.of P.C[i]?).bd fun d => .ok (d, w) := .trans rfl rfl
@[simp] theorem evE_op {o : Op} {md : Nat} {a b : E} : evE P (.op o md a b) w = (evE P a w).bd fun x => (evE P b x.2).bd fun y => opF o md x.1 y.1 y.2 := .trans rfl rfl
@[simp] theorem evE_neg {a : E} : evE P (.neg a) w = (evE P a w).bd fun x => match x.1 with
    | .int i => .ok (.int (-i), x.2)
    | _ => .err := .trans rfl rfl
@[simp] theorem evE_no {a : E} : evE P (.no a) w = (evE P a w).bd fun x => (R.of (x.2.tru x.1)).bd fun b => .ok (.bl (!b), x.2) := .trans rfl rfl
@[simp] theorem evE_an {a b : E} : evE P (.an a b) w = (evE P a w).bd fun x => (R.of (x.2.tru x.1)).bd fun c => if c then evE P b x.2 else .ok x := .trans rfl rfl
@[simp] theorem evE_or {a b : E} : evE P (.or a b) w = (evE P a w).bd fun x => (R.of (x.2.tru x.1)).bd fun c => if c then .ok x else evE P b x.2 := .trans rfl rfl
@[simp] theorem evE_cm {c : Cm} {a b : E} : evE P (.cm c a b) w = (evE P a w).bd fun x => (evE P b x.2).bd fun y => (R.of (cmF c x.1 y.1 y.2)).bd fun r => .ok (.bl r, y.2) := .trans rfl rfl
@[simp] theorem evE_ch {c c2 : Cm} {a b d : E} : evE P (.ch a c b c2 d) w = (evE P a w).bd fun x => (evE P b x.2).bd fun y => (R.of (cmF c x.1 y.1 y.2)).bd fun r => if r then
      (evE P d y.2).bd fun z => (R.of (cmF c2 y.1 z.1 z.2)).bd fun q => .ok (.bl q, z.2) else .ok (.bl false, y.2) := .trans rfl rfl
@[simp] theorem evE_ite {c a b : E} : evE P (.ite c a b) w = (evE P c w).bd fun x => (R.of (x.2.tru x.1)).bd fun r => if r then evE P a x.2 else evE P b x.2 := .trans rfl rfl
@[simp] theorem evE_tup {es : Es} : evE P (.tup es) w = (evEs P es w).bd fun x => newT x.1 x.2 := .trans rfl rfl
@[simp] theorem evE_lst {md : Nat} {es : Es} : evE P (.lst md es) w = (evEs P es w).bd fun x => newL md x.1 x.2 := .trans rfl rfl
@[simp] theorem evE_ix {a i : E} : evE P (.ix a i) w = (evE P a w).bd fun x => (evE P i x.2).bd fun y => match y.1 with
    | .int k => (R.of (y.2.seq x.1)).bd fun xs => (R.of ((ixI xs.length k).bind fun j => xs[j]?)).bd fun d => .ok (d, y.2)
    | .str k => (R.of (dicL x.1 k)).bd fun d => .ok (d, y.2)
    | _ => .err := .trans rfl rfl
@[simp] theorem evE_lrg {tp : Bool} {md : Nat} {es : Es} : evE P (.lrg tp md es) w = (evEs P es w).bd fun x => (R.of (rngF x.1)).bd fun xs => if tp then newT xs x.2 else newL md xs x.2 := .trans rfl rfl
@[simp] theorem evE_dis {ks : List Str} {es : Es} : evE P (.dis ks es) w = (evEs P es w).bd fun x => if ks.Nodup ∧ ks ≠ [] ∧ ks.length ≤ 15 ∧ ks.length = x.1.length then .ok (.dic ks x.1, x.2) else .err := .trans rfl rfl
@[simp] theorem dicL_dic {ks : List Str} {ds : List D} {k : Str} : dicL (.dic ks ds) k = lkp ks ds k := .trans rfl rfl
@[simp] theorem lkp_cons {k x : Str} {ks : List Str} {d : D} {ds : List D} : lkp (k :: ks) (d :: ds) x = if k = x then some d else lkp ks ds x := .trans rfl rfl
@[simp] theorem evE_sl {md : Nat} {a : E} {lo hi : Oe} : evE P (.sl md a lo hi) w = (evE P a w).bd fun x => (evO P lo x.2).bd fun l => (evO P hi l.2).bd fun h => (R.of (h.2.seq x.1)).bd fun xs =>
      if isT x.1 then newT (cut xs l.1 h.1) h.2 else newL md (cut xs l.1 h.1) h.2 := .trans rfl rfl
@[simp] theorem evE_rev {md : Nat} {a : E} : evE P (.rev md a) w = (evE P a w).bd fun x => (R.of (x.2.seq x.1)).bd fun xs => if isT x.1 then newT xs.reverse x.2 else newL md xs.reverse x.2 := .trans rfl rfl
@[simp] theorem evE_call {f : Nat} {perm : Option (List Nat)} {es ks : Es} : evE P (.call f perm es ks) w = (evEs P es w).bd fun x => (evEs P ks x.2).bd fun y => (R.of (lendL y.2 (x.1 ++ y.1))).bd fun ds => (R.of (arrD perm ds)).bd fun ds =>
      (P.F f ds y.2.g).bd fun r => .ok (r.1, { y.2 with g := r.2 }) := .trans rfl rfl
@[simp] theorem evE_bi {b : Bi} {md : Nat} {es : Es} : evE P (.bi b md es) w = (evEs P es w).bd fun x => biF b md x.1 x.2 := .trans rfl rfl
@[simp] theorem evE_me {m : Me} {o : E} {es : Es} : evE P (.me m o es) w = (evE P o w).bd fun x => (R.of (x.2.seq x.1)).bd fun _ => (evEs P es x.2).bd fun y => meF m x.1 y.1 y.2 := .trans rfl rfl
@[simp] theorem evE_isi {e : E} {t : Ty} : evE P (.isi e t) w = (evE P e w).bd fun x => (R.of (tyF t x.2 x.1)).bd fun b => .ok (.bl b, x.2) := .trans rfl rfl
@[simp] theorem evE_dnew {b : Bool} : evE P (.dnew b) w = .ok (.ref w.m.length, { w with m := w.m ++ [[.dic (dks b) []]] }) := .trans rfl rfl
@[simp] theorem evE_dget {o : E} {es : Es} {z : D} : evE P (.dget o es z) w = (evE P o w).bd fun x => (R.of (x.2.dct x.1)).bd fun _ => (evEs P es x.2).bd fun y => (R.of (y.2.dct x.1)).bd fun q => if decide (q.1 = 2) && (intD y.1).isSome && decide (y.1.length ≤ mxLen) && isFlat z then .ok ((getE q.2 (.tup y.1)).getD z, y.2) else .err := .trans rfl rfl
@[simp] theorem evE_din {n : Bool} {k o : E} : evE P (.din n k o) w = (evE P k w).bd fun y => (evE P o y.2).bd fun x => (R.of (x.2.dct x.1)).bd fun q => match y.1 with
    | .int i => if decide (q.1 = 3) then .ok (.bl (xor n (getE q.2 (.int i)).isSome), x.2) else .err
    | _ => .err := .trans rfl rfl
@[simp] theorem exS_dput {o : E} {es : Es} {e : E} : exS P (.dput o es e) w = (evE P e w).bd fun z => (evE P o z.2).bd fun x => (evEs P es x.2).bd fun y => (R.of (y.2.dct x.1)).bd fun q => if decide (q.1 = 2) && (intD y.1).isSome && decide (y.1.length ≤ mxLen ∧ q.2.length < mxLen) then .ok (.nx, y.2.dset x.1 (dks true) (putE q.2 (.tup y.1) z.1)) else .err := .trans rfl rfl
@[simp] theorem exS_dputI {o k e : E} : exS P (.dputI o k e) w = (evE P e w).bd fun z => (evE P o z.2).bd fun x => (evE P k x.2).bd fun y => (R.of (y.2.dct x.1)).bd fun q => match y.1 with
    | .int i => if decide (q.1 = 3) && decide (q.2.length < mxLen) then .ok (.nx, y.2.dset x.1 (dks false) (putE q.2 (.int i) z.1)) else .err
    | _ => .err := .trans rfl rfl
@[simp] theorem lsq_nil : lsq [] = some [] := .trans rfl rfl
@[simp] theorem lsq_int {i : Int} {r : List D} : lsq (.int i :: r) = some (.int i :: r) := .trans rfl rfl
@[simp] theorem lsq_bl {i : Bool} {r : List D} : lsq (.bl i :: r) = some (.bl i :: r) := .trans rfl rfl
@[simp] theorem lsq_str {i : Str} {r : List D} : lsq (.str i :: r) = some (.str i :: r) := .trans rfl rfl
@[simp] theorem lsq_non {r : List D} : lsq (.non :: r) = some (.non :: r) := .trans rfl rfl
@[simp] theorem lsq_tup {i : List D} {r : List D} : lsq (.tup i :: r) = some (.tup i :: r) := .trans rfl rfl
@[simp] theorem lsq_lst {i : List D} {r : List D} : lsq (.lst i :: r) = some (.lst i :: r) := .trans rfl rfl
@[simp] theorem lsq_fl {i : List D} {r : List D} : lsq (.fl i :: r) = some (.fl i :: r) := .trans rfl rfl
@[simp] theorem lsq_ref {i : Nat} {r : List D} : lsq (.ref i :: r) = some (.ref i :: r) := .trans rfl rfl
theorem lsq_noDc {xs : List D} (h : isDc xs = false) : lsq xs = some xs := by unfold lsq; rw [h]; exact if_neg (by decide)
@[simp] theorem lsq_ints {l : List Int} : lsq (l.map D.int) = some (l.map D.int) := by cases l <;> exact .trans rfl rfl
@[simp] theorem lsq_mapt {α : Type} {f : α → List D} {l : List α} : lsq (l.map fun a => D.tup (f a)) = some (l.map fun a => D.tup (f a)) := by cases l <;> exact .trans rfl rfl
@[simp] theorem lsq_mapi {α : Type} {f : α → Int} {l : List α} : lsq (l.map fun a => D.int (f a)) = some (l.map fun a => D.int (f a)) := by cases l <;> exact .trans rfl rfl
@[simp] theorem evE_co {md : Nat} {t : Tg} {it : It} {c : Oe} {e : E} {own : List Nat} : evE P (.co md t it c e own) w = (evI P it w).bd fun x => (coL (asg t) (evC P c) (evE P e) x.1.ok own x.2.σ x.1.xs x.2 []).bd fun r => newL md r.1 r.2 := .trans rfl rfl
@[simp] theorem evEs_nil : evEs P .nil w = .ok ([], w) := .trans rfl rfl
@[simp] theorem evEs_cons {e : E} {r : Es} : evEs P (.cons e r) w = (evE P e w).bd fun x => (evEs P r x.2).bd fun y => .ok (x.1 :: y.1, y.2) := .trans rfl rfl
@[simp] theorem evO_no : evO P .no w = .ok (none, w) := .trans rfl rfl
@[simp] theorem evO_so {e : E} : evO P (.so e) w = (evE P e w).bd fun x => match x.1 with
    | .int i => .ok (some i, x.2)
    | _ => .err := .trans rfl rfl
@[simp] theorem evC_no : evC P .no w = .ok (true, w) := .trans rfl rfl
@[simp] theorem evC_so {e : E} : evC P (.so e) w = (evE P e w).bd fun x => (R.of (x.2.tru x.1)).bd fun b => .ok (b, x.2) := .trans rfl rfl
@[simp] theorem evI_seq {e : E} : evI P (.seq e) w = (evE P e w).bd fun x => (R.of (x.2.seq x.1)).bd fun xs => .ok (⟨xs, (srcOf x.1).ok xs⟩, x.2) := .trans rfl rfl
@[simp] theorem evI_rng {es : Es} : evI P (.rng es) w = (evEs P es w).bd fun x => (R.of (rngF x.1)).bd fun xs => .ok (⟨xs, fun _ => true⟩, x.2) := .trans rfl rfl
@[simp] theorem evI_enu {e : E} : evI P (.enu e) w = (evE P e w).bd fun x => (R.of (x.2.seq x.1)).bd fun xs => .ok (⟨enuL 0 xs, (srcOf x.1).ok xs⟩, x.2) := .trans rfl rfl
@[simp] theorem evI_zip {a b : E} : evI P (.zip a b) w = (evE P a w).bd fun x => (evE P b x.2).bd fun y => (R.of (y.2.seq x.1)).bd fun xs => (R.of (y.2.seq y.1)).bd fun ys =>
      if isT x.1 == isT y.1 then .ok (⟨zipD xs ys, fun w => (srcOf x.1).ok xs w && (srcOf y.1).ok ys w⟩, y.2) else .err := .trans rfl rfl
@[simp] theorem exS_set {t : Tg} {e : E} : exS P (.set t e) w = (evE P e w).bd fun x => (R.of (asg t x.1 x.2)).bd fun w' => .ok (.nx, w') := .trans rfl rfl
@[simp] theorem exS_put {o i e : E} : exS P (.put o i e) w = (evE P e w).bd fun z => (evE P o z.2).bd fun x => (evE P i x.2).bd fun y => match y.1 with
    | .int k => (R.of (y.2.seq x.1)).bd fun xs => (R.of (ixI xs.length k)).bd fun j => (R.of (y.2.put x.1 (xs.set j z.1))).bd fun w' => .ok (.nx, w')
    | _ => .err := .trans rfl rfl
@[simp] theorem exS_ex {e : E} : exS P (.ex e) w = (evE P e w).bd fun x => .ok (.nx, x.2) := .trans rfl rfl
@[simp] theorem exS_ret {e : E} : exS P (.ret e) w = (evE P e w).bd fun x => .ok (.rt x.1, x.2) := .trans rfl rfl
@[simp] theorem exS_retn : exS P .retn w = .ok (.rt .non, w) := .trans rfl rfl
@[simp] theorem exS_brk : exS P .brk w = .ok (.bk, w) := .trans rfl rfl
@[simp] theorem exS_cnt : exS P .cnt w = .ok (.ct, w) := .trans rfl rfl
@[simp] theorem exS_pas : exS P .pas w = .ok (.nx, w) := .trans rfl rfl
@[simp] theorem exS_dead : exS P .dead w = .err := .trans rfl rfl
@[simp] theorem exS_ite {c : E} {a b : List S} : exS P (.ite c a b) w = (evT P c w).bd fun x => if x.1 then exB P a x.2 else exB P b x.2 := .trans rfl rfl
@[simp] theorem exS_for {t : Tg} {it : It} {body : List S} {kill : List Nat} {gc : Bool} : exS P (.for t it body kill gc) w = (evI P it w).bd fun x => forL (asg t) (exB P body) (postF kill gc x.2.m.length) x.1.ok x.1.xs x.2 := .trans rfl rfl
@[simp] theorem exS_whl {c : E} {body : List S} {kill : List Nat} {gc : Bool} : exS P (.whl c body kill gc) w = whlL (evT P c) (exB P body) (postF kill gc w.m.length) fuel w := .trans rfl rfl
@[simp] theorem evT_eq {e : E} : evT P e w = (evE P e w).bd fun x => (R.of (x.2.tru x.1)).bd fun b => .ok (b, x.2) := .trans rfl rfl
@[simp] theorem exB_nil : exB P [] w = .ok (.nx, w) := .trans rfl rfl
@[simp] theorem exB_cons {s : S} {r : List S} : exB P (s :: r) w = (exS P s w).bd fun x => match x.1 with
    | .nx => exB P r x.2
    | f => .ok (f, x.2) := .trans rfl rfl
@[simp] theorem asg_nm {i : Nat} {d : D} : asg (.nm i) d w = some { w with σ := w.σ.set i (some d) } := .trans rfl rfl
@[simp] theorem asg_tu {ts : List Tg} {ds : List D} : asg (.tu ts) (.tup ds) w = asgL ts ds w := .trans rfl rfl
@[simp] theorem asg_tuL {ts : List Tg} {ds : List D} : asg (.tu ts) (.lst ds) w = asgL ts ds w := .trans rfl rfl
@[simp] theorem asgL_nil : asgL [] [] w = some w := .trans rfl rfl
@[simp] theorem asgL_cons {t : Tg} {ts : List Tg} {d : D} {ds : List D} : asgL (t :: ts) (d :: ds) w = (asg t d w).bind fun w' => asgL ts ds w' := .trans rfl rfl
@[simp] theorem wipeD_nil {σ : List (Option D)} : wipeD σ [] = σ := .trans rfl rfl
@[simp] theorem wipeD_cons {σ : List (Option D)} {v : Nat} {vs : List Nat} : wipeD σ (v :: vs) = (wipeD σ vs).set v none := .trans rfl rfl
@[simp] theorem tru_bl {b : Bool} : w.tru (.bl b) = some b := .trans rfl rfl
@[simp] theorem tru_int {i : Int} : w.tru (.int i) = some (i != 0) := .trans rfl rfl
@[simp] theorem tru_non : w.tru .non = some false := .trans rfl rfl
@[simp] theorem seq_tup {ds : List D} : w.seq (.tup ds) = some ds := .trans rfl rfl
@[simp] theorem seq_lst {ds : List D} : w.seq (.lst ds) = some ds := .trans rfl rfl
@[simp] theorem seq_fl {ds : List D} : w.seq (.fl ds) = some ds := .trans rfl rfl
@[simp] theorem seq_sc {ds : List D} : w.seq (.sc ds) = some ds := .trans rfl rfl
@[simp] theorem seq_ref {k : Nat} : w.seq (.ref k) = (w.m[k]?).bind lsq := .trans rfl rfl
@[simp] theorem seq_g {k : Nat} : w.seq (.g k) = w.g[k]? := .trans rfl rfl
@[simp] theorem op_add {md : Nat} {i j : Int} : opF .add md (.int i) (.int j) w = .ok (.int (i + j), w) := .trans rfl rfl
@[simp] theorem op_sub {md : Nat} {i j : Int} : opF .sub md (.int i) (.int j) w = .ok (.int (i - j), w) := .trans rfl rfl
@[simp] theorem op_mul {md : Nat} {i j : Int} : opF .mul md (.int i) (.int j) w = if mulOk i j then .ok (.int (i * j), w) else .err := .trans rfl rfl
@[simp] theorem op_fdiv {md : Nat} {i j : Int} : opF .fdiv md (.int i) (.int j) w = if divOk i j then .ok (.int (i.fdiv j), w) else .err := .trans rfl rfl
@[simp] theorem op_mod {md : Nat} {i j : Int} : opF .mod md (.int i) (.int j) w = if j = 0 then .err else .ok (.int (i.fmod j), w) := .trans rfl rfl
@[simp] theorem op_pow {md : Nat} {i j : Int} : opF .pow md (.int i) (.int j) w = if powOk i j then .ok (.int (i ^ j.toNat), w) else .err := .trans rfl rfl
@[simp] theorem op_band {md : Nat} {i j : Int} : opF .band md (.int i) (.int j) w = .ok (.int (Builtin.bitAnd i j), w) := .trans rfl rfl
@[simp] theorem op_bxor {md : Nat} {i j : Int} : opF .bxor md (.int i) (.int j) w = .ok (.int (Builtin.bitXor i j), w) := .trans rfl rfl
@[simp] theorem op_shl {md : Nat} {i j : Int} : opF .shl md (.int i) (.int j) w = if powOk i j then .ok (.int (i * 2 ^ j.toNat), w) else .err := .trans rfl rfl
@[simp] theorem op_addS {md : Nat} {a b : Str} : opF .add md (.str a) (.str b) w = if a.length + b.length ≤ mxLen then .ok (.str (a ++ b), w) else .err := .trans rfl rfl
@[simp] theorem op_addT {md : Nat} {a b : List D} : opF .add md (.tup a) (.tup b) w = newT (a ++ b) w := .trans rfl rfl
@[simp] theorem cm_eqI {i j : Int} : cmF .eq (.int i) (.int j) w = some (decide (i = j)) := .trans rfl rfl
@[simp] theorem cm_neI {i j : Int} : cmF .ne (.int i) (.int j) w = some (!decide (i = j)) := .trans rfl rfl
@[simp] theorem cm_eqS {i j : Str} : cmF .eq (.str i) (.str j) w = some (decide (i = j)) := .trans rfl rfl
@[simp] theorem cm_neS {i j : Str} : cmF .ne (.str i) (.str j) w = some (!decide (i = j)) := .trans rfl rfl
@[simp] theorem cm_lt {i j : Int} : cmF .lt (.int i) (.int j) w = some (decide (i < j)) := .trans rfl rfl
@[simp] theorem cm_le {i j : Int} : cmF .le (.int i) (.int j) w = some (decide (i ≤ j)) := .trans rfl rfl
@[simp] theorem cm_gt {i j : Int} : cmF .gt (.int i) (.int j) w = some (decide (j < i)) := .trans rfl rfl
@[simp] theorem cm_ge {i j : Int} : cmF .ge (.int i) (.int j) w = some (decide (j ≤ i)) := .trans rfl rfl
theorem newL_0 {xs : List D} (h : xs.length ≤ mxLen) : newL 0 xs w = .ok (.lst xs, w) := by
  unfold newL; rw [if_pos h]; rfl
theorem newL_1 {xs : List D} (h : xs.length ≤ mxLen) : newL 1 xs w = .ok (.ref w.m.length, { w with m := w.m ++ [xs] }) := by
  unfold newL; rw [if_pos h]; rfl
theorem newL_2 {xs : List D} (h : xs.length ≤ mxLen) (h2 : xs.all gOk = true) : newL 2 xs w = .ok (.g w.g.length, { w with g := w.g ++ [xs] }) := by
  unfold newL; rw [if_pos h]; simp [h2]
theorem newT_ok' {xs : List D} (h : xs.length ≤ mxLen) : newT xs w = .ok (.tup xs, w) := by
  unfold newT; rw [if_pos h]
theorem le_mx {n : Nat} (h : n ≤ 100000) : n ≤ mxLen := Nat.le_trans h (by decide)

/-! ### loops -/
section
variable {bind : D → Wd → Option Wd} {body : Wd → R (Fl × Wd)} {post : Wd → Option Wd} {ok : Wd → Bool} {test : Wd → R (Bool × Wd)}
@[simp] theorem forL_nil : forL bind body post ok [] w = .ok (.nx, w) := .trans rfl rfl
theorem forL_cons {x : D} {xs : List D} : forL bind body post ok (x :: xs) w = (R.of (bind x w)).bd fun w1 => (body w1).bd fun r => match r.1 with
    | .bk => .ok (.nx, r.2)
    | .rt d => .ok (.rt d, r.2)
    | _ => (R.of (post r.2)).bd fun w3 => if ok w3 then forL bind body post ok xs w3 else .err := rfl
/-- a loop whose turns are known -/
theorem forL_run {f : Nat → D} (st : Nat → Wd) : ∀ (xs : List D) (k : Nat), (∀ i (h : i < xs.length), xs[i] = f (k + i)) → (∀ i r, i < k + xs.length → k ≤ i → forL bind body post ok (f i :: r) (st i) = forL bind body post ok r (st (i + 1))) → forL bind body post ok xs (st k) = .ok (.nx, st (k + xs.length))
  | [], k, _, _ => rfl
  | x :: xs, k, hf, h => by
    have e : x = f k := hf 0 (Nat.zero_lt_succ _)
    rw [e, h k xs (by simp) (Nat.le_refl _), forL_run st xs (k + 1) (fun i hi => by have := hf (i + 1) (Nat.succ_lt_succ hi); rw [show k + (i + 1) = k + 1 + i by omega] at this; exact this) (fun i r h1 h2 => h i r (by rw [List.length_cons]; omega) (by omega))]
    rw [List.length_cons, show k + 1 + xs.length = k + (xs.length + 1) by omega]
/-- a loop with an invariant -/
theorem forL_inv (I : Nat → Wd → Prop) {f : Nat → D} : ∀ (xs : List D) (k : Nat) (w : Wd), (∀ i (h : i < xs.length), xs[i] = f (k + i)) → (∀ i w r, i < k + xs.length → k ≤ i → I i w → ∃ w', I (i + 1) w' ∧ forL bind body post ok (f i :: r) w = forL bind body post ok r w') → I k w → ∃ w', I (k + xs.length) w' ∧ forL bind body post ok xs w = .ok (.nx, w')
  | [], k, w, _, _, hI => ⟨w, hI, rfl⟩
  | x :: xs, k, w, hf, h, hI => by
    have e : x = f k := hf 0 (Nat.zero_lt_succ _)
    obtain ⟨w', h1, h2⟩ := h k w xs (by simp) (Nat.le_refl _) hI
    obtain ⟨w2, h3, h4⟩ := forL_inv I xs (k + 1) w' (fun i hi => by have := hf (i + 1) (Nat.succ_lt_succ hi); rw [show k + (i + 1) = k + 1 + i by omega] at this; exact this) (fun i w r h1 h2 => h i w r (by rw [List.length_cons]; omega) (by omega)) h1
    exact ⟨w2, by rw [List.length_cons, show k + (xs.length + 1) = k + 1 + xs.length by omega]; exact h3, by rw [e, h2, h4]⟩
theorem rngL_ln : ∀ (n : Nat) (lo : Int), (rngL lo n).length = n
  | 0, _ => rfl
  | n + 1, lo => by show (rngL (lo + 1) n).length + 1 = n + 1; rw [rngL_ln n]
theorem rngL_at : ∀ (n : Nat) (lo : Int) (i : Nat) (h : i < (rngL lo n).length), (rngL lo n)[i] = .int (lo + i)
  | 0, _, i, h => absurd h (Nat.not_lt_zero _)
  | n + 1, lo, 0, h => by simp [rngL]
  | n + 1, lo, i + 1, h => by
    have h' : i < (rngL (lo + 1) n).length := by simp [rngL] at h; exact h
    show (rngL (lo + 1) n)[i] = _
    rw [rngL_at n (lo + 1) i h']
    congr 1
    push_cast
    omega
/-- over a range -/
theorem forL_rng (st : Nat → Wd) (lo : Int) (n : Nat) (h : ∀ i r, i < n → forL bind body post ok (.int (lo + i) :: r) (st i) = forL bind body post ok r (st (i + 1))) : forL bind body post ok (rngL lo n) (st 0) = .ok (.nx, st n) := by
  have := forL_run (bind := bind) (body := body) (post := post) (ok := ok) (f := fun i => .int (lo + (i : Int))) st (rngL lo n) 0 (fun i hi => by rw [rngL_at, Nat.zero_add]) (fun i r h1 _ => h i r (by rw [rngL_ln] at h1; omega))
  rw [rngL_ln, Nat.zero_add] at this
  exact this
theorem forL_rngI (I : Nat → Wd → Prop) (lo : Int) (n : Nat) (w : Wd) (h : ∀ i w r, i < n → I i w → ∃ w', I (i + 1) w' ∧ forL bind body post ok (.int (lo + i) :: r) w = forL bind body post ok r w') (h0 : I 0 w) : ∃ w', I n w' ∧ forL bind body post ok (rngL lo n) w = .ok (.nx, w') := by
  have := forL_inv (bind := bind) (body := body) (post := post) (ok := ok) (f := fun i => .int (lo + (i : Int))) I (rngL lo n) 0 w (fun i hi => by rw [rngL_at, Nat.zero_add]) (fun i w r h1 _ h2 => h i w r (by rw [rngL_ln] at h1; omega) h2) h0
  rw [rngL_ln, Nat.zero_add] at this
  exact this
end
/-! ### comprehensions -/
section
variable {bind : D → Wd → Option Wd} {elt : Wd → R (D × Wd)} {ok : Wd → Bool} {own : List Nat} {σ : List (Option D)} {test : Wd → R (Bool × Wd)}
@[simp] theorem coL_nil {acc : List D} : coL bind test elt ok own σ [] w acc = .ok (acc, w) := .trans rfl rfl
theorem coL_cons {x : D} {xs acc : List D} : coL bind test elt ok own σ (x :: xs) w acc = (R.of (bind x { w with σ := wipeD σ own })).bd fun w1 => (test w1).bd fun r => if r.1 then
      (elt r.2).bd fun q => if ok { q.2 with σ := σ } && decide (acc.length < mxLen) then coL bind test elt ok own σ xs { q.2 with σ := σ } (acc ++ [q.1]) else .err
    else if ok { r.2 with σ := σ } then coL bind test elt ok own σ xs { r.2 with σ := σ } acc else .err := rfl
/-- items worked out one by one, the world as it was -/
theorem coL_map {m g : List (List D)} (f : D → D) : ∀ (xs acc : List D), acc.length + xs.length ≤ mxLen → (∀ x ∈ xs, ∀ r acc, acc.length < mxLen → coL bind test elt ok own σ (x :: r) ⟨σ, m, g⟩ acc = coL bind test elt ok own σ r ⟨σ, m, g⟩ (acc ++ [f x])) →
    coL bind test elt ok own σ xs ⟨σ, m, g⟩ acc = .ok (acc ++ xs.map f, ⟨σ, m, g⟩)
  | [], acc, _, _ => by simp
  | x :: xs, acc, h, hx => by
    rw [List.length_cons] at h
    rw [hx x List.mem_cons_self xs acc (by omega), coL_map f xs (acc ++ [f x]) (by simp; omega) fun y hy => hx y (List.mem_cons_of_mem _ hy)]
    simp
theorem coL_filter {m g : List (List D)} (p : D → Bool) (f : D → D) : ∀ (xs acc : List D), acc.length + xs.length ≤ mxLen → (∀ x ∈ xs, ∀ r acc, acc.length < mxLen → coL bind test elt ok own σ (x :: r) ⟨σ, m, g⟩ acc = coL bind test elt ok own σ r ⟨σ, m, g⟩ (if p x then acc ++ [f x] else acc)) →
    coL bind test elt ok own σ xs ⟨σ, m, g⟩ acc = .ok (acc ++ (xs.filter p).map f, ⟨σ, m, g⟩)
  | [], acc, _, _ => by simp
  | x :: xs, acc, h, hx => by
    rw [List.length_cons] at h
    rw [hx x List.mem_cons_self xs acc (by omega), coL_filter p f xs (if p x then acc ++ [f x] else acc) (by split <;> (try rw [List.length_append]) <;> (try rw [List.length_singleton]) <;> omega) fun y hy => hx y (List.mem_cons_of_mem _ hy)]
    cases q : p x <;> simp [List.filter_cons, q]
end
/-! ### sums of size -/
theorem mulOk_l {i j : Int} (h : -(2 ^ 64) < i ∧ i < 2 ^ 64) : mulOk i j = true := decide_eq_true (.inl h)
theorem mulOk_r {i j : Int} (h : -(2 ^ 64) < j ∧ j < 2 ^ 64) : mulOk i j = true := decide_eq_true (.inr (.inl h))
theorem mulOk_b {i j : Int} {a b : Nat} (hi : i.natAbs < 2 ^ a) (hj : j.natAbs < 2 ^ b) (ha : a ≤ 400000) (hb : b ≤ 400000) : mulOk i j = true :=
  decide_eq_true (.inr (.inr ⟨Nat.lt_of_lt_of_le hi (Nat.pow_le_pow_right (by decide) ha), Nat.lt_of_lt_of_le hj (Nat.pow_le_pow_right (by decide) hb)⟩))
end
end Fz
namespace Fz
theorem rngOk_of {j : Int} (h : -4611686018427387904 ≤ j ∧ j < 4611686018427387904) : rngOk j = true := decide_eq_true (p := -(2 ^ 62) ≤ j ∧ j < 2 ^ 62) (by omega)
theorem rng_1 {j : Int} {n : Nat} (h : j.toNat = n) (h2 : -4611686018427387904 ≤ j ∧ j < 4611686018427387904) : rngF [.int j] = some (rngL 0 n) := by
  show (if rngOk j = true then _ else _) = _
  rw [if_pos (rngOk_of h2), h]
theorem rng_2 {i j : Int} {n : Nat} (h : (j - i).toNat = n) (h1 : -4611686018427387904 ≤ i ∧ i < 4611686018427387904) (h2 : -4611686018427387904 ≤ j ∧ j < 4611686018427387904) : rngF [.int i, .int j] = some (rngL i n) := by
  show (if (rngOk i && rngOk j) = true then _ else _) = _
  rw [rngOk_of h1, rngOk_of h2, h]
  rfl
end Fz

/-! Q19: more simp rules; the pot. -/
namespace Fz
open PySem
/-! ### data without own lists -/
mutual
theorem rs_ok {ρ : Nat → Option D} {φ : Bool} : ∀ d : D, okRet d = true → rs ρ φ d = some d
  | .non, _ => rfl
  | .bl _, _ => rfl
  | .int _, _ => rfl
  | .str _, _ => rfl
  | .tup ds, h => by show (rsL ρ φ ds).map D.tup = _; rw [rsL_ok ds h]; rfl
  | .lst ds, h => by show (rsL ρ φ ds).map D.lst = _; rw [rsL_ok ds h]; rfl
  | .fl _, h => nomatch h
  | .sc _, h => nomatch h
  | .ref _, h => nomatch h
  | .g _, _ => rfl
  | .dic ks ds, h => by show (rsL ρ φ ds).map (D.dic ks) = _; rw [rsL_ok ds h]; rfl
theorem rsL_ok {ρ : Nat → Option D} {φ : Bool} : ∀ ds : List D, okRets ds = true → rsL ρ φ ds = some ds
  | [], _ => rfl
  | d :: ds, h => by
    obtain ⟨h1, h2⟩ := and1 (show (okRet d && okRets ds) = true from h)
    show (rs ρ φ d).bind (fun y => (rsL ρ φ ds).map fun ys => y :: ys) = _
    rw [rs_ok d h1, rsL_ok ds h2]
    rfl
end
theorem okRets_all {ds : List D} (h : ∀ d ∈ ds, okRet d = true) : okRets ds = true := by
  induction ds with
  | nil => rfl
  | cons d ds ih =>
    show (okRet d && okRets ds) = true
    rw [h d List.mem_cons_self, ih fun e he => h e (List.mem_cons_of_mem _ he)]
    rfl
theorem okRets_mem {ds : List D} (h : okRets ds = true) : ∀ d ∈ ds, okRet d = true := by
  induction ds with
  | nil => exact fun d hd => nomatch hd
  | cons e ds ih =>
    obtain ⟨h1, h2⟩ := and1 (show (okRet e && okRets ds) = true from h)
    intro d hd
    rcases List.mem_cons.mp hd with rfl | hd
    · exact h1
    · exact ih h2 d hd
@[simp] theorem okRets_int (ns : List Int) : okRets (ns.map D.int) = true := okRets_all fun d hd => by
  obtain ⟨n, _, rfl⟩ := List.mem_map.mp hd
  rfl
@[simp] theorem okRets_nil : okRets [] = true := rfl
@[simp] theorem okRets_cons {d : D} {ds : List D} : okRets (d :: ds) = (okRet d && okRets ds) := .trans rfl rfl
@[simp] theorem okRet_int {i : Int} : okRet (.int i) = true := rfl
@[simp] theorem okRet_bl {i : Bool} : okRet (.bl i) = true := rfl
@[simp] theorem okRet_str {i : Str} : okRet (.str i) = true := rfl
@[simp] theorem okRet_non : okRet .non = true := rfl
@[simp] theorem okRet_g {k : Nat} : okRet (.g k) = true := rfl
@[simp] theorem okRet_lst {ds : List D} : okRet (.lst ds) = okRets ds := .trans rfl rfl
@[simp] theorem okRet_tup {ds : List D} : okRet (.tup ds) = okRets ds := .trans rfl rfl
section
variable {ρ : Nat → Option D} {φ : Bool} {w : Wd}
@[simp] theorem rsL_nil : rsL ρ φ [] = some [] := .trans rfl rfl
@[simp] theorem rsL_cons {x : D} {xs : List D} : rsL ρ φ (x :: xs) = (rs ρ φ x).bind fun y => (rsL ρ φ xs).map fun ys => y :: ys := .trans rfl rfl
@[simp] theorem rs_non : rs ρ φ .non = some .non := .trans rfl rfl
@[simp] theorem rs_bl {b : Bool} : rs ρ φ (.bl b) = some (.bl b) := .trans rfl rfl
@[simp] theorem rs_int {b : Int} : rs ρ φ (.int b) = some (.int b) := .trans rfl rfl
@[simp] theorem rs_str {b : Str} : rs ρ φ (.str b) = some (.str b) := .trans rfl rfl
@[simp] theorem rs_g {k : Nat} : rs ρ φ (.g k) = some (.g k) := .trans rfl rfl
@[simp] theorem rs_ref {k : Nat} : rs ρ φ (.ref k) = ρ k := .trans rfl rfl
@[simp] theorem rs_tup {ds : List D} : rs ρ φ (.tup ds) = (rsL ρ φ ds).map D.tup := .trans rfl rfl
@[simp] theorem rs_lst {ds : List D} : rs ρ φ (.lst ds) = (rsL ρ φ ds).map D.lst := .trans rfl rfl
@[simp] theorem rs_fl {ds : List D} : rs ρ φ (.fl ds) = if φ then (rsL ρ φ ds).map D.fl else none := .trans rfl rfl
@[simp] theorem rs_dic {ks : List Str} {ds : List D} : rs ρ φ (.dic ks ds) = (rsL ρ φ ds).map (D.dic ks) := .trans rfl rfl
@[simp] theorem rs_sc {ds : List D} : rs ρ φ (.sc ds) = if φ then (rsL ρ φ ds).map D.sc else none := .trans rfl rfl
@[simp] theorem rsL_int {ns : List Int} : rsL ρ φ (ns.map D.int) = some (ns.map D.int) := rsL_ok _ (okRets_int ns)
@[simp] theorem give_eq {d : D} : give w d = rs (up D.lst 0 w.m false 4) false d := .trans rfl rfl
@[simp] theorem lendL_eq {ds : List D} : lendL w ds = rsL (up D.fl 0 w.m true 4) true ds := .trans rfl rfl
@[simp] theorem up_0 {mk : List D → D} {m : List (List D)} {n k : Nat} : up mk 0 m φ (n + 1) k = ((m[k]?).bind lsq).bind fun ds => (rsL (up mk 0 m φ n) φ ds).map mk := .trans rfl rfl
theorem up_S {mk : List D → D} {L : Nat} {m : List (List D)} {n k : Nat} : up mk L m φ (n + 1) k = if k < L then some (.ref k) else ((m[k]?).bind lsq).bind fun ds => (rsL (up mk L m φ n) φ ds).map mk := .trans rfl rfl
@[simp] theorem keepO_nil {L : Nat} {m : List (List D)} : keepO L m [] = some [] := .trans rfl rfl
@[simp] theorem keepO_none {L : Nat} {m : List (List D)} {r : List (Option D)} : keepO L m (none :: r) = (keepO L m r).map fun xs => none :: xs := .trans rfl rfl
@[simp] theorem keepO_some {L : Nat} {m : List (List D)} {d : D} {r : List (Option D)} : keepO L m (some d :: r) = (rs (keep L m) true d).bind fun y => (keepO L m r).map fun xs => some y :: xs := .trans rfl rfl
@[simp] theorem keepM_nil {L : Nat} {m : List (List D)} : keepM L m [] = some [] := .trans rfl rfl
@[simp] theorem keepM_cons {L : Nat} {m : List (List D)} {x : List D} {r : List (List D)} : keepM L m (x :: r) = (rsL (keep L m) true x).bind fun y => (keepM L m r).map fun xs => y :: xs := .trans rfl rfl
theorem keep_lt {L : Nat} {m : List (List D)} {k : Nat} (h : k < L) : keep L m k = some (.ref k) := by
  unfold keep
  rw [up_S, if_pos h]
theorem keep_ge {L : Nat} {m : List (List D)} {k : Nat} (h : ¬ k < L) : keep L m k = ((m[k]?).bind lsq).bind fun ds => (rsL (up D.lst L m true 3) true ds).map D.lst := by
  unfold keep
  rw [up_S, if_neg h]
theorem gc_eq {L : Nat} : w.gc L = (keepO L w.m w.σ).bind fun σ => (keepM L w.m (w.m.take L)).map fun m => { w with σ := σ, m := m } := .trans rfl rfl
@[simp] theorem postF_0 {kill : List Nat} {L : Nat} : postF kill false L w = some { w with σ := wipeD w.σ kill } := .trans rfl rfl
@[simp] theorem postF_1 {kill : List Nat} {L : Nat} : postF kill true L w = Wd.gc { w with σ := wipeD w.σ kill } L := .trans rfl rfl
@[simp] theorem arrD_none {α : Type} {xs : List α} : arrD none xs = some xs := .trans rfl rfl
@[simp] theorem arrD_some {α : Type} {p : List Nat} {xs : List α} : arrD (some p) xs = arr p xs := .trans rfl rfl
@[simp] theorem arr_nil {α : Type} {xs : List α} : arr [] xs = some [] := .trans rfl rfl
@[simp] theorem arr_cons {α : Type} {i : Nat} {r : List Nat} {xs : List α} : arr (i :: r) xs = (xs[i]?).bind fun x => (arr r xs).map fun ys => x :: ys := .trans rfl rfl
@[simp] theorem put_g {k : Nat} {xs : List D} : w.put (.g k) xs = if k < w.g.length ∧ xs.all gOk = true then some { w with g := w.g.set k xs } else none := .trans rfl rfl
@[simp] theorem put_ref {k : Nat} {xs : List D} : w.put (.ref k) xs = if k < w.m.length then some { w with m := w.m.set k xs } else none := .trans rfl rfl
@[simp] theorem src_non {xs : List D} : Src.non.ok xs w = true := .trans rfl rfl
@[simp] theorem src_nonF {xs : List D} : Src.non.ok xs = fun _ => true := .trans rfl rfl
@[simp] theorem src_ref {k : Nat} {xs : List D} : (Src.ref k).ok xs w = (w.m[k]?).any fun ys => deqL ys xs := .trans rfl rfl
@[simp] theorem src_g {k : Nat} {xs : List D} : (Src.g k).ok xs w = (w.g[k]?).any fun ys => deqL ys xs := .trans rfl rfl
@[simp] theorem srcOf_lst {xs : List D} : srcOf (.lst xs) = .non := .trans rfl rfl
@[simp] theorem srcOf_tup {xs : List D} : srcOf (.tup xs) = .non := .trans rfl rfl
@[simp] theorem srcOf_fl {xs : List D} : srcOf (.fl xs) = .non := .trans rfl rfl
@[simp] theorem srcOf_sc {xs : List D} : srcOf (.sc xs) = .non := .trans rfl rfl
@[simp] theorem srcOf_ref {k : Nat} : srcOf (.ref k) = .ref k := .trans rfl rfl
@[simp] theorem srcOf_g {k : Nat} : srcOf (.g k) = .g k := .trans rfl rfl
@[simp] theorem deqL_same {xs : List D} : deqL xs xs = true := deqL_refl xs
@[simp] theorem isT_tup {xs : List D} : isT (.tup xs) = true := rfl
@[simp] theorem isT_lst {xs : List D} : isT (.lst xs) = false := rfl
@[simp] theorem isT_fl {xs : List D} : isT (.fl xs) = false := rfl
@[simp] theorem isT_sc {xs : List D} : isT (.sc xs) = false := rfl
@[simp] theorem isT_ref {k : Nat} : isT (.ref k) = false := rfl
@[simp] theorem isT_g {k : Nat} : isT (.g k) = false := rfl
@[simp] theorem isL_lst {xs : List D} : isL (.lst xs) = true := rfl
@[simp] theorem isL_fl {xs : List D} : isL (.fl xs) = true := rfl
@[simp] theorem isL_ref {k : Nat} : isL (.ref k) = true := rfl
@[simp] theorem isL_g {k : Nat} : isL (.g k) = true := rfl
@[simp] theorem isL_tup {xs : List D} : isL (.tup xs) = false := rfl
@[simp] theorem isL_sc {xs : List D} : isL (.sc xs) = false := rfl
/-! ### built-ins -/
variable {md : Nat}
@[simp] theorem bi_len_lst {xs : List D} : biF .len md [.lst xs] w = .ok (.int xs.length, w) := .trans rfl rfl
@[simp] theorem bi_len_tup {xs : List D} : biF .len md [.tup xs] w = .ok (.int xs.length, w) := .trans rfl rfl
@[simp] theorem bi_len_fl {xs : List D} : biF .len md [.fl xs] w = .ok (.int xs.length, w) := .trans rfl rfl
@[simp] theorem bi_len_sc {xs : List D} : biF .len md [.sc xs] w = .ok (.int xs.length, w) := .trans rfl rfl
@[simp] theorem bi_len_ref {k : Nat} : biF .len md [.ref k] w = (R.of ((w.m[k]?).bind lsq)).bd fun xs => .ok (.int xs.length, w) := .trans rfl rfl
@[simp] theorem bi_len_g {k : Nat} : biF .len md [.g k] w = (R.of (w.g[k]?)).bd fun xs => .ok (.int xs.length, w) := .trans rfl rfl
@[simp] theorem bq_abs {i : Int} : biF .abs md [.int i] w = .ok (.int (if i < 0 then -i else i), w) := .trans rfl rfl
@[simp] theorem bi_intI {i : Int} : biF .int md [.int i] w = .ok (.int i, w) := .trans rfl rfl
@[simp] theorem bi_intB {k : Bool} : biF .int md [.bl k] w = .ok (.int (if k then 1 else 0), w) := .trans rfl rfl
@[simp] theorem bi_boolI {i : Int} : biF .bool md [.int i] w = .ok (.bl (i != 0), w) := .trans rfl rfl
@[simp] theorem bi_boolB {k : Bool} : biF .bool md [.bl k] w = .ok (.bl k, w) := .trans rfl rfl
theorem bq_repr {d : D} : biF .repr md [d] w = (R.of (w.py d)).bd fun p => if reprOk p then .ok (.str p.shown, w) else .err := by cases d <;> exact .trans rfl rfl
@[simp] theorem bq_sum {d : D} : biF .sum md [d] w = (R.of ((w.seq d).bind intD)).bd fun xs => .ok (.int xs.sum, w) := by cases d <;> exact .trans rfl rfl
@[simp] theorem bq_dict {d : D} : biF .dict md [d] w = if isT d then .err else (R.of ((w.seq d).bind prsD)).bd fun p => if p.1.Nodup ∧ p.1 ≠ [] ∧ p.1.length ≤ 15 then .ok (.dic p.1 p.2, w) else .err := by cases d <;> exact .trans rfl rfl
@[simp] theorem prsD_nil : prsD [] = some ([], []) := .trans rfl rfl
@[simp] theorem prsD_cons {k : Str} {d : D} {r : List D} : prsD (.tup [.str k, d] :: r) = (prsD r).map fun p => (k :: p.1, d :: p.2) := .trans rfl rfl
@[simp] theorem bi_max2 {i j : Int} : biF .max md [.int i, .int j] w = .ok (.int (if j > i then j else i), w) := .trans rfl rfl
@[simp] theorem bi_min2 {i j : Int} : biF .min md [.int i, .int j] w = .ok (.int (if j < i then j else i), w) := .trans rfl rfl
@[simp] theorem bq_max {d : D} : biF .max md [d] w = (R.of ((w.seq d).bind intD)).bd fun xs => if xs.isEmpty then .err else .ok (.int (maxL xs), w) := by cases d <;> exact .trans rfl rfl
@[simp] theorem bq_min {d : D} : biF .min md [d] w = (R.of ((w.seq d).bind intD)).bd fun xs => if xs.isEmpty then .err else .ok (.int (minL xs), w) := by cases d <;> exact .trans rfl rfl
@[simp] theorem bq_tuple {d : D} : biF .tuple md [d] w = (R.of (w.seq d)).bd fun xs => newT xs w := by cases d <;> exact .trans rfl rfl
@[simp] theorem bq_list {d : D} : biF .list md [d] w = (R.of (w.seq d)).bd fun xs => newL md xs w := by cases d <;> exact .trans rfl rfl
@[simp] theorem bq_all {d : D} : biF .all md [d] w = if isT d then .err else (R.of ((w.seq d).bind boolD)).bd fun xs => .ok (.bl (xs.all id), w) := by cases d <;> exact .trans rfl rfl
@[simp] theorem bq_any {d : D} : biF .any md [d] w = if isT d then .err else (R.of ((w.seq d).bind boolD)).bd fun xs => .ok (.bl (xs.any id), w) := by cases d <;> exact .trans rfl rfl
@[simp] theorem mq_append {o d : D} : meF .append o [d] w = (R.of (w.seq o)).bd fun xs => if xs.length < mxLen then (R.of (w.put o (xs ++ [d]))).bd fun w' => .ok (.non, w') else .err := .trans rfl rfl
@[simp] theorem mq_extend {o d : D} : meF .extend o [d] w = if isL d && !deq d o then (R.of (w.seq o)).bd fun xs => (R.of (w.seq d)).bd fun ys => if xs.length + ys.length ≤ mxLen then (R.of (w.put o (xs ++ ys))).bd fun w' => .ok (.non, w') else .err else .err := .trans rfl rfl
@[simp] theorem mq_pop {o : D} : meF .pop o [] w = (R.of (w.seq o)).bd fun xs => (R.of xs[xs.length - 1]?).bd fun y => (R.of (w.put o xs.dropLast)).bd fun w' => .ok (y, w') := .trans rfl rfl
@[simp] theorem me_popI {o : D} {i : Int} : meF .pop o [.int i] w = (R.of (w.seq o)).bd fun xs => (R.of (ixI xs.length i)).bd fun k => (R.of xs[k]?).bd fun y => (R.of (w.put o (xs.eraseIdx k))).bd fun w' => .ok (y, w') := .trans rfl rfl
/-! ### indices -/
theorem ixI_nat {n k : Nat} (h : k < n) : ixI n (k : Int) = some k := by
  unfold ixI
  rw [if_pos (by omega), if_pos (by omega)]
  simp
theorem ixI_pos {n : Nat} {i : Int} (h0 : 0 ≤ i) (h : i < n) : ixI n i = some i.toNat := by
  unfold ixI
  rw [if_pos h0, if_pos h]
theorem ixI_neg {n k : Nat} (h0 : 0 < k) (h : k ≤ n) : ixI n (-(k : Int)) = some (n - k) := by
  unfold ixI
  rw [if_neg (by omega), if_pos (by omega)]
  congr 1
  omega
@[simp] theorem ixI_0 {n : Nat} : ixI (n + 1) 0 = some 0 := ixI_nat (k := 0) (by omega)
@[simp] theorem ixI_1 {n : Nat} : ixI (n + 1 + 1) 1 = some 1 := ixI_nat (k := 1) (by omega)
@[simp] theorem ixI_2 {n : Nat} : ixI (n + 1 + 1 + 1) 2 = some 2 := ixI_nat (k := 2) (by omega)
@[simp] theorem ixI_3 {n : Nat} : ixI (n + 1 + 1 + 1 + 1) 3 = some 3 := ixI_nat (k := 3) (by omega)
theorem ixI_m1 {n : Nat} (h : 0 < n) : ixI n (-1) = some (n - 1) := ixI_neg (k := 1) (by omega) h
theorem ixI_m2 {n : Nat} (h : 1 < n) : ixI n (-2) = some (n - 2) := ixI_neg (k := 2) (by omega) h
end
/-! ### as data -/
section
variable {ρ γ : Nat → Option PyData}
theorem pyL_int : ∀ ns : List Int, pyL ρ γ (ns.map D.int) = some (ns.map PyData.int)
  | [] => rfl
  | n :: ns => by
    show (py ρ γ (.int n)).bind (fun y => (pyL ρ γ (ns.map D.int)).map fun ys => y :: ys) = _
    rw [pyL_int ns]
    rfl
end
theorem intD_map : ∀ ns : List Int, intD (ns.map D.int) = some ns
  | [] => rfl
  | n :: ns => by
    show (intD (ns.map D.int)).map (fun is => n :: is) = _
    rw [intD_map ns]
    rfl
end Fz

/-! Q20: plain data: as the model's data, alike, shown. -/
namespace Fz
open PySem
mutual
/-- data without own or shared lists as the model's data -/
def pd : D → PyData
  | .non => .none
  | .bl b => .bool b
  | .int i => .int i
  | .str s => .str s
  | .tup ds => .tuple (pds ds)
  | .lst ds => .list (pds ds)
  | .fl ds => .list (pds ds)
  | .sc ds => .list (pds ds)
  | .ref _ => .none
  | .g _ => .none
  | .dic _ _ => .dict []
def pds : List D → List PyData
  | [] => []
  | d :: ds => pd d :: pds ds
end
mutual
/-- plain, at most n deep, ints of at most k figures -/
def Pl (k : Nat) : Nat → D → Prop
  | _, .non => True
  | _, .bl _ => True
  | _, .int i => i.natAbs < 10 ^ k
  | _, .str s => PyData.strOk s = true
  | n, .tup ds => 0 < n ∧ Pls k (n - 1) ds
  | n, .lst ds => 0 < n ∧ Pls k (n - 1) ds
  | n, .fl ds => 0 < n ∧ Pls k (n - 1) ds
  | n, .sc ds => 0 < n ∧ Pls k (n - 1) ds
  | _, .ref _ => False
  | _, .g _ => False
  | _, .dic _ _ => False
def Pls (k : Nat) : Nat → List D → Prop
  | _, [] => True
  | n, d :: ds => Pl k n d ∧ Pls k n ds
end
mutual
/-- at most so long -/
def szB (k : Nat) : D → Nat
  | .str s => (reprText s).length
  | .int _ => k + 1
  | .tup ds => szBs k ds + 3
  | .lst ds => szBs k ds + 3
  | .fl ds => szBs k ds + 3
  | .sc ds => szBs k ds + 3
  | _ => 5
def szBs (k : Nat) : List D → Nat
  | [] => 0
  | d :: ds => szB k d + 2 + szBs k ds
end
section
variable {ρ γ : Nat → Option PyData} {k : Nat}
mutual
theorem py_pd : ∀ (d : D) (n : Nat), Pl k n d → py ρ γ d = some (pd d)
  | .non, _, _ => rfl
  | .bl _, _, _ => rfl
  | .int _, _, _ => rfl
  | .str _, _, _ => rfl
  | .tup ds, n, h => by show (pyL ρ γ ds).map PyData.tuple = _; rw [pyL_pd ds _ h.2]; rfl
  | .lst ds, n, h => by show (pyL ρ γ ds).map PyData.list = _; rw [pyL_pd ds _ h.2]; rfl
  | .fl ds, n, h => by show (pyL ρ γ ds).map PyData.list = _; rw [pyL_pd ds _ h.2]; rfl
  | .sc ds, n, h => by show (pyL ρ γ ds).map PyData.list = _; rw [pyL_pd ds _ h.2]; rfl
  | .ref _, _, h => False.elim h
  | .g _, _, h => False.elim h
  | .dic _ _, _, h => False.elim h
theorem pyL_pd : ∀ (ds : List D) (n : Nat), Pls k n ds → pyL ρ γ ds = some (pds ds)
  | [], _, _ => rfl
  | d :: ds, n, h => by
    show (py ρ γ d).bind (fun y => (pyL ρ γ ds).map fun ys => y :: ys) = _
    rw [py_pd d n h.1, pyL_pd ds n h.2]
    rfl
end
mutual
theorem pd_fit : ∀ (d : D) (n : Nat), Pl k n d → (pd d).canLay0 = true ∧ (pd d).depth ≤ n ∧ (k ≤ 4300 → canShow (pd d) = true)
  | .non, _, _ => ⟨rfl, Nat.zero_le _, fun _ => rfl⟩
  | .bl _, _, _ => ⟨rfl, Nat.zero_le _, fun _ => rfl⟩
  | .int i, _, h => ⟨rfl, Nat.zero_le _, fun hk => decide_eq_true (Nat.lt_of_lt_of_le (show i.natAbs < 10 ^ k from h) (Nat.pow_le_pow_right (by decide) hk))⟩
  | .str _, _, h => ⟨h, Nat.zero_le _, fun _ => rfl⟩
  | .tup ds, n, h => by
    obtain ⟨a, b, c⟩ := pds_fit ds _ h.2
    refine ⟨a, ?_, c⟩
    show PyData.depthAll (pds ds) + 1 ≤ n
    have := h.1
    omega
  | .lst ds, n, h => by
    obtain ⟨a, b, c⟩ := pds_fit ds _ h.2
    refine ⟨a, ?_, c⟩
    show PyData.depthAll (pds ds) + 1 ≤ n
    have := h.1
    omega
  | .fl ds, n, h => by
    obtain ⟨a, b, c⟩ := pds_fit ds _ h.2
    refine ⟨a, ?_, c⟩
    show PyData.depthAll (pds ds) + 1 ≤ n
    have := h.1
    omega
  | .sc ds, n, h => by
    obtain ⟨a, b, c⟩ := pds_fit ds _ h.2
    refine ⟨a, ?_, c⟩
    show PyData.depthAll (pds ds) + 1 ≤ n
    have := h.1
    omega
  | .ref _, _, h => False.elim h
  | .g _, _, h => False.elim h
  | .dic _ _, _, h => False.elim h
theorem pds_fit : ∀ (ds : List D) (n : Nat), Pls k n ds → PyData.canLayAll0 (pds ds) = true ∧ PyData.depthAll (pds ds) ≤ n ∧ (k ≤ 4300 → canShows (pds ds) = true)
  | [], _, _ => ⟨rfl, Nat.zero_le _, fun _ => rfl⟩
  | d :: ds, n, h => by
    obtain ⟨a, b, c⟩ := pd_fit d n h.1
    obtain ⟨a2, b2, c2⟩ := pds_fit ds n h.2
    refine ⟨?_, Nat.max_le.mpr ⟨b, b2⟩, fun hk => ?_⟩
    · show ((pd d).canLay0 && PyData.canLayAll0 (pds ds)) = true
      rw [a, a2]; rfl
    · show (canShow (pd d) && canShows (pds ds)) = true
      rw [c hk, c2 hk]; rfl
end
theorem textFrom_le : ∀ (ts : List Str) (j : Nat) (acc : Str), (textFrom j acc ts).length ≤ acc.length + piled ts
  | [], _, acc => by show acc.length ≤ _; omega
  | t :: r, j, acc => by
    have ih := textFrom_le r (j + 1) (acc ++ (if j > 0 then ", " else "" : String) ++ t)
    have e : (acc ++ (if j > 0 then ", " else "" : String) ++ t).length = acc.length + (if j > 0 then 2 else 0) + t.length := by
      rw [strLen_append, strLen_append]
      split <;> rfl
    rw [piled_cons]
    show (textFrom (j + 1) _ r).length ≤ _
    rw [e] at ih
    have : (if j > 0 then 2 else 0 : Nat) ≤ 2 := by split <;> omega
    omega
theorem int_len {i : Int} (hk : 0 < k) (h : i.natAbs < 10 ^ k) : (PyData.shown (.int i)).length ≤ k + 1 := by
  show (Str.ofString (toString i)).length ≤ k + 1
  by_cases h0 : 0 ≤ i
  · have := PyProof.Rows.toString_length_le h0 hk (by
      have e : i = (i.natAbs : Int) := by omega
      rw [e]
      exact_mod_cast h)
    omega
  · obtain ⟨n, rfl⟩ : ∃ n : Nat, i = Int.negSucc n := by cases i with
      | ofNat n => exact absurd (Int.natCast_nonneg n) h0
      | negSucc n => exact ⟨n, rfl⟩
    have e : toString (Int.negSucc n) = "-" ++ toString ((n + 1 : Nat) : Int) := rfl
    rw [e]
    have := PyProof.Rows.toString_length_le (v := ((n + 1 : Nat) : Int)) (by omega) hk (by
      have h : n + 1 < 10 ^ k := h
      exact_mod_cast h)
    rw [ofString_length] at this ⊢
    rw [String.length_append]
    have e2 : ("-" : String).length = 1 := rfl
    omega
mutual
theorem shown_le (hk : 0 < k) : ∀ (d : D) (n : Nat), Pl k n d → (pd d).shown.length ≤ szB k d
  | .non, _, _ => by show ("None" : Str).length ≤ 5; decide
  | .bl b, _, _ => by cases b <;> (show _ ≤ 5; decide)
  | .int i, _, h => int_len hk h
  | .str s, _, _ => Nat.le_refl _
  | .tup ds, n, h => by
    have := showns_le hk ds _ h.2
    show (tupleText (PyData.shownAll (pds ds))).length ≤ szBs k ds + 3
    unfold tupleText
    rw [strLen_append, strLen_append]
    have e1 : ("(" : Str).length = 1 := rfl
    have e2 : ((if (PyData.shownAll (pds ds)).length == 1 then ",)" else ")" : String) : Str).length ≤ 2 := by split <;> decide
    have e3 : (Str.join ", " (PyData.shownAll (pds ds))).length ≤ piled (PyData.shownAll (pds ds)) := by
      by_cases q : PyData.shownAll (pds ds) = []
      · rw [q]; exact Nat.le_refl _
      · have := join_length_add _ q
        omega
    omega
  | .lst ds, n, h => by
    have := showns_le hk ds _ h.2
    show (textFrom 0 "[" (PyData.shownAll (pds ds)) ++ "]").length ≤ szBs k ds + 3
    rw [strLen_append]
    have := textFrom_le (PyData.shownAll (pds ds)) 0 "["
    have e1 : ("[" : Str).length = 1 := rfl
    have e2 : ("]" : Str).length = 1 := rfl
    omega
  | .fl ds, n, h => by
    have := showns_le hk ds _ h.2
    show (textFrom 0 "[" (PyData.shownAll (pds ds)) ++ "]").length ≤ szBs k ds + 3
    rw [strLen_append]
    have := textFrom_le (PyData.shownAll (pds ds)) 0 "["
    have e1 : ("[" : Str).length = 1 := rfl
    have e2 : ("]" : Str).length = 1 := rfl
    omega
  | .sc ds, n, h => by
    have := showns_le hk ds _ h.2
    show (textFrom 0 "[" (PyData.shownAll (pds ds)) ++ "]").length ≤ szBs k ds + 3
    rw [strLen_append]
    have := textFrom_le (PyData.shownAll (pds ds)) 0 "["
    have e1 : ("[" : Str).length = 1 := rfl
    have e2 : ("]" : Str).length = 1 := rfl
    omega
  | .ref _, _, h => False.elim h
  | .g _, _, h => False.elim h
  | .dic _ _, _, h => False.elim h
theorem showns_le (hk : 0 < k) : ∀ (ds : List D) (n : Nat), Pls k n ds → piled (PyData.shownAll (pds ds)) ≤ szBs k ds
  | [], _, _ => Nat.le_refl _
  | d :: ds, n, h => by
    have h1 := shown_le hk d n h.1
    have h2 := showns_le hk ds n h.2
    show piled ((pd d).shown :: PyData.shownAll (pds ds)) ≤ szB k d + 2 + szBs k ds
    rw [piled_cons]
    omega
end
variable {w : Wd} {n : Nat} {d e : D}
theorem py_of (h : Pl k n d) : w.py d = some (pd d) := py_pd d n h
/-- its text -/
theorem repr_of {md : Nat} (h : Pl k n d) (hk : 0 < k) (hk2 : k ≤ 4300) (hn : n ≤ 60) (hz : szB k d ≤ 1000000) : biF .repr md [d] w = .ok (.str (pd d).shown, w) := by
  obtain ⟨a, b, c⟩ := pd_fit d n h
  rw [bq_repr, py_of h, R.of_some, R.bd_ok]
  have : reprOk (pd d) = true := by
    unfold reprOk
    rw [c hk2, decide_eq_true (Nat.le_trans b hn), decide_eq_true (show (pd d).shown.length ≤ mxLen from Nat.le_trans (shown_le hk d n h) hz)]
    rfl
  rw [if_pos this]
theorem eqF_plain (h : Pl k n d) (h2 : Pl k n e) (hn : n ≤ 64) : eqF d e w = some (PyData.eqv (pd d) (pd e)) := by
  have s1 : SeqAt.shaped (pd d) = true := by
    obtain ⟨a, b, c⟩ := pd_fit d n h
    show ((pd d).canLay0 && decide _) = true
    rw [a, decide_eq_true (Nat.le_trans b hn)]; rfl
  have s2 : SeqAt.shaped (pd e) = true := by
    obtain ⟨a, b, c⟩ := pd_fit e n h2
    show ((pd e).canLay0 && decide _) = true
    rw [a, decide_eq_true (Nat.le_trans b hn)]; rfl
  have gen : ((w.py d).bind fun a => (w.py e).bind fun b => if SeqAt.shaped a && SeqAt.shaped b then some (PyData.eqv a b) else none) = some (PyData.eqv (pd d) (pd e)) := by
    rw [py_of h, py_of h2]
    show (if (SeqAt.shaped (pd d) && SeqAt.shaped (pd e)) = true then _ else _) = _
    rw [s1, s2]; rfl
  cases d with
  | int i => cases e with
    | int j => show some (decide (i = j)) = some (PyData.eqv (.int i) (.int j)); rw [PyData.eqv]; congr 1
    | _ => exact gen
  | str i => cases e with
    | str j => show some (decide (i = j)) = some (PyData.eqv (.str i) (.str j)); rw [PyData.eqv]; congr 1
    | _ => exact gen
  | _ => exact gen
theorem eqv_same {n : Nat} (h : Pl k n d) : PyData.eqv (pd d) (pd d) = true := SeqAt.eqv_refl_plain _ (PyData.plain_of_canLay0 _ (pd_fit d n h).1)
theorem eq_same (h : Pl k n d) (h2 : Pl k n e) (hn : n ≤ 64) (he : pd d = pd e) : cmF .eq d e w = some true := by
  show eqF d e w = _
  rw [eqF_plain h h2 hn, ← he, eqv_same h]
theorem ne_same (h : Pl k n d) (h2 : Pl k n e) (hn : n ≤ 64) (he : pd d = pd e) : cmF .ne d e w = some false := by
  show (eqF d e w).map (fun b => !b) = _
  rw [eqF_plain h h2 hn, ← he, eqv_same h]
  rfl
end
/-! ### simp rules -/
section
variable {k n : Nat}
@[simp] theorem Pl_non : Pl k n .non ↔ True := Iff.rfl
@[simp] theorem Pl_bl {b : Bool} : Pl k n (.bl b) ↔ True := Iff.rfl
@[simp] theorem Pl_int {b : Int} : Pl k n (.int b) ↔ b.natAbs < 10 ^ k := by unfold Pl; exact Iff.rfl
@[simp] theorem Pl_tup {ds : List D} : Pl k (n + 1) (.tup ds) ↔ Pls k n ds := ⟨fun h => h.2, fun h => ⟨Nat.zero_lt_succ _, h⟩⟩
@[simp] theorem Pl_lst {ds : List D} : Pl k (n + 1) (.lst ds) ↔ Pls k n ds := ⟨fun h => h.2, fun h => ⟨Nat.zero_lt_succ _, h⟩⟩
@[simp] theorem Pl_fl {ds : List D} : Pl k (n + 1) (.fl ds) ↔ Pls k n ds := ⟨fun h => h.2, fun h => ⟨Nat.zero_lt_succ _, h⟩⟩
@[simp] theorem Pls_nil : Pls k n [] ↔ True := Iff.rfl
@[simp] theorem Pls_cons {d : D} {ds : List D} : Pls k n (d :: ds) ↔ Pl k n d ∧ Pls k n ds := Iff.rfl
theorem Pls_all {ds : List D} (h : ∀ d ∈ ds, Pl k n d) : Pls k n ds := by
  induction ds with
  | nil => trivial
  | cons d ds ih => exact ⟨h d List.mem_cons_self, ih fun e he => h e (List.mem_cons_of_mem _ he)⟩
theorem pds_map (ds : List D) : pds ds = ds.map pd := by
  induction ds with
  | nil => rfl
  | cons d ds ih => show pd d :: pds ds = _; rw [ih]; rfl
theorem szBs_le {ds : List D} {c : Nat} (h : ∀ d ∈ ds, szB k d ≤ c) : szBs k ds ≤ ds.length * (c + 2) := by
  induction ds with
  | nil => exact Nat.zero_le _
  | cons d ds ih =>
    have h1 := h d List.mem_cons_self
    have h2 := ih fun e he => h e (List.mem_cons_of_mem _ he)
    show szB k d + 2 + szBs k ds ≤ (ds.length + 1) * (c + 2)
    rw [Nat.add_mul, Nat.one_mul]
    omega
end
@[simp] theorem mx_le {n : Nat} (h : n ≤ 100000) : (n ≤ mxLen) = True := eq_true (Nat.le_trans h (by decide))
@[simp] theorem mx_lt {n : Nat} (h : n ≤ 100000) : (n < mxLen) = True := eq_true (Nat.lt_of_le_of_lt h (by decide))
end Fz

/-! Q21: the pot of laws k01 to k19, k90 to k99. -/
namespace Fz
open PySem
theorem exB_step {P : Pg} {s : S} {r : List S} {w w' : Wd} (h : exS P s w = .ok (.nx, w')) : exB P (s :: r) w = exB P r w' := by
  rw [exB_cons, h]
  rfl
theorem rngL_map : ∀ (n : Nat) (lo : Int), rngL lo n = (List.range n).map fun j : Nat => D.int (lo + j)
  | 0, _ => rfl
  | n + 1, lo => by
    rw [List.range_succ_eq_map, List.map_cons, List.map_map, rngL, rngL_map n (lo + 1)]
    congr 1
    · simp
    · refine List.map_congr_left fun j _ => ?_
      show D.int _ = D.int _
      congr 1
      push_cast
      omega
theorem rngL_map0 (n : Nat) : rngL 0 n = (List.range n).map fun j : Nat => D.int j := by
  rw [rngL_map]
  exact List.map_congr_left fun j _ => by rw [Int.zero_add]
theorem op_mulL {xs : List D} {j : Nat} {w : Wd} {md : Nat} (hj : j ≤ 1000000000) (h : xs.length * j ≤ mxLen) : opF .mul md (.lst xs) (.int j) w = newL md (List.replicate j xs).flatten w := by
  have hd : -(2 ^ 63) ≤ (j : Int) ∧ (j : Int) < 2 ^ 63 := by omega
  unfold opF
  simp only [isL_lst, hd, decide_true, Bool.and_self, if_true, seq_lst, R.of_some, R.bd_ok, Int.toNat_natCast, h, and_self]
/-- the pot's making; s0, s1: the law's own seeds -/
def potB (s0 s1 : Int) : List S := [
  .set (.tu [.nm 1, .nm 2]) (.tup (.cons (.co 0 (.nm 3) (.seq (.sl 0 (.v 0) .no (.so (.k (.int 63))))) .no (.op .add 0 (.op .mul 0 (.k (.int 2)) (.bi .abs 0 (.cons (.v 3) .nil))) (.bi .int 0 (.cons (.cm .lt (.v 3) (.k (.int 0))) .nil))) [3]) (.cons (.op .add 0 (.k (.int s0)) (.op .mul 0 (.k (.int s1)) (.bi .len 0 (.cons (.v 0) .nil)))) .nil))),
  .for (.nm 3) (.seq (.v 1)) [
    .set (.nm 2) (.op .mod 0 (.op .add 0 (.op .add 0 (.op .mul 0 (.v 2) (.k (.int 69069))) (.v 3)) (.k (.int 11))) (.k (.int 4294967291)))] [3] false,
  .ret (.lst 2 (.cons (.co 2 (.nm 3) (.seq (.v 1)) (.so (.cm .gt (.v 3) (.op .pow 0 (.k (.int 10)) (.k (.int 12))))) (.v 3) [3]) (.cons (.v 2) (.cons (.k (.int 0)) .nil))))]
def ofB : List S := [
  .ite (.cm .lt (.v 1) (.k (.int 2))) [
    .ret (.k (.int 0))] [],
  .ite (.cm .ne (.ix (.v 0) (.k (.int 0))) (.lst 0 .nil)) [
    .set (.nm 2) (.me .pop (.ix (.v 0) (.k (.int 0))) .nil),
    .ite (.cm .ge (.v 2) (.v 1)) [
      .ex (.me .append (.ix (.v 0) (.k (.int 0))) (.cons (.op .fdiv 0 (.v 2) (.v 1)) .nil))] [],
    .ret (.op .mod 0 (.v 2) (.v 1))] [],
  .put (.v 0) (.k (.int 2)) (.op .add 1 (.ix (.v 0) (.k (.int 2))) (.k (.int 1))),
  .set (.nm 3) (.op .mod 0 (.op .add 0 (.ix (.v 0) (.k (.int 1))) (.op .mul 0 (.ix (.v 0) (.k (.int 2))) (.k (.int 2654435761)))) (.k (.int 4294967279))),
  .set (.nm 3) (.op .mod 0 (.op .add 0 (.op .add 0 (.op .mul 0 (.v 3) (.v 3)) (.op .mul 0 (.ix (.v 0) (.k (.int 2))) (.k (.int 40503)))) (.k (.int 5))) (.k (.int 4294967231))),
  .set (.nm 3) (.op .mod 0 (.op .add 0 (.op .mul 0 (.v 3) (.v 3)) (.ix (.v 0) (.k (.int 1)))) (.k (.int 4294967291))),
  .ret (.op .mod 0 (.op .fdiv 0 (.v 3) (.k (.int 256))) (.v 1))]
def oneB (j : Nat) : List S := [
  .ret (.ix (.v 1) (.call j none (.cons (.v 0) (.cons (.bi .len 0 (.cons (.v 1) .nil)) .nil)) .nil))]
/-- the shared lists are a pot's -/
def Pot (g : List (List D)) : Prop := ∃ (cs : List Int) (a b : Int), g = [cs.map D.int, [.g 0, .int a, .int b]] ∧ cs.length ≤ 63
@[simp] theorem gOk_ints (cs : List Int) : (cs.map D.int).all gOk = true := by
  rw [List.all_eq_true]
  intro d hd
  obtain ⟨n, _, rfl⟩ := List.mem_map.mp hd
  rfl
theorem cut_to {α : Type} {xs : List α} {k : Nat} : cut xs none (some (k : Int)) = xs.take k := by
  unfold cut
  rw [HT.sIx_none, HT.sIx_nat, List.drop_zero, Nat.sub_zero]
  by_cases h : k ≤ xs.length
  · rw [Nat.min_eq_left h]
  · rw [Nat.min_eq_right (by omega), List.take_length, List.take_of_length_le (by omega)]
theorem cut_from {α : Type} {xs : List α} {k : Nat} : cut xs (some (k : Int)) none = xs.drop k := by
  unfold cut
  rw [HT.sIx_none, HT.sIx_nat]
  by_cases h : k ≤ xs.length
  · rw [Nat.min_eq_left h, List.take_of_length_le (by rw [List.length_drop]; omega)]
  · rw [Nat.min_eq_right (by omega), Nat.sub_self, List.take_zero, List.drop_eq_nil_of_le (by omega)]
theorem cut_mid {α : Type} {xs : List α} {j k : Nat} : cut xs (some (j : Int)) (some (k : Int)) = (xs.take k).drop j := by
  unfold cut
  rw [HT.sIx_nat, HT.sIx_nat, List.drop_take]
  by_cases h : j ≤ xs.length
  · rw [Nat.min_eq_left h]
    by_cases h2 : k ≤ xs.length
    · rw [Nat.min_eq_left h2]
    · rw [Nat.min_eq_right (by omega), List.take_of_length_le (by rw [List.length_drop]; omega), List.take_of_length_le (by rw [List.length_drop]; omega)]
  · rw [Nat.min_eq_right (a := j) (by omega), List.drop_eq_nil_of_le (Nat.le_refl _), List.drop_eq_nil_of_le (i := j) (by omega), List.take_nil, List.take_nil]
theorem fmod_lt {a b : Int} (h : 0 < b) : 0 ≤ a.fmod b ∧ a.fmod b < b := ⟨Int.fmod_nonneg_of_pos a h, Int.fmod_lt_of_pos a h⟩
theorem divOk_s {i j : Int} (h : 0 < j) (h2 : j < 1073741824) : divOk i j = true := by
  unfold divOk
  rw [decide_eq_true (show j ≠ 0 by omega), decide_eq_true (show j.natAbs < 1073741824 by omega)]
  rfl
theorem ne_nil_g {w : Wd} {k : Nat} {cs : List Int} (h : w.g[k]? = some (cs.map D.int)) (hc : cs.length ≤ 100) : cmF .ne (.g k) (.lst []) w = some (!cs.isEmpty) := by
  have h0 : w.py (.g k) = some (.list (cs.map PyData.int)) := by
    show pyR w (3 + 1) false k = _
    unfold pyR
    rw [if_neg (by decide), h]
    show (pyL _ _ (cs.map D.int)).map PyData.list = _
    rw [pyL_int]
    rfl
  have h1 : w.py (.lst []) = some (.list []) := rfl
  show ((w.py (.g k)).bind fun a => (w.py (.lst [])).bind fun b => if SeqAt.shaped a && SeqAt.shaped b then some (PyData.eqv a b) else none).map (fun b => !b) = _
  rw [h0, h1]
  have s1 : SeqAt.shaped (.list (cs.map PyData.int)) = true := by
    have l : ∀ cs : List Int, PyData.canLayAll0 (cs.map PyData.int) = true := by
      intro cs
      induction cs with
      | nil => rfl
      | cons c cs ih => show (true && PyData.canLayAll0 (cs.map PyData.int)) = true; rw [ih]; rfl
    have d : ∀ cs : List Int, PyData.depthAll (cs.map PyData.int) = 0 := by
      intro cs
      induction cs with
      | nil => rfl
      | cons c cs ih => show max 0 (PyData.depthAll (cs.map PyData.int)) = 0; rw [ih]; rfl
    show (PyData.canLayAll0 (cs.map PyData.int) && decide (PyData.depthAll (cs.map PyData.int) + 1 ≤ 64)) = true
    rw [l, d]; rfl
  show (if (SeqAt.shaped (.list (cs.map PyData.int)) && SeqAt.shaped (.list [])) = true then some (PyData.eqv (.list (cs.map PyData.int)) (.list [])) else none).map (fun b => !b) = _
  rw [s1]
  cases cs with
  | nil => rfl
  | cons n ns => rfl
section
variable {P : Pg}
def nx1 (a b : Int) : Int := (a + (b + 1) * 2654435761).fmod 4294967279
def nx2 (a b : Int) : Int := (nx1 a b * nx1 a b + (b + 1) * 40503 + 5).fmod 4294967231
def nx3 (a b : Int) : Int := (nx2 a b * nx2 a b + a).fmod 4294967291
theorem of_nil {a b m : Int} (h1 : ¬ m < 2) (h2 : m < 1073741824) : exD P 4 ofB [.g 1, .int m] [[], [.g 0, .int a, .int b]] = .ok (.int (((nx3 a b).fdiv 256).fmod m), [[], [.g 0, .int a, .int (b + 1)]]) := by
  have n0 : ∀ σ m, cmF .ne (.g 0) (.lst []) ⟨σ, m, [[], [.g 0, .int a, .int b]]⟩ = some false := fun σ m => ne_nil_g (cs := []) rfl (by decide)
  have m0 : ¬ m = 0 := by omega
  have e1 : mulOk (b + 1) 2654435761 = true := mulOk_r (by omega)
  have e2 : mulOk (b + 1) 40503 = true := mulOk_r (by omega)
  have e3 : mulOk (nx1 a b) (nx1 a b) = true := mulOk_r (by have := fmod_lt (a := a + (b + 1) * 2654435761) (b := 4294967279) (by decide); unfold nx1; omega)
  have e4 : mulOk (nx2 a b) (nx2 a b) = true := mulOk_r (by have := fmod_lt (a := nx1 a b * nx1 a b + (b + 1) * 40503 + 5) (b := 4294967231) (by decide); unfold nx2; omega)
  have e5 : divOk (nx3 a b) 256 = true := divOk_s (by decide) (by decide)
  have e6 : (a + (b + 1) * 2654435761).fmod 4294967279 = nx1 a b := rfl
  have e7 : (nx1 a b * nx1 a b + (b + 1) * 40503 + 5).fmod 4294967231 = nx2 a b := rfl
  have e8 : (nx2 a b * nx2 a b + a).fmod 4294967291 = nx3 a b := rfl
  rw [exD_ok]; simp [exO, ofB, h1, newL_0, n0, m0, e1, e2, e3, e4, e5, e6, e7, e8, gOk]
theorem of_cons {a b m c : Int} {cs : List Int} (h1 : ¬ m < 2) (h2 : m < 1073741824) (hc : cs.length < 63) : exD P 4 ofB [.g 1, .int m] [(cs ++ [c]).map D.int, [.g 0, .int a, .int b]] = .ok (.int (c.fmod m), [(if m ≤ c then cs ++ [c.fdiv m] else cs).map D.int, [.g 0, .int a, .int b]]) := by
  have n0 : ∀ σ m, cmF .ne (.g 0) (.lst []) ⟨σ, m, [cs.map D.int ++ [.int c], [.g 0, .int a, .int b]]⟩ = some true := fun σ m => by
    have := ne_nil_g (w := ⟨σ, m, [(cs ++ [c]).map D.int, [.g 0, .int a, .int b]]⟩) (k := 0) (cs := cs ++ [c]) rfl (by simp; omega)
    rw [show (!(cs ++ [c]).isEmpty) = true by cases cs <;> rfl] at this
    simpa using this
  have m0 : ¬ m = 0 := by omega
  have e5 : divOk c m = true := divOk_s (by omega) h2
  have l : cs.length < mxLen := Nat.lt_trans hc (by decide)
  have g0 : ∀ d ∈ cs.map D.int, gOk d = true := fun d hd => List.all_eq_true.mp (gOk_ints cs) d hd
  have g1 : ∀ c : Int, (cs.map D.int ++ [D.int c]).all gOk = true := fun c => by rw [List.all_append, gOk_ints]; rfl
  by_cases q : m ≤ c
  · rw [exD_ok]; simp [exO, ofB, h1, newL_0, n0, m0, e5, q, gOk, l]
  · rw [exD_ok]; simp [exO, ofB, h1, newL_0, n0, m0, e5, q, gOk, l]
theorem of_ok {g : List (List D)} (h : Pot g) {m : Int} (h1 : 1 ≤ m) (h2 : m < 1073741824) : ∃ r g', exD P 4 ofB [.g 1, .int m] g = .ok (.int r, g') ∧ Pot g' ∧ 0 ≤ r ∧ r < m := by
  obtain ⟨cs, a, b, rfl, hc⟩ := h
  by_cases hm : m < 2
  · refine ⟨0, _, ?_, ⟨cs, a, b, rfl, hc⟩, by omega, by omega⟩
    rw [exD_ok]; simp [exO, ofB, hm]
  · rcases List.eq_nil_or_concat cs with rfl | ⟨cs, c, rfl⟩
    · exact ⟨_, _, of_nil hm h2, ⟨[], a, b + 1, rfl, hc⟩, fmod_lt (by omega)⟩
    · rw [List.concat_eq_append, List.length_append, List.length_singleton] at hc
      rw [List.concat_eq_append]
      refine ⟨_, _, of_cons hm h2 (by omega), ⟨_, a, b, rfl, ?_⟩, fmod_lt (by omega)⟩
      split
      · rw [List.length_append, List.length_singleton]; omega
      · omega
theorem one_ok {j : Nat} {P2 : Pg} (hj : P.F j = exD P2 4 ofB) {g : List (List D)} (h : Pot g) {ds : List D} (h0 : 0 < ds.length) (h1 : ds.length < 1000000) (hr : okRets ds = true) :
    ∃ (i : Nat) (hi : i < ds.length) (g' : List (List D)), exD P 2 (oneB j) [.g 1, .lst ds] g = .ok (ds[i], g') ∧ Pot g' := by
  obtain ⟨r, g', e, hp, r0, r1⟩ := of_ok (P := P2) h (m := ds.length) (by omega) (by omega)
  obtain ⟨i, rfl⟩ : ∃ i : Nat, r = (i : Int) := ⟨r.toNat, by omega⟩
  have hi : i < ds.length := by omega
  refine ⟨i, hi, g', ?_, hp⟩
  have e2 : P.F j [.g 1, .int ds.length] g = .ok (.int i, g') := by rw [hj]; exact e
  have e3 : ds[i]? = some ds[i] := List.getElem?_eq_getElem hi
  have e4 : ∀ w, give w ds[i] = some ds[i] := fun w => rs_ok _ (okRets_mem hr _ (List.getElem_mem hi))
  rw [exD_ok]; simp only [exO, oneB]
  simp [e2, ixI_nat hi, rsL_ok ds hr, -give_eq, e4, e3]
end
section
variable {P : Pg} {s0 s1 : Int}
def potC (ns : List Int) : List Int := (ns.take 63).map fun n => 2 * (if n < 0 then -n else n) + if n < 0 then 1 else 0
def potM (s : Int) (cs : List Int) : Int := cs.foldl (fun a c => (a * 69069 + c + 11).fmod 4294967291) s
theorem pot_ok (h0 : -1000000 < s1 ∧ s1 < 1000000) {ns : List Int} (hn : ns.length ≤ 63) : ∃ g', exD P 4 (potB s0 s1) [.sc (ns.map D.int)] [] = .ok (.g 1, g') ∧ Pot g' := by
  have c63 : cut (ns.map D.int) none (some 63) = (ns.take 63).map D.int := by
    rw [show (some 63 : Option Int) = some ((63 : Nat) : Int) from rfl, cut_to, List.map_take]
  have len : (potC ns).length ≤ 63 := by unfold potC; rw [List.length_map, List.length_take]; omega
  -- the cells
  have L1 : ∀ (s : D), coL (asg (.nm 3)) (evC P .no) (evE P (.op .add 0 (.op .mul 0 (.k (.int 2)) (.bi .abs 0 (.cons (.v 3) .nil))) (.bi .int 0 (.cons (.cm .lt (.v 3) (.k (.int 0))) .nil)))) (fun _ => true) [3] [some s, none, none, none] ((ns.take 63).map D.int) ⟨[some s, none, none, none], [], []⟩ [] = .ok ((potC ns).map D.int, ⟨[some s, none, none, none], [], []⟩) := by
    intro s
    have e : mulOk 2 = fun _ => true := funext fun i => mulOk_l (by decide)
    rw [coL_map (fun d => match d with | .int n => .int (2 * (if n < 0 then -n else n) + if n < 0 then 1 else 0) | _ => .non) ((ns.take 63).map D.int) [] (Nat.le_trans (m := 63) (by simp; omega) (by decide)) (fun x hx r acc hacc => by
        obtain ⟨n, _, rfl⟩ := List.mem_map.mp hx
        simp [coL_cons, e, hacc])]
    unfold potC
    rw [List.map_map, List.map_map, List.nil_append]
    rfl
  -- the mixing
  have L2 : ∀ (s : D) (c : List D) (cs : List Int) (a : Int), forL (asg (.nm 3)) (exB P [.set (.nm 2) (.op .mod 0 (.op .add 0 (.op .add 0 (.op .mul 0 (.v 2) (.k (.int 69069))) (.v 3)) (.k (.int 11))) (.k (.int 4294967291)))]) (postF [3] false 0) (fun _ => true) (cs.map D.int) ⟨[some s, some (.lst c), some (.int a), none], [], []⟩ = .ok (.nx, ⟨[some s, some (.lst c), some (.int (potM a cs)), none], [], []⟩) := by
    intro s c cs
    induction cs with
    | nil => intro a; rfl
    | cons x cs ih =>
      intro a
      have e : mulOk a 69069 = true := mulOk_r (by decide)
      have := ih ((a * 69069 + x + 11).fmod 4294967291)
      simp [forL_cons, e]
      rw [this]
      rfl
  -- the great ones
  have L3 : ∀ (σ : List (Option D)) (cs : List Int), cs.length ≤ 63 → σ.length = 4 → coL (asg (.nm 3)) (evC P (.so (.cm .gt (.v 3) (.op .pow 0 (.k (.int 10)) (.k (.int 12)))))) (evE P (.v 3)) (fun _ => true) [3] σ (cs.map D.int) ⟨σ, [], []⟩ [] = .ok ((cs.filter fun c => 1000000000000 < c).map D.int, ⟨σ, [], []⟩) := by
    intro σ cs hc hl
    have e : powOk 10 12 = true := by decide
    match σ, hl with
    | [a, b, c, d], _ =>
      rw [coL_filter (fun d => match d with | .int n => decide (1000000000000 < n) | _ => false) id (cs.map D.int) [] (Nat.le_trans (m := 63) (by simp; omega) (by decide)) (fun x hx r acc hacc => by
        obtain ⟨n, _, rfl⟩ := List.mem_map.mp hx
        by_cases q : 1000000000000 < n <;> simp [coL_cons, e, hacc, q])]
      rw [List.nil_append, List.map_id, List.filter_map]
      rfl
  have m1 : mulOk s1 ns.length = true := mulOk_l (by omega)
  have hl : ∀ (p : Int → Bool), ((potC ns).filter p).length ≤ 63 := fun p => Nat.le_trans (List.length_filter_le _ _) len
  have q1 : ((ns.take 63).map D.int).length ≤ 100000 := by rw [List.length_map, List.length_take]; omega
  refine ⟨[((potC ns).filter fun c => decide (1000000000000 < c)).map D.int, [.g 0, .int (potM (s0 + s1 * ns.length) (potC ns)), .int 0]], ?_, ⟨_, _, _, rfl, hl (fun c => decide (1000000000000 < c))⟩⟩
  have l1 := L1 (.sc (ns.map D.int))
  have n1 : ∀ w, newL 0 (List.take 63 (ns.map D.int)) w = .ok (.lst (List.take 63 (ns.map D.int)), w) := fun w => newL_0 (le_mx (by rw [List.length_take]; omega))
  have n2 : ∀ w, newL 0 ((potC ns).map D.int) w = .ok (.lst ((potC ns).map D.int), w) := fun w => newL_0 (le_mx (by rw [List.length_map]; omega))
  have n3 : ∀ w, newL 2 (((potC ns).filter fun c => decide (1000000000000 < c)).map D.int) w = .ok (.g w.g.length, { w with g := w.g ++ [((potC ns).filter fun c => decide (1000000000000 < c)).map D.int] }) := fun w => newL_2 (le_mx (by rw [List.length_map]; exact Nat.le_trans (hl _) (by decide))) (gOk_ints _)
  have l3 := fun σ h => L3 σ (potC ns) len h
  simp only [List.map_take] at l1 c63
  have n4 : ∀ (w : Wd) a, newL 2 [.g 0, .int a, .int 0] w = .ok (.g w.g.length, { w with g := w.g ++ [[.g 0, .int a, .int 0]] }) := fun w a => newL_2 (le_mx (show 3 ≤ 100000 by decide)) rfl
  rw [exD_ok]; simp [exO, potB, c63, newT_ok', m1, n1, n2, n3, n4, l1, L2, l3]
end
end Fz

/-! Q22: while loops; the bag of laws k50 to k65, k81 to k89. -/
namespace Fz
open PySem
theorem whlL_dec {test : Wd → R (Bool × Wd)} {body : Wd → R (Fl × Wd)} {post : Wd → Option Wd} (I J : Wd → Prop) (μ : Wd → Nat)
    (h : ∀ w, I w → (∃ w', test w = .ok (false, w') ∧ J w') ∨ ∃ w1 w2 w3, test w = .ok (true, w1) ∧ body w1 = .ok (.nx, w2) ∧ post w2 = some w3 ∧ I w3 ∧ μ w3 < μ w) :
    ∀ (n : Nat) (w : Wd), μ w < n → I w → ∃ w', whlL test body post n w = .ok (.nx, w') ∧ J w'
  | 0, _, hn, _ => absurd hn (Nat.not_lt_zero _)
  | n + 1, w, hn, hi => by
    rcases h w hi with ⟨w', e, j⟩ | ⟨w1, w2, w3, e1, e2, e3, i3, d⟩
    · refine ⟨w', ?_, j⟩
      show (test w).bd _ = _
      rw [e]
      rfl
    · obtain ⟨w', e4, j⟩ := whlL_dec I J μ h n w3 (by omega) i3
      refine ⟨w', ?_, j⟩
      show (test w).bd _ = _
      rw [e1, R.bd_ok]
      show (body w1).bd _ = _
      rw [e2, R.bd_ok]
      show (R.of (post w2)).bd _ = _
      rw [e3]
      exact e4
theorem divOk_m {i j : Int} (h : 0 < j) (h2 : j < 1606938044258990275541962092341162602522202993782792835301376) : divOk i j = true := by
  unfold divOk
  have : Builtin.divisionGoesByPylong i j = false := PyProof.noPylong_of_log2 (by
    have hz : j.natAbs ≠ 0 := by omega
    have : j.natAbs.log2 < 200 := (Nat.log2_lt hz).mpr (by omega)
    omega)
  rw [decide_eq_true (show j ≠ 0 by omega), this]
  simp
def bagB_0 : List S := [
  .set (.nm 3) (.op .mod 0 (.bi .int 0 (.cons (.op .add 0 (.op .add 0 (.op .mul 0 (.v 3) (.k (.int 48271))) (.op .mod 0 (.bi .int 0 (.cons (.v 2) .nil)) (.k (.int 2147483629)))) (.k (.int 5))) .nil)) (.k (.int 2147483647)))]
def bagB : List S := [
  .set (.nm 1) (.co 0 (.nm 2) (.seq (.sl 0 (.v 0) .no (.so (.k (.int 63))))) .no (.bi .abs 0 (.cons (.v 2) .nil)) [2]),
  .set (.nm 3) (.op .add 0 (.k (.int 17539)) (.bi .len 0 (.cons (.v 1) .nil))),
  .for (.nm 2) (.seq (.v 1)) bagB_0 [2] false,
  .ret (.lst 2 (.cons (.rev 2 (.v 1)) (.cons (.k (.int 0)) (.cons (.v 3) .nil))))]
def drawB_0 : List S := [
  .set (.nm 2) (.me .pop (.ix (.v 0) (.k (.int 0))) .nil),
  .put (.v 0) (.k (.int 1)) (.ite (.cm .gt (.v 2) (.op .pow 0 (.k (.int 10)) (.k (.int 9)))) (.v 2) (.k (.int 0)))]
def drawB : List S := [
  .whl (.an (.cm .eq (.ix (.v 0) (.k (.int 1))) (.k (.int 0))) (.cm .ne (.ix (.v 0) (.k (.int 0))) (.lst 0 .nil))) drawB_0 [2] true,
  .ite (.cm .gt (.ix (.v 0) (.k (.int 1))) (.k (.int 0))) [
    .set (.nm 3) (.op .mod 0 (.bi .int 0 (.cons (.ix (.v 0) (.k (.int 1))) .nil)) (.v 1)),
    .put (.v 0) (.k (.int 1)) (.op .fdiv 1 (.ix (.v 0) (.k (.int 1))) (.v 1)),
    .ret (.v 3)] [],
  .put (.v 0) (.k (.int 2)) (.op .mod 1 (.bi .int 0 (.cons (.op .add 0 (.op .mul 0 (.ix (.v 0) (.k (.int 2))) (.k (.int 48271))) (.k (.int 13))) .nil)) (.k (.int 2147483647))),
  .ret (.op .mod 0 (.bi .int 0 (.cons (.op .fdiv 0 (.op .mod 0 (.bi .int 0 (.cons (.op .mul 0 (.ix (.v 0) (.k (.int 2))) (.ix (.v 0) (.k (.int 2)))) .nil)) (.k (.int 2147483629))) (.k (.int 7))) .nil)) (.v 1))]
/-- the shared lists are a bag's -/
def Bag (g : List (List D)) : Prop := ∃ (cs : List Int) (a b : Int), g = [cs.map D.int, [.g 0, .int a, .int b]] ∧ cs.length ≤ 63
section
variable {P : Pg}
theorem draw_ok {g : List (List D)} (h : Bag g) {m : Int} (h1 : 1 ≤ m) (h2 : m < 1606938044258990275541962092341162602522202993782792835301376) : ∃ r g', exD P 4 drawB [.g 1, .int m] g = .ok (.int r, g') ∧ Bag g' ∧ 0 ≤ r ∧ r < m := by
  obtain ⟨w, e, cs, a, b, rfl, hc⟩ := whlL_dec (test := evT P (.an (.cm .eq (.ix (.v 0) (.k (.int 1))) (.k (.int 0))) (.cm .ne (.ix (.v 0) (.k (.int 0))) (.lst 0 .nil)))) (body := exB P drawB_0) (post := postF [2] true 0)
    (fun w => ∃ (cs : List Int) (a b : Int), w = ⟨[some (.g 1), some (.int m), none, none], [], [cs.map D.int, [.g 0, .int a, .int b]]⟩ ∧ cs.length ≤ 63) (fun w => ∃ (cs : List Int) (a b : Int), w = ⟨[some (.g 1), some (.int m), none, none], [], [cs.map D.int, [.g 0, .int a, .int b]]⟩ ∧ cs.length ≤ 63)
    (fun w => (w.g[0]?.getD []).length) (by
      rintro w ⟨cs, a, b, rfl, hc⟩
      have n0 : ∀ σ m, cmF .ne (.g 0) (.lst []) ⟨σ, m, [cs.map D.int, [.g 0, .int a, .int b]]⟩ = some (!cs.isEmpty) := fun σ m => ne_nil_g rfl (by omega)
      by_cases ha : a = 0
      · subst ha
        rcases List.eq_nil_or_concat cs with rfl | ⟨cs, c, rfl⟩
        · left
          simp at n0
          refine ⟨_, ?_, [], 0, b, rfl, hc⟩
          simp [newL_0, n0]
        · right
          rw [List.concat_eq_append] at *
          rw [show (!(cs ++ [c]).isEmpty) = true by cases cs <;> rfl] at n0
          have hc' : cs.length ≤ 63 := by simp at hc; omega
          have g0 : ∀ d ∈ cs.map D.int, gOk d = true := fun d hd => List.all_eq_true.mp (gOk_ints cs) d hd
          have e : powOk 10 9 = true := by decide
          simp at n0
          by_cases q : 1000000000 < c
          · refine ⟨⟨[some (.g 1), some (.int m), none, none], [], [(cs ++ [c]).map D.int, [.g 0, .int 0, .int b]]⟩, ⟨[some (.g 1), some (.int m), some (.int c), none], [], [cs.map D.int, [.g 0, .int c, .int b]]⟩, _, ?_, ?_, ?_, ⟨cs, c, b, rfl, hc'⟩, by simp⟩
            · simp [newL_0, n0]
            · simp [drawB_0, e, q, gOk]
            · simp [gc_eq]
          · refine ⟨⟨[some (.g 1), some (.int m), none, none], [], [(cs ++ [c]).map D.int, [.g 0, .int 0, .int b]]⟩, ⟨[some (.g 1), some (.int m), some (.int c), none], [], [cs.map D.int, [.g 0, .int 0, .int b]]⟩, _, ?_, ?_, ?_, ⟨cs, 0, b, rfl, hc'⟩, by simp⟩
            · simp [newL_0, n0]
            · simp [drawB_0, e, q, gOk]
            · simp [gc_eq]
      · left
        exact ⟨_, by simp [ha], cs, a, b, rfl, hc⟩)
    fuel ⟨[some (.g 1), some (.int m), none, none], [], g⟩ (by
      obtain ⟨cs, a, b, rfl, hc⟩ := h
      show (cs.map D.int).length < 1000000000000
      rw [List.length_map]; omega) (by
      obtain ⟨cs, a, b, rfl, hc⟩ := h
      exact ⟨cs, a, b, rfl, hc⟩)
  have m0 : m ≠ 0 := by omega
  by_cases q : 0 < a
  · have d : divOk a m = true := divOk_m (by omega) h2
    refine ⟨a.fmod m, _, ?_, ⟨cs, a.fdiv m, b, rfl, hc⟩, fmod_lt (by omega)⟩
    have g0 : ∀ d ∈ cs.map D.int, gOk d = true := fun d hd => List.all_eq_true.mp (gOk_ints cs) d hd
    rw [exD_ok]; simp [exO, drawB, e, q, m0, d, gOk]
  · have d : ∀ x, divOk x 7 = true := fun x => divOk_s (by decide) (by decide)
    have e1 : mulOk b 48271 = true := mulOk_r (by decide)
    have e2 := fmod_lt (a := b * 48271 + 13) (b := 2147483647) (by decide)
    have e3 : mulOk ((b * 48271 + 13).fmod 2147483647) ((b * 48271 + 13).fmod 2147483647) = true := mulOk_r (by omega)
    refine ⟨_, _, ?_, ⟨cs, a, (b * 48271 + 13).fmod 2147483647, rfl, hc⟩, fmod_lt (a := (((b * 48271 + 13).fmod 2147483647 * (b * 48271 + 13).fmod 2147483647).fmod 2147483629).fdiv 7) (by omega)⟩
    rw [exD_ok]; simp [exO, drawB, e, q, m0, d, e1, e3, gOk]
theorem pick_ok {j : Nat} {P2 : Pg} (hj : P.F j = exD P2 4 drawB) {g : List (List D)} (h : Bag g) {ds : List D} (h0 : 0 < ds.length) (h1 : ds.length < 1000000) (hr : okRets ds = true) :
    ∃ (i : Nat) (hi : i < ds.length) (g' : List (List D)), exD P 2 (oneB j) [.g 1, .lst ds] g = .ok (ds[i], g') ∧ Bag g' := by
  obtain ⟨r, g', e, hp, r0, r1⟩ := draw_ok (P := P2) h (m := ds.length) (by omega) (by omega)
  obtain ⟨i, rfl⟩ : ∃ i : Nat, r = (i : Int) := ⟨r.toNat, by omega⟩
  have hi : i < ds.length := by omega
  refine ⟨i, hi, g', ?_, hp⟩
  have e2 : P.F j [.g 1, .int ds.length] g = .ok (.int i, g') := by rw [hj]; exact e
  have e3 : ds[i]? = some ds[i] := List.getElem?_eq_getElem hi
  have e4 : ∀ w, give w ds[i] = some ds[i] := fun w => rs_ok _ (okRets_mem hr _ (List.getElem_mem hi))
  rw [exD_ok]; simp only [exO, oneB]
  simp [e2, ixI_nat hi, rsL_ok ds hr, -give_eq, e4, e3]
def bagC (ns : List Int) : List Int := (ns.take 63).map fun n => if n < 0 then -n else n
def bagM (s : Int) (cs : List Int) : Int := cs.foldl (fun a c => (a * 48271 + c.fmod 2147483629 + 5).fmod 2147483647) s
theorem bag_ok {ns : List Int} (hn : ns.length ≤ 63) : ∃ g', exD P 4 bagB [.sc (ns.map D.int)] [] = .ok (.g 1, g') ∧ Bag g' := by
  have c63 : cut (ns.map D.int) none (some 63) = (ns.take 63).map D.int := by
    rw [show (some 63 : Option Int) = some ((63 : Nat) : Int) from rfl, cut_to, List.map_take]
  have len : (bagC ns).length ≤ 63 := by unfold bagC; rw [List.length_map, List.length_take]; omega
  have L1 : ∀ (s : D), coL (asg (.nm 2)) (evC P .no) (evE P (.bi .abs 0 (.cons (.v 2) .nil))) (fun _ => true) [2] [some s, none, none, none] ((ns.take 63).map D.int) ⟨[some s, none, none, none], [], []⟩ [] = .ok ((bagC ns).map D.int, ⟨[some s, none, none, none], [], []⟩) := by
    intro s
    rw [coL_map (fun d => match d with | .int n => .int (if n < 0 then -n else n) | _ => .non) ((ns.take 63).map D.int) [] (Nat.le_trans (m := 63) (by simp; omega) (by decide)) (fun x hx r acc hacc => by
        obtain ⟨n, _, rfl⟩ := List.mem_map.mp hx
        simp [coL_cons, hacc])]
    unfold bagC
    rw [List.map_map, List.map_map, List.nil_append]
    rfl
  have L2 : ∀ (s : D) (c : List D) (cs : List Int) (a : Int), forL (asg (.nm 2)) (exB P bagB_0) (postF [2] false 0) (fun _ => true) (cs.map D.int) ⟨[some s, some (.lst c), none, some (.int a)], [], []⟩ = .ok (.nx, ⟨[some s, some (.lst c), none, some (.int (bagM a cs))], [], []⟩) := by
    intro s c cs
    induction cs with
    | nil => intro a; rfl
    | cons x cs ih =>
      intro a
      have e : mulOk a 48271 = true := mulOk_r (by decide)
      have := ih ((a * 48271 + x.fmod 2147483629 + 5).fmod 2147483647)
      simp [forL_cons, bagB_0, e]
      unfold bagB_0 at this
      rw [this]
      rfl
  refine ⟨[(bagC ns).reverse.map D.int, [.g 0, .int 0, .int (bagM (17539 + (bagC ns).length) (bagC ns))]], ?_, ⟨_, _, _, rfl, by rw [List.length_reverse]; exact len⟩⟩
  have l1 := L1 (.sc (ns.map D.int))
  have n1 : ∀ w, newL 0 (List.take 63 (ns.map D.int)) w = .ok (.lst (List.take 63 (ns.map D.int)), w) := fun w => newL_0 (le_mx (by rw [List.length_take]; omega))
  have n2 : ∀ w, newL 0 ((bagC ns).map D.int) w = .ok (.lst ((bagC ns).map D.int), w) := fun w => newL_0 (le_mx (by rw [List.length_map]; omega))
  have n3 : ∀ w, newL 2 ((bagC ns).reverse.map D.int) w = .ok (.g w.g.length, { w with g := w.g ++ [(bagC ns).reverse.map D.int] }) := fun w => newL_2 (le_mx (by rw [List.length_map, List.length_reverse]; omega)) (gOk_ints _)
  simp only [List.map_take] at l1 c63
  have n4 : ∀ (w : Wd) a, newL 2 [.g 0, .int 0, .int a] w = .ok (.g w.g.length, { w with g := w.g ++ [[.g 0, .int 0, .int a]] }) := fun w a => newL_2 (le_mx (show 3 ≤ 100000 by decide)) rfl
  simp only [List.map_reverse] at n3 ⊢
  rw [exD_ok]; simp [exO, bagB, c63, n1, n2, n3, n4, l1, L2]
end
end Fz

/-! Q23: rows told by a function; sizes in bits. -/
namespace Fz
open PySem
/-- the row of f 0 to f (m - 1) -/
def rl (m : Nat) (f : Nat → Int) : List D := (List.range m).map fun j => D.int (f j)
section
variable {m : Nat} {f g : Nat → Int}
@[simp] theorem rl_len : (rl m f).length = m := by simp [rl]
@[simp] theorem rl_at {i : Nat} {h : i < (rl m f).length} : (rl m f)[i] = .int (f i) := by simp [rl]
theorem rl_get {i : Nat} (h : i < m) : (rl m f)[i]? = some (.int (f i)) := by
  rw [List.getElem?_eq_getElem (by rw [rl_len]; exact h)]
  simp
theorem rl_congr (h : ∀ i, i < m → f i = g i) : rl m f = rl m g := by
  unfold rl
  exact List.map_congr_left fun j hj => by rw [h j (List.mem_range.mp hj)]
theorem rl_succ : rl (m + 1) f = rl m f ++ [.int (f m)] := by
  unfold rl
  rw [List.range_succ, List.map_append]
  rfl
theorem rl_set {i : Nat} {v : Int} : (rl m f).set i (.int v) = rl m fun j => if j = i then v else f j := by
  refine List.ext_getElem? fun j => ?_
  by_cases hj : j < m
  · rw [rl_get hj, List.getElem?_set]
    by_cases e : i = j
    · subst e
      rw [if_pos rfl, if_pos (by rw [rl_len]; exact hj), if_pos rfl]
    · rw [if_neg e, rl_get hj, if_neg (fun z => e z.symm)]
  · rw [List.getElem?_eq_none (by rw [List.length_set, rl_len]; omega), List.getElem?_eq_none (by rw [rl_len]; omega)]
theorem rl_take {k : Nat} (h : k ≤ m) : (rl m f).take k = rl k f := by
  unfold rl
  rw [← List.map_take, List.take_range, Nat.min_eq_left h]
theorem rl_ok : okRets (rl m f) = true := okRets_all fun d hd => by
  obtain ⟨j, _, rfl⟩ := List.mem_map.mp hd
  rfl
@[simp] theorem rl_lend {ρ : Nat → Option D} {φ : Bool} : rsL ρ φ (rl m f) = some (rl m f) := rsL_ok _ rl_ok
theorem rl_rep {v : Int} : (List.replicate m [D.int v]).flatten = rl m fun _ => v := by
  induction m with
  | zero => rfl
  | succ m ih =>
    rw [List.replicate_succ', List.flatten_append, ih, rl_succ]
    rfl
theorem rl_pl {k n : Nat} (h : ∀ i, i < m → (f i).natAbs < 10 ^ k) : Pls k n (rl m f) := Pls_all fun d hd => by
  obtain ⟨j, hj, rfl⟩ := List.mem_map.mp hd
  exact Pl_int.mpr (h j (List.mem_range.mp hj))
theorem rl_sz {k : Nat} : szBs k (rl m f) ≤ m * (k + 3) := by
  have := szBs_le (k := k) (ds := rl m f) (c := k + 1) fun d hd => by
    obtain ⟨j, _, rfl⟩ := List.mem_map.mp hd
    exact Nat.le_refl _
  rw [rl_len] at this
  exact this
theorem rl_ints : rl m f = ((List.range m).map f).map D.int := by
  unfold rl
  rw [List.map_map]
  rfl
end
/-! ### sizes -/
def Sz (b : Nat) (v : Int) : Prop := v.natAbs < 2 ^ b
theorem Sz.mul {a b : Nat} {u v : Int} (h1 : Sz a u) (h2 : Sz b v) : Sz (a + b) (u * v) := by
  unfold Sz at *
  rw [Int.natAbs_mul, Nat.pow_add]
  rcases Nat.eq_zero_or_pos v.natAbs with e | e
  · rw [e, Nat.mul_zero]
    exact Nat.mul_pos (Nat.pow_pos (by decide)) (Nat.pow_pos (by decide))
  · exact Nat.mul_lt_mul_of_lt_of_le h1 (Nat.le_of_lt h2) (Nat.pow_pos (by decide))
theorem Sz.mono {a b : Nat} {u : Int} (h1 : Sz a u) (h : a ≤ b) : Sz b u := Nat.lt_of_lt_of_le h1 (Nat.pow_le_pow_right (by decide) h)
theorem Sz.le {b : Nat} {u v : Int} (h : Sz b v) (h0 : 0 ≤ u) (h1 : u ≤ v) : Sz b u := by
  unfold Sz at *
  omega
theorem Sz.neg {b : Nat} {u : Int} (h : Sz b u) : Sz b (-u) := by
  unfold Sz at *
  rw [Int.natAbs_neg]
  exact h
theorem Sz.add {b c : Nat} {u v : Int} (h : Sz b u) (h2 : Sz c v) : Sz (max b c + 1) (u + v) := by
  have a1 := h.mono (Nat.le_max_left b c)
  have a2 := h2.mono (Nat.le_max_right b c)
  unfold Sz at *
  rw [Nat.pow_succ]
  omega
theorem Sz.sub {b c : Nat} {u v : Int} (h : Sz b u) (h2 : Sz c v) : Sz (max b c + 1) (u - v) := h.add h2.neg
theorem Sz.one : Sz 1 1 := by unfold Sz; decide
theorem Sz.zero {b : Nat} : Sz b 0 := by unfold Sz; exact Nat.pow_pos (by decide)
theorem Sz.pow {b : Nat} {v : Int} (h : Sz b v) : ∀ n : Nat, Sz (b * n + 1) (v ^ n)
  | 0 => by rw [Int.pow_zero]; exact Sz.one.mono (by omega)
  | n + 1 => by
    rw [Int.pow_succ]
    exact ((h.pow n).mul h).mono (by rw [Nat.mul_succ]; omega)
theorem Sz.mulOk {a b : Nat} {u v : Int} (h1 : Sz a u) (h2 : Sz b v) (ha : a ≤ 400000) (hb : b ≤ 400000) : mulOk u v = true := mulOk_b h1 h2 ha hb
theorem Sz.fdiv {a : Nat} {u v : Int} (h : Sz a u) (h0 : 0 ≤ u) (hv : 0 < v) : Sz a (u.fdiv v) := by
  refine h.le (Int.fdiv_nonneg h0 (by omega)) ?_
  rw [Int.fdiv_eq_ediv_of_nonneg _ (by omega)]
  exact Int.ediv_le_self _ h0
/-! ### powers -/
theorem pw_pos' {q : Int} (hq : 1 ≤ q) (n : Nat) : 1 ≤ q ^ n := by
  induction n with
  | zero => simp
  | succ n ih =>
    rw [Int.pow_succ]
    have := Int.mul_le_mul ih hq (by decide) (by omega)
    omega
theorem pw_le' {q : Int} (hq : 1 ≤ q) {i n : Nat} (h : i ≤ n) : q ^ i ≤ q ^ n := by
  obtain ⟨d, rfl⟩ : ∃ d, n = i + d := ⟨n - i, by omega⟩
  rw [Int.pow_add]
  have h1 := pw_pos' hq i
  have h2 := pw_pos' hq d
  have := Int.mul_le_mul_of_nonneg_left h2 (show 0 ≤ q ^ i by omega)
  omega
end Fz
namespace Fz
open PySem
theorem fmod_nat (a b : Nat) : Int.fmod (a : Int) (b : Int) = ((a % b : Nat) : Int) := by
  rw [Int.fmod_eq_emod_of_nonneg _ (by omega)]
  exact (Int.natCast_emod a b).symm
theorem fdiv_nat (a b : Nat) : Int.fdiv (a : Int) (b : Int) = ((a / b : Nat) : Int) := by
  rw [Int.fdiv_eq_ediv_of_nonneg _ (by omega)]
  exact (Int.natCast_ediv a b).symm
theorem divOk_log {i j : Int} (h : 0 < j) (h2 : Sz 9000 j) : divOk i j = true := by
  unfold divOk
  have : Builtin.divisionGoesByPylong i j = false := PyProof.noPylong_of_log2 ((Nat.log2_lt (by omega)).mpr h2)
  rw [decide_eq_true (show j ≠ 0 by omega), this]
  simp
theorem divOk_q {g w : Int} (hg : Sz 4000 g) (hw : 1 ≤ w) : divOk (g * w) w = true := by
  have h0 : w ≠ 0 := by omega
  have : Builtin.divisionGoesByPylong (g * w) w = false := by
    unfold Builtin.divisionGoesByPylong
    by_cases z : g * w = 0
    · simp [z]
    · have e : (g * w).natAbs.log2 ≤ w.natAbs.log2 + 4001 := by
        have l1 : w.natAbs < 2 ^ (w.natAbs.log2 + 1) := Nat.lt_log2_self
        have l2 : (g * w).natAbs < 2 ^ (w.natAbs.log2 + 4001) := by
          rw [Int.natAbs_mul, show w.natAbs.log2 + 4001 = 4000 + (w.natAbs.log2 + 1) by omega, Nat.pow_add]
          have p : 0 < (2 : Nat) ^ 4000 := Nat.pow_pos (by decide)
          exact Nat.lt_of_le_of_lt (Nat.mul_le_mul_right _ (Nat.le_of_lt hg)) (Nat.mul_lt_mul_of_pos_left l1 p)
        have := (Nat.log2_lt (show (g * w).natAbs ≠ 0 by omega)).mpr l2
        omega
      simp [h0, z]
      intro _
      have d1 := Nat.div_add_mod ((g * w).natAbs.log2) 30
      have d2 := Nat.div_add_mod (w.natAbs.log2) 30
      omega
  unfold divOk
  rw [this, decide_eq_true h0]
  simp
end Fz

/-! Q24: how many spaces there are: products and quotients. -/
namespace Fz
open PySem
def fl (q : Int) (n : Nat) : Nat → Int
  | 0 => 1
  | k + 1 => fl q n k * (q ^ n - q ^ k)
def G (q : Int) : Nat → Nat → Int
  | _, 0 => 1
  | 0, _ + 1 => 0
  | n + 1, k + 1 => G q n k + q ^ (k + 1) * G q n (k + 1)
section
variable {q : Int}
theorem fl_front (n : Nat) : ∀ k, fl q (n + 1) (k + 1) = (q ^ (n + 1) - 1) * q ^ k * fl q n k
  | 0 => by simp [fl]
  | k + 1 => by
    have ih := fl_front n k
    rw [fl, ih, fl]
    rw [Int.pow_succ q n, Int.pow_succ q k]
    grind
theorem fl_big : ∀ {n k : Nat}, n < k → fl q n k = 0
  | n, k + 1, h => by
    by_cases e : n = k
    · subst e; simp [fl]
    · rw [fl, fl_big (show n < k by omega)]; simp
theorem fl_G : ∀ n k, fl q n k = G q n k * fl q k k
  | n, 0 => by cases n <;> simp [fl, G]
  | 0, k + 1 => by rw [fl_big (Nat.zero_lt_succ _)]; simp [G]
  | n + 1, k + 1 => by
    have h1 := fl_G n k
    have h2 := fl_G n (k + 1)
    have h3 := fl_front (q := q) k k
    have h4 := fl_front (q := q) n k
    have h5 : fl q n (k + 1) = fl q n k * (q ^ n - q ^ k) := rfl
    rw [G]
    rw [Int.pow_succ q k, Int.pow_succ q n] at *
    grind
theorem fl_more (n k : Nat) (h : k ≤ n) : ∀ m, fl q n (k + m) = fl q n k * q ^ (k * m) * fl q (n - k) m
  | 0 => by simp [fl]
  | m + 1 => by
    have ih := fl_more n k h m
    show fl q n (k + m) * (q ^ n - q ^ (k + m)) = _
    rw [ih, fl, Nat.mul_succ, Int.pow_add, Int.pow_add, show q ^ n = q ^ k * q ^ (n - k) by rw [← Int.pow_add]; congr 1; omega]
    grind
variable (hq : 2 ≤ q)
include hq
theorem pw_pos (n : Nat) : 1 ≤ q ^ n := by
  induction n with
  | zero => simp
  | succ n ih =>
    rw [Int.pow_succ]
    have := Int.mul_le_mul ih (show 1 ≤ q by omega) (by decide) (by omega)
    omega
theorem pw_lt {i n : Nat} (h : i < n) : q ^ i < q ^ n := by
  obtain ⟨d, rfl⟩ : ∃ d, n = i + (d + 1) := ⟨n - i - 1, by omega⟩
  rw [Int.pow_add]
  have h1 := pw_pos hq i
  have h2 := pw_pos hq d
  have h3 : 2 ≤ q ^ (d + 1) := by
    rw [Int.pow_succ]
    have := Int.mul_le_mul h2 hq (by decide) (by omega)
    omega
  have := Int.mul_le_mul_of_nonneg_left h3 (show 0 ≤ q ^ i by omega)
  omega
theorem fl_pos {n : Nat} : ∀ {k}, k ≤ n → 1 ≤ fl q n k
  | 0, _ => by simp [fl]
  | k + 1, h => by
    have h1 := fl_pos (n := n) (k := k) (by omega)
    have h2 := pw_lt hq (show k < n by omega)
    rw [fl]
    have := Int.mul_le_mul h1 (show 1 ≤ q ^ n - q ^ k by omega) (by decide) (by omega)
    omega
theorem G_pos : ∀ n k, 0 ≤ G q n k
  | _, 0 => by simp [G]
  | 0, _ + 1 => by simp [G]
  | n + 1, k + 1 => by
    rw [G]
    have h1 := G_pos n k
    have h2 := G_pos n (k + 1)
    have h3 := pw_pos hq (k + 1)
    have := Int.mul_nonneg (show 0 ≤ q ^ (k + 1) by omega) h2
    omega
theorem quo {n k : Nat} : (fl q n k).fdiv (fl q k k) = G q n k := by
  rw [fl_G n k]
  have := fl_pos hq (Nat.le_refl k)
  exact Int.mul_fdiv_cancel _ (by omega)
theorem sym {n k : Nat} (h : k ≤ n) : G q n (n - k) = G q n k := by
  have key : ∀ {k : Nat}, k ≤ n → fl q n n = G q n k * (fl q k k * q ^ (k * (n - k)) * fl q (n - k) (n - k)) := by
    intro k h
    have := fl_more (q := q) n k h (n - k)
    rw [show k + (n - k) = n by omega] at this
    rw [this, fl_G n k]
    grind
  have h1 := key h
  have h2 := key (k := n - k) (by omega)
  rw [show n - (n - k) = k by omega, Nat.mul_comm (n - k) k] at h2
  have p1 := fl_pos hq (Nat.le_refl k)
  have p2 := fl_pos hq (Nat.le_refl (n - k))
  have p3 := pw_pos hq (k * (n - k))
  have p4 : fl q k k * q ^ (k * (n - k)) * fl q (n - k) (n - k) ≠ 0 := by
    have := Int.mul_pos (Int.mul_pos (show 0 < fl q k k by omega) (show 0 < q ^ (k * (n - k)) by omega)) (show 0 < fl q (n - k) (n - k) by omega)
    omega
  refine Int.eq_of_mul_eq_mul_right p4 ?_
  rw [← h1, h2]
  grind
theorem G_big : ∀ {n k : Nat}, n < k → G q n k = 0
  | 0, k + 1, _ => by simp [G]
  | n + 1, k + 1, h => by rw [G, G_big (show n < k by omega), G_big (show n < k + 1 by omega)]; simp
theorem pw_le {i n : Nat} (h : i ≤ n) : q ^ i ≤ q ^ n := by
  rcases Nat.lt_or_eq_of_le h with h | rfl
  · exact Int.le_of_lt (pw_lt hq h)
  · exact Int.le_refl _
theorem G_le : ∀ {n k : Nat}, k ≤ n → G q n k ≤ 2 ^ n * q ^ (k * (n - k))
  | n, 0, _ => by
    have : (1 : Int) ≤ 2 ^ n := pw_pos (q := 2) (by decide) n
    cases n <;> simp [G] <;> omega
  | n + 1, k + 1, h => by
    have h1 := G_le (n := n) (k := k) (by omega)
    have e1 : k * (n - k) ≤ (k + 1) * (n - k) := Nat.mul_le_mul_right _ (by omega)
    have e2 := pw_le hq e1
    have p2 : (1 : Int) ≤ 2 ^ n := pw_pos (q := 2) (by decide) n
    have e3 := Int.mul_le_mul_of_nonneg_left e2 (show (0 : Int) ≤ 2 ^ n by omega)
    rw [G, show n + 1 - (k + 1) = n - k by omega, Int.pow_succ 2 n]
    by_cases hk : k < n
    · have h2 := G_le (n := n) (k := k + 1) (by omega)
      have p := pw_pos hq (k + 1)
      have h3 := Int.mul_le_mul_of_nonneg_left h2 (show 0 ≤ q ^ (k + 1) by omega)
      have e4 : q ^ (k + 1) * (2 ^ n * q ^ ((k + 1) * (n - (k + 1)))) = 2 ^ n * q ^ ((k + 1) * (n - k)) := by
        rw [show (k + 1) * (n - k) = (k + 1) + (k + 1) * (n - (k + 1)) by rw [show n - k = (n - (k + 1)) + 1 by omega, Nat.mul_succ]; omega, Int.pow_add]
        grind
      rw [e4] at h3
      generalize q ^ (k + 1) * G q n (k + 1) = z at *
      grind
    · rw [G_big hq (show n < k + 1 by omega)]
      have p3 := pw_pos hq ((k + 1) * (n - k))
      have := Int.mul_nonneg (show (0 : Int) ≤ 2 ^ n by omega) (show 0 ≤ q ^ ((k + 1) * (n - k)) by omega)
      grind
end
end Fz

/-! Q25: tuples of ints: in, sorted; what is among what. -/
namespace Fz
open PySem
theorem eqv_ints : ∀ a b : List Int, PyData.eqvAll (pds (a.map D.int)) (pds (b.map D.int)) = decide (a = b)
  | [], [] => by simp [pds, PyData.eqvAll]
  | [], _ :: _ => by simp [pds, PyData.eqvAll]
  | _ :: _, [] => by simp [pds, PyData.eqvAll]
  | x :: a, y :: b => by
    have ih := eqv_ints a b
    show (PyData.eqv (.int x) (.int y) && PyData.eqvAll (pds (a.map D.int)) (pds (b.map D.int))) = _
    rw [ih, PyData.eqv]
    by_cases h : x = y <;> simp [h]
theorem eqv_tupI (a b : List Int) : PyData.eqv (pd (tupI a)) (pd (tupI b)) = decide (a = b) := by
  show PyData.eqv (.tuple (pds (a.map D.int))) (.tuple (pds (b.map D.int))) = _
  rw [PyData.eqv, eqv_ints]
/-! ### comprehensions and loops over lists of anything -/
theorem coL_fil {α : Type} {bind : D → Wd → Option Wd} {test : Wd → R (Bool × Wd)} {elt : Wd → R (D × Wd)} {ok : Wd → Bool} {own : List Nat} {σ : List (Option D)} {m g : List (List D)} (dd ee : α → D) (pr : α → Bool) : ∀ (l : List α) (acc : List D), acc.length + l.length ≤ mxLen →
    (∀ x ∈ l, ∀ r acc, acc.length < mxLen → coL bind test elt ok own σ (dd x :: r) ⟨σ, m, g⟩ acc = coL bind test elt ok own σ r ⟨σ, m, g⟩ (if pr x then acc ++ [ee x] else acc)) →
    coL bind test elt ok own σ (l.map dd) ⟨σ, m, g⟩ acc = .ok (acc ++ (l.filter pr).map ee, ⟨σ, m, g⟩)
  | [], acc, _, _ => by simp
  | x :: l, acc, hl, hx => by
    rw [List.length_cons] at hl
    rw [List.map_cons, hx x List.mem_cons_self _ _ (by omega), coL_fil dd ee pr l _ (by
      split
      · rw [List.length_append, List.length_singleton]; omega
      · omega) (fun y hy => hx y (List.mem_cons_of_mem _ hy))]
    by_cases h : pr x = true
    · simp [h]
    · simp [h]
theorem coL_mp {α : Type} {bind : D → Wd → Option Wd} {test : Wd → R (Bool × Wd)} {elt : Wd → R (D × Wd)} {ok : Wd → Bool} {own : List Nat} {σ : List (Option D)} {m g : List (List D)} (dd ee : α → D) (l : List α) (acc : List D) (hl : acc.length + l.length ≤ mxLen)
    (hx : ∀ x ∈ l, ∀ r acc, acc.length < mxLen → coL bind test elt ok own σ (dd x :: r) ⟨σ, m, g⟩ acc = coL bind test elt ok own σ r ⟨σ, m, g⟩ (acc ++ [ee x])) :
    coL bind test elt ok own σ (l.map dd) ⟨σ, m, g⟩ acc = .ok (acc ++ l.map ee, ⟨σ, m, g⟩) := by
  have := coL_fil dd ee (fun _ => true) l acc hl (fun x h r acc ha => by rw [hx x h r acc ha]; simp)
  rw [this, List.filter_eq_self.mpr (fun _ _ => rfl)]
/-- items that draw -/
theorem coL_inv {bind : D → Wd → Option Wd} {test : Wd → R (Bool × Wd)} {elt : Wd → R (D × Wd)} {ok : Wd → Bool} {own : List Nat} {σ : List (Option D)} {m : List (List D)} (I : List D → List (List D) → Prop) :
    ∀ (xs acc : List D) (g : List (List D)), (∀ x ∈ xs, ∀ r acc g, I acc g → acc.length < mxLen → ∃ y g', I (acc ++ [y]) g' ∧ coL bind test elt ok own σ (x :: r) ⟨σ, m, g⟩ acc = coL bind test elt ok own σ r ⟨σ, m, g'⟩ (acc ++ [y])) → acc.length + xs.length ≤ mxLen → I acc g →
    ∃ ys g', ys.length = acc.length + xs.length ∧ I ys g' ∧ coL bind test elt ok own σ xs ⟨σ, m, g⟩ acc = .ok (ys, ⟨σ, m, g'⟩)
  | [], acc, g, _, _, h => ⟨acc, g, rfl, h, rfl⟩
  | x :: xs, acc, g, hx, hl, h => by
    rw [List.length_cons] at hl
    obtain ⟨y, g1, h1, e1⟩ := hx x List.mem_cons_self xs acc g h (by omega)
    obtain ⟨ys, g2, l2, h2, e2⟩ := coL_inv I xs (acc ++ [y]) g1 (fun x hx' => hx x (List.mem_cons_of_mem _ hx')) (by rw [List.length_append, List.length_singleton]; omega) h1
    exact ⟨ys, g2, by rw [l2, List.length_append, List.length_singleton, List.length_cons]; omega, h2, e1.trans e2⟩
/-- a loop that ends at the first of a kind -/
theorem forL_find {α : Type} {bind : D → Wd → Option Wd} {body : Wd → R (Fl × Wd)} {post : Wd → Option Wd} {ok : Wd → Bool} (dd vv : α → D) (pr : α → Bool) (st : Wd) (st' : α → Wd) : ∀ l : List α, (∀ x ∈ l, ∀ r, forL bind body post ok (dd x :: r) st = if pr x then .ok (.rt (vv x), st' x) else forL bind body post ok r st) →
    forL bind body post ok (l.map dd) st = match l.find? pr with
      | some x => .ok (.rt (vv x), st' x)
      | none => .ok (.nx, st)
  | [], _ => rfl
  | x :: l, h => by
    rw [List.map_cons, h x List.mem_cons_self]
    by_cases hp : pr x = true
    · rw [if_pos hp, List.find?_cons_of_pos hp]
    · rw [if_neg hp, List.find?_cons_of_neg hp]
      exact forL_find dd vv pr st st' l fun y hy => h y (List.mem_cons_of_mem _ hy)
/-- x among some, by their values -/
theorem in_tup {k n : Nat} {d : D} {ds : List D} {w : Wd} (hf : isFlat d = false) (h : Pl k n d) (h2 : Pl k n (.tup ds)) (hn : n ≤ 64) : cmF .isin d (.tup ds) w = some ((pds ds).any fun z => PyData.eqv z (pd d)) := by
  have s1 : SeqAt.shaped (pd d) = true := by
    obtain ⟨a, b, c⟩ := pd_fit d n h
    show ((pd d).canLay0 && decide _) = true
    rw [a, decide_eq_true (Nat.le_trans b hn)]; rfl
  have s2 : SeqAt.shaped (pd (.tup ds)) = true := by
    obtain ⟨a, b, c⟩ := pd_fit (.tup ds) n h2
    show ((pd (.tup ds)).canLay0 && decide _) = true
    rw [a, decide_eq_true (Nat.le_trans b hn)]; rfl
  show (if isFlat d then _ else inD d (.tup ds) w) = _
  rw [hf, if_neg Bool.false_ne_true]
  unfold inD
  rw [py_of h, py_of h2]
  show (if (SeqAt.shaped (pd d) && SeqAt.shaped (pd (.tup ds))) = true then _ else _) = _
  rw [s1, s2]
  rfl
theorem pds_any {α : Type} (dd : α → D) (q : PyData → Bool) (l : List α) : (pds (l.map dd)).any q = l.any fun x => q (pd (dd x)) := by
  induction l with
  | nil => rfl
  | cons x l ih => rw [List.map_cons, pds, List.any_cons, List.any_cons, ih]
end Fz

/-! Q28: a value's text is a text that can be told again. -/
namespace Fz
open PySem
/-- signs that there are -/
def Sg (s : Str) : Prop := ∀ c ∈ s.cps.toList, c < 0x110000
theorem Sg.ok {s : Str} (h : Sg s) : PyData.strOk s = true := by
  unfold PyData.strOk
  rw [Array.all_eq_true_iff_forall_mem]
  intro c hc
  exact decide_eq_true (h c (Array.mem_toList_iff.mpr hc))
theorem Sg.of_ok {s : Str} (h : PyData.strOk s = true) : Sg s := by
  intro c hc
  have h3 := Array.all_eq_true_iff_forall_mem.mp h c (Array.mem_toList_iff.mp hc)
  simpa using h3
theorem Sg.str (s : String) : Sg (s : Str) := by
  intro c hc
  have e := Str.ofString_eq_toList s
  rw [show ((s : Str)) = Str.ofString s from rfl, e] at hc
  obtain ⟨x, _, rfl⟩ := List.mem_map.mp (show c ∈ s.toList.map Char.toNat from hc)
  have := x.valid
  have h2 : x.toNat < 0x110000 := by
    have hv : x.val.toNat.isValidChar := x.valid
    unfold Nat.isValidChar at hv
    show x.val.toNat < 0x110000
    omega
  exact h2
theorem Sg.app {a b : Str} (h1 : Sg a) (h2 : Sg b) : Sg (a ++ b) := by
  intro c hc
  rcases PyProof.Rows.mem_cps_append.mp hc with h | h
  · exact h1 c h
  · exact h2 c h
theorem Sg.text : ∀ (ts : List Str) (k : Nat) (acc : Str), (∀ t ∈ ts, Sg t) → Sg acc → Sg (textFrom k acc ts)
  | [], _, acc, _, h => h
  | t :: ts, k, acc, h, ha => by
    show Sg (textFrom (k + 1) (acc ++ (if k > 0 then ", " else "" : String) ++ t) ts)
    exact Sg.text ts (k + 1) _ (fun u hu => h u (List.mem_cons_of_mem _ hu)) ((ha.app (Sg.str _)).app (h t List.mem_cons_self))
theorem Sg.join {ts : List Str} (h : ∀ t ∈ ts, Sg t) : Sg (Str.join ", " ts) := by
  intro c hc
  rcases (PyProof.Rows.mem_join _ c ts).mp hc with ⟨t, ht, h1⟩ | ⟨_, h1⟩
  · exact h t ht c h1
  · exact Sg.str ", " c h1
theorem Sg.list {ts : List Str} (h : ∀ t ∈ ts, Sg t) : Sg (listText ts) := (Sg.text ts 0 "[" h (Sg.str "[")).app (Sg.str "]")
theorem Sg.tuple {ts : List Str} (h : ∀ t ∈ ts, Sg t) : Sg (tupleText ts) := ((Sg.str "(").app (Sg.join h)).app (Sg.str _)
theorem digits_lt (b n : Nat) : ∀ c ∈ (Nat.toDigits b n).map Char.toNat, c < 0x110000 := by
  intro c hc
  obtain ⟨x, _, rfl⟩ := List.mem_map.mp hc
  have hv : x.val.toNat.isValidChar := x.valid
  unfold Nat.isValidChar at hv
  show x.val.toNat < 0x110000
  omega
theorem reprChar_sg {q c : Nat} (hc : c < 0x110000) : ∀ d ∈ Builtin.Str.reprChar q c, d < 0x110000 := by
  have hd := digits_lt 16 c
  have hh : ∀ w, ∀ d ∈ List.replicate w 48 ++ (Nat.toDigits 16 c).map Char.toNat, d < 0x110000 := by
    intro w d h
    rcases List.mem_append.mp h with h | h
    · have := (List.mem_replicate.mp h).2
      omega
    · exact hd d h
  unfold Builtin.Str.reprChar
  dsimp only
  intro d h
  split at h
  · simp only [List.mem_cons, List.not_mem_nil, or_false] at h; omega
  split at h
  · simp only [List.mem_cons, List.not_mem_nil, or_false] at h; omega
  split at h
  · simp only [List.mem_cons, List.not_mem_nil, or_false] at h; omega
  split at h
  · simp only [List.mem_cons, List.not_mem_nil, or_false] at h; omega
  split at h
  · simp only [List.mem_cons, List.not_mem_nil, or_false] at h; omega
  split at h
  · rcases List.mem_append.mp h with h | h
    · simp only [List.mem_cons, List.not_mem_nil, or_false] at h; omega
    · exact hh _ d h
  split at h
  · rcases List.mem_append.mp h with h | h
    · simp only [List.mem_cons, List.not_mem_nil, or_false] at h; omega
    · exact hh _ d h
  · rcases List.mem_append.mp h with h | h
    · simp only [List.mem_cons, List.not_mem_nil, or_false] at h; omega
    · exact hh _ d h
theorem fold_sg (q : Nat) : ∀ (l : List Nat) (acc : Array Nat), (∀ c ∈ l, c < 0x110000) → (∀ c ∈ acc.toList, c < 0x110000) → ∀ c ∈ (l.foldl (fun out c => out ++ (Builtin.Str.reprChar q c).toArray) acc).toList, c < 0x110000
  | [], _, _, h => h
  | x :: l, acc, hl, h => by
    refine fold_sg q l _ (fun c hc => hl c (List.mem_cons_of_mem _ hc)) fun c hc => ?_
    rw [Array.toList_append] at hc
    rcases List.mem_append.mp hc with hc | hc
    · exact h c hc
    · exact reprChar_sg (hl x List.mem_cons_self) c hc
theorem Sg.repr {s : Str} (h : Sg s) : Sg (reprText s) := by
  intro c hc
  unfold reprText at hc
  have hq : reprQuote s < 0x110000 := by unfold reprQuote; split <;> decide
  rw [Array.toList_push, ← Array.foldl_toList] at hc
  rcases List.mem_append.mp hc with hc | hc
  · refine fold_sg (reprQuote s) s.cps.toList _ h (fun c hc => ?_) c hc
    have : c = reprQuote s := by simpa using hc
    omega
  · have : c = reprQuote s := by simpa using hc
    omega
variable {k : Nat}
mutual
theorem shown_sg : ∀ (d : D) (n : Nat), Pl k n d → Sg (pd d).shown
  | .non, _, _ => Sg.str "None"
  | .bl b, _, _ => by
    cases b
    · exact Sg.str "False"
    · exact Sg.str "True"
  | .int i, _, _ => Sg.str (toString i)
  | .str s, _, h => Sg.repr (Sg.of_ok h)
  | .tup ds, n, h => Sg.tuple (showns_sg ds _ h.2)
  | .lst ds, n, h => Sg.list (showns_sg ds _ h.2)
  | .fl ds, n, h => Sg.list (showns_sg ds _ h.2)
  | .sc ds, n, h => Sg.list (showns_sg ds _ h.2)
  | .ref _, _, h => False.elim h
  | .g _, _, h => False.elim h
  | .dic _ _, _, h => False.elim h
theorem showns_sg : ∀ (ds : List D) (n : Nat), Pls k n ds → ∀ t ∈ PyData.shownAll (pds ds), Sg t
  | [], _, _, t, ht => nomatch ht
  | d :: ds, n, h, t, ht => by
    rcases List.mem_cons.mp (show t ∈ (pd d).shown :: PyData.shownAll (pds ds) from ht) with rfl | ht
    · exact shown_sg d n h.1
    · exact showns_sg ds n h.2 t ht
end
/-- the text of a value, as a value -/
theorem shown_pl {n m : Nat} {d : D} (h : Pl k n d) : Pl k m (.str (pd d).shown) := (shown_sg d n h).ok
theorem shown_sz {n : Nat} {d : D} (hk : 0 < k) (h : Pl k n d) : szB k (.str (pd d).shown) ≤ 10 * szB k d + 2 := by
  have h1 := StrLaws.reprText_len (pd d).shown (fun c hc => by
    have := shown_sg d n h c hc
    have e : (16 : Nat) ^ 8 = 4294967296 := by decide
    omega)
  have h2 := shown_le hk d n h
  show (reprText (pd d).shown).length ≤ _
  omega
/-! ### comprehensions and loops that draw -/
theorem coL_drawIf {bind : D → Wd → Option Wd} {test : Wd → R (Bool × Wd)} {elt : Wd → R (D × Wd)} {ok : Wd → Bool} {own : List Nat} {σ : List (Option D)} {m : List (List D)} (Q : D → Prop) (I : List (List D) → Prop) (hok : ∀ w, ok w = true) :
    ∀ (xs acc : List D) (g : List (List D)), I g → (∀ y ∈ acc, Q y) → acc.length + xs.length ≤ mxLen →
      (∀ x ∈ xs, ∀ g, I g → ∃ w1, bind x ⟨wipeD σ own, m, g⟩ = some w1 ∧ ((∃ σ2 g2, test w1 = .ok (false, ⟨σ2, m, g2⟩) ∧ I g2) ∨ ∃ w2 y σ3 g3, test w1 = .ok (true, w2) ∧ elt w2 = .ok (y, ⟨σ3, m, g3⟩) ∧ I g3 ∧ Q y)) →
    ∃ ys g', ys.length ≤ acc.length + xs.length ∧ (∀ y ∈ ys, Q y) ∧ I g' ∧ coL bind test elt ok own σ xs ⟨σ, m, g⟩ acc = .ok (ys, ⟨σ, m, g'⟩)
  | [], acc, g, hg, hq, _, _ => ⟨acc, g, Nat.le_refl _, hq, hg, rfl⟩
  | x :: xs, acc, g, hg, hq, hl, h => by
    rw [List.length_cons] at hl
    obtain ⟨w1, e1, c⟩ := h x List.mem_cons_self g hg
    rcases c with ⟨σ2, g2, e2, h2⟩ | ⟨w2, y, σ3, g3, e2, e3, h3, hy⟩
    · obtain ⟨ys, g', l, q, i, e⟩ := coL_drawIf Q I hok xs acc g2 h2 hq (by omega) fun x hx => h x (List.mem_cons_of_mem _ hx)
      refine ⟨ys, g', by rw [List.length_cons]; omega, q, i, ?_⟩
      rw [coL_cons, e1]
      simp only [R.of_some, R.bd_ok, e2, hok, if_true, Bool.false_eq_true, if_false]
      exact e
    · obtain ⟨ys, g', l, q, i, e⟩ := coL_drawIf Q I hok xs (acc ++ [y]) g3 h3 (fun z hz => by
        rcases List.mem_append.mp hz with hz | hz
        · exact hq z hz
        · rw [List.mem_singleton.mp hz]; exact hy) (by rw [List.length_append, List.length_singleton]; omega) fun x hx => h x (List.mem_cons_of_mem _ hx)
      refine ⟨ys, g', by rw [List.length_append, List.length_singleton] at l; rw [List.length_cons]; omega, q, i, ?_⟩
      rw [coL_cons, e1]
      simp only [R.of_some, R.bd_ok, e2, e3, hok, if_true, Bool.true_and, decide_eq_true (show acc.length < mxLen by omega)]
      exact e
theorem coL_draw {P : Pg} {e : E} {t : Nat} {ok : Wd → Bool} {own : List Nat} {σ : List (Option D)} {m : List (List D)} (Q : D → Prop) (I : List (List D) → Prop) (hok : ∀ w, ok w = true) :
    ∀ (xs acc : List D) (g : List (List D)), I g → (∀ y ∈ acc, Q y) → acc.length + xs.length ≤ mxLen →
      (∀ x ∈ xs, ∀ g, I g → ∃ y σ' g', evE P e ⟨(wipeD σ own).set t (some x), m, g⟩ = .ok (y, ⟨σ', m, g'⟩) ∧ I g' ∧ Q y) →
    ∃ ys g', ys.length = acc.length + xs.length ∧ (∀ y ∈ ys, Q y) ∧ I g' ∧ coL (asg (.nm t)) (evC P .no) (evE P e) ok own σ xs ⟨σ, m, g⟩ acc = .ok (ys, ⟨σ, m, g'⟩)
  | [], acc, g, hg, hq, _, _ => ⟨acc, g, rfl, hq, hg, rfl⟩
  | x :: xs, acc, g, hg, hq, hl, h => by
    rw [List.length_cons] at hl
    obtain ⟨y, σ3, g3, e3, h3, hy⟩ := h x List.mem_cons_self g hg
    obtain ⟨ys, g', l, q, i, e'⟩ := coL_draw (e := e) (t := t) Q I hok xs (acc ++ [y]) g3 h3 (fun z hz => by
        rcases List.mem_append.mp hz with hz | hz
        · exact hq z hz
        · rw [List.mem_singleton.mp hz]; exact hy) (by rw [List.length_append, List.length_singleton]; omega) fun x hx => h x (List.mem_cons_of_mem _ hx)
    refine ⟨ys, g', by rw [List.length_append, List.length_singleton] at l; rw [List.length_cons]; omega, q, i, ?_⟩
    have t1 : ∀ w, evC P .no w = .ok (true, w) := fun w => by simp
    rw [coL_cons]
    show (R.of (some (⟨(wipeD σ own).set t (some x), m, g⟩ : Wd))).bd _ = _
    simp only [R.of_some, R.bd_ok, t1, e3, hok, if_true, Bool.true_and, decide_eq_true (show acc.length < mxLen by omega)]
    exact e'
theorem forL_mem {bind : D → Wd → Option Wd} {body : Wd → R (Fl × Wd)} {post : Wd → Option Wd} {ok : Wd → Bool} (I : Wd → Prop) : ∀ (xs : List D) (w : Wd), (∀ x ∈ xs, ∀ w r, I w → ∃ w', I w' ∧ forL bind body post ok (x :: r) w = forL bind body post ok r w') → I w → ∃ w', I w' ∧ forL bind body post ok xs w = .ok (.nx, w')
  | [], w, _, hI => ⟨w, hI, rfl⟩
  | x :: xs, w, h, hI => by
    obtain ⟨w1, h1, e1⟩ := h x List.mem_cons_self w xs hI
    obtain ⟨w2, h2, e2⟩ := forL_mem I xs w1 (fun y hy => h y (List.mem_cons_of_mem _ hy)) h1
    exact ⟨w2, h2, e1.trans e2⟩
theorem rng_n {n : Nat} (h : n ≤ 1000000) : rngF [.int (n : Int)] = some ((List.range n).map fun t : Nat => D.int t) := by
  rw [rng_1 (n := n) (by omega) (by omega), rngL_map0]
/-- an own list beside the empty one -/
theorem ne_nil_ref {w : Wd} {j n : Nat} {ds : List D} (h : w.m[j]? = some ds) (hp : Pls k n ds) (hn : n ≤ 60) : cmF .ne (.ref j) (.lst []) w = some (!ds.isEmpty) := by
  have h0 : w.py (.ref j) = some (.list (pds ds)) := by
    show pyR w (3 + 1) true j = _
    unfold pyR
    rw [if_pos rfl, h]
    show (pyL _ _ ds).map PyData.list = _
    rw [pyL_pd ds n hp]
    rfl
  have h1 : w.py (.lst []) = some (.list []) := rfl
  show ((w.py (.ref j)).bind fun a => (w.py (.lst [])).bind fun b => if SeqAt.shaped a && SeqAt.shaped b then some (PyData.eqv a b) else none).map (fun b => !b) = _
  rw [h0, h1]
  have s1 : SeqAt.shaped (.list (pds ds)) = true := by
    obtain ⟨a, b, c⟩ := pds_fit ds n hp
    show (PyData.canLayAll0 (pds ds) && decide (PyData.depthAll (pds ds) + 1 ≤ 64)) = true
    rw [a, decide_eq_true (by omega)]; rfl
  show (if (SeqAt.shaped (.list (pds ds)) && SeqAt.shaped (.list [])) = true then some (PyData.eqv (.list (pds ds)) (.list [])) else none).map (fun b => !b) = _
  rw [s1]
  cases ds with
  | nil => simp [pd, pds, PyData.eqv, PyData.eqvAll]; rfl
  | cons X l => simp [pd, pds, PyData.eqv, PyData.eqvAll]; rfl
end Fz

/-! Q30: rows and tables as data, small values. -/
namespace Rw
open PySem Fz
@[simp] theorem nt0 {w : Wd} : newT [] w = .ok (.tup [], w) := newT_ok' (by decide)
@[simp] theorem nt1 {a : Fz.D} {w : Wd} : newT [a] w = .ok (.tup [a], w) := newT_ok' (show 1 ≤ mxLen by decide)
@[simp] theorem nt2 {a b : Fz.D} {w : Wd} : newT [a, b] w = .ok (.tup [a, b], w) := newT_ok' (show 2 ≤ mxLen by decide)
@[simp] theorem nt3 {a b c : Fz.D} {w : Wd} : newT [a, b, c] w = .ok (.tup [a, b, c], w) := newT_ok' (show 3 ≤ mxLen by decide)
@[simp] theorem nl0 {w : Wd} : newL 0 [] w = .ok (.lst [], w) := newL_0 (by decide)
@[simp] theorem nl1 {a : Fz.D} {w : Wd} : newL 0 [a] w = .ok (.lst [a], w) := newL_0 (show 1 ≤ mxLen by decide)
@[simp] theorem nl2 {a b : Fz.D} {w : Wd} : newL 0 [a, b] w = .ok (.lst [a, b], w) := newL_0 (show 2 ≤ mxLen by decide)
@[simp] theorem nl3 {a b c : Fz.D} {w : Wd} : newL 0 [a, b, c] w = .ok (.lst [a, b, c], w) := newL_0 (show 3 ≤ mxLen by decide)
theorem zip_map {α : Type} (f h : α → Fz.D) (l : List α) : zipD (l.map f) (l.map h) = l.map fun a => .tup [f a, h a] := by
  induction l with
  | nil => rfl
  | cons a l ih => simp only [List.map_cons, zipD, ih]
theorem enu_map (f : Nat → Fz.D) (n : Nat) : enuL 0 ((List.range n).map f) = (List.range n).map fun i : Nat => .tup [.int i, f i] := by
  have go : ∀ (n : Nat) (k : Nat), enuL k ((List.range n).map fun i => f (k + i)) = (List.range n).map fun i : Nat => .tup [.int ((k + i : Nat) : Int), f (k + i)] := by
    intro n
    induction n with
    | zero => intro k; rfl
    | succ n ih =>
      intro k
      rw [List.range_succ_eq_map, List.map_cons, List.map_cons, List.map_map, List.map_map, enuL]
      congr 1
      have := ih (k + 1)
      have e : ((k : Int) + 1) = ((k + 1 : Nat) : Int) := by omega
      rw [e]
      have e2 : (fun i => f (k + i)) ∘ Nat.succ = fun i => f (k + 1 + i) := by funext i; simp only [Function.comp]; congr 1; omega
      rw [e2, this]
      refine List.map_congr_left fun i _ => ?_
      simp only [Function.comp]
      have e3 : k + 1 + i = k + Nat.succ i := by omega
      rw [e3]
  have := go n 0
  simpa using this
theorem rl_map (m : Nat) (f : Nat → Int) : rl m f = (List.range m).map fun j => Fz.D.int (f j) := rfl
theorem rl_intD (m : Nat) (f : Nat → Int) : intD (rl m f) = some ((List.range m).map f) := by
  unfold rl
  induction List.range m with
  | nil => rfl
  | cons x l ih => simp only [List.map_cons, intD, ih]; rfl
theorem nlR {md m : Nat} {f : Nat → Int} {w : Wd} (hm : m ≤ 1000) : newL 0 (rl m f) w = .ok (.lst (rl m f), w) := newL_0 (by rw [rl_len]; exact Nat.le_trans hm (by decide))
theorem ntR {m : Nat} {f : Nat → Int} {w : Wd} (hm : m ≤ 1000) : newT (rl m f) w = .ok (.tup (rl m f), w) := by
  unfold newT
  rw [if_pos (by rw [rl_len]; exact Nat.le_trans hm (by decide))]
theorem forL_idx {bind : Fz.D → Wd → Option Wd} {body : Wd → R (Fl × Wd)} {post : Wd → Option Wd} {ok : Wd → Bool} (dd : Nat → Fz.D) (st : Nat → Wd) : ∀ (n k : Nat), (∀ i, k ≤ i → i < k + n → ∀ r, forL bind body post ok (dd i :: r) (st i) = forL bind body post ok r (st (i + 1))) →
    forL bind body post ok ((List.range' k n).map dd) (st k) = .ok (.nx, st (k + n))
  | 0, k, _ => rfl
  | n + 1, k, h => by
    rw [List.range'_succ, List.map_cons, h k (Nat.le_refl _) (by omega), forL_idx dd st n (k + 1) fun i h1 h2 => h i (by omega) (by omega)]
    congr 3
    omega
def rw_ (n : Nat) (f : Nat → Int) : Fz.D := .tup (rl n f)
def rows (n : Nat) (T : Nat → Nat → Int) : List Fz.D := (List.range n).map fun i => rw_ n (T i)
def tb (n : Nat) (T : Nat → Nat → Int) : Fz.D := .tup (rows n T)
theorem rows_eq (n : Nat) (T : Nat → Nat → Int) : rows n T = (List.range n).map fun i => rw_ n (T i) := rfl
@[simp] theorem rows_len {n : Nat} {T : Nat → Nat → Int} : (rows n T).length = n := by simp [rows]
theorem tb_congr {n : Nat} {T U : Nat → Nat → Int} (h : ∀ i, i < n → ∀ j, j < n → T i j = U i j) : tb n T = tb n U := by
  unfold tb rows
  congr 1
  refine List.map_congr_left fun i hi => ?_
  unfold rw_
  rw [rl_congr fun j hj => h i (List.mem_range.mp hi) j hj]
theorem rw_congr {n : Nat} {f h : Nat → Int} (e : ∀ i, i < n → f i = h i) : rw_ n f = rw_ n h := by unfold rw_; rw [rl_congr e]
theorem rw_ret (n : Nat) (f : Nat → Int) : okRet (rw_ n f) = true := rl_ok
theorem rows_ret {n : Nat} {T : Nat → Nat → Int} : okRets (rows n T) = true := okRets_all fun d hd => by
  obtain ⟨i, _, rfl⟩ := List.mem_map.mp hd
  exact rw_ret n _
@[simp] theorem rw_rs {ρ : Nat → Option Fz.D} {φ : Bool} {n : Nat} {f : Nat → Int} : rs ρ φ (rw_ n f) = some (rw_ n f) := rs_ok _ (rw_ret n f)
@[simp] theorem tb_rs {ρ : Nat → Option Fz.D} {φ : Bool} {n : Nat} {T : Nat → Nat → Int} : rs ρ φ (tb n T) = some (tb n T) := rs_ok _ rows_ret
@[simp] theorem rw_seq {n : Nat} {f : Nat → Int} {w : Wd} : w.seq (rw_ n f) = some (rl n f) := rfl
@[simp] theorem rw_isT {n : Nat} {f : Nat → Int} : isT (rw_ n f) = true := rfl
@[simp] theorem tb_isT {n : Nat} {f : Nat → Nat → Int} : isT (tb n f) = true := rfl
@[simp] theorem tb_seq {n : Nat} {T : Nat → Nat → Int} {w : Wd} : w.seq (tb n T) = some (rows n T) := rfl
@[simp] theorem rw_src {n : Nat} {f : Nat → Int} : srcOf (rw_ n f) = .non := rfl
@[simp] theorem tb_src {n : Nat} {f : Nat → Nat → Int} : srcOf (tb n f) = .non := rfl
@[simp] theorem rw_len {n md : Nat} {f : Nat → Int} {w : Wd} : biF .len md [rw_ n f] w = .ok (.int n, w) := by
  have : biF .len md [rw_ n f] w = .ok (.int (rl n f).length, w) := rfl
  rw [this, rl_len]
@[simp] theorem tb_len {n md : Nat} {f : Nat → Nat → Int} {w : Wd} : biF .len md [tb n f] w = .ok (.int n, w) := by
  have : biF .len md [tb n f] w = .ok (.int (rows n f).length, w) := rfl
  rw [this, rows_len]
theorem tb_at {n i : Nat} {T : Nat → Nat → Int} (h : i < n) : (rows n T)[i]? = some (rw_ n (T i)) := by simp [rows, h]
theorem ix_nat {n i : Nat} (h : i < n) : ixI n (i : Int) = some i := by
  unfold ixI
  rw [if_pos (Int.natCast_nonneg i), if_pos (by omega)]
  simp
theorem zeros {md n : Nat} (h1 : 1 ≤ n) (h2 : n ≤ 1000) {w : Wd} : opF .mul md (.tup [.int 0]) (.int (n : Int)) w = .ok (rw_ n fun _ => 0, w) := by
  have hd : 1 ≤ (n : Int) ∧ (n : Int) ≤ 1000 ∧ ([Fz.D.int 0] : List Fz.D).length ≤ 1000 ∧ ([Fz.D.int 0] : List Fz.D) ≠ [] := ⟨by omega, by omega, by decide, by simp⟩
  show (if decide _ = true then newT (List.replicate (n : Int).toNat [Fz.D.int 0]).flatten w else .err) = _
  rw [decide_eq_true hd, if_pos rfl, Int.toNat_natCast, rl_rep]
  exact ntR h2
theorem exD_rt {P : Pg} {n : Nat} {body : List S} {ds : List Fz.D} {g : List (List Fz.D)} {d d' : Fz.D} {w1 : Wd} (e : exB P body ⟨ds.map some ++ List.replicate (n - ds.length) none, [], g⟩ = .ok (.rt d, w1)) (hd : give w1 d = some d') : exD P n body ds g = .ok (d', w1.g) := by
  rw [exD_ok]; unfold exO
  rw [e]
  show (R.of (give w1 d)).bd (fun d' => R.ok (d', w1.g)) = _
  rw [hd]
  rfl
theorem nlW {n : Nat} {T : Nat → Nat → Int} {w : Wd} (hn : n ≤ 1000) : newL 0 (rows n T) w = .ok (.lst (rows n T), w) := newL_0 (by rw [rows_len]; exact Nat.le_trans hn (by decide))
theorem ntW {n : Nat} {T : Nat → Nat → Int} {w : Wd} (hn : n ≤ 1000) : newT (rows n T) w = .ok (tb n T, w) := newT_ok' (by rw [rows_len]; exact Nat.le_trans hn (by decide))
theorem ntR' {m : Nat} {f : Nat → Int} {w : Wd} (hm : m ≤ 1000) : newT (rl m f) w = .ok (rw_ m f, w) := ntR hm
theorem exB_rt {P : Pg} {s : S} {r : List S} {w w' : Wd} {d : Fz.D} (h : exS P s w = .ok (.rt d, w')) : exB P (s :: r) w = .ok (.rt d, w') := by
  rw [exB_cons, h]
  rfl
theorem Pls_mem {k n : Nat} : ∀ {ds : List Fz.D}, Pls k n ds → ∀ d ∈ ds, Pl k n d
  | [], _, d, hd => nomatch hd
  | e :: ds, h, d, hd => by
    rcases List.mem_cons.mp hd with rfl | hd
    · exact h.1
    · exact Pls_mem h.2 d hd
theorem okRets_mem : ∀ {ds : List Fz.D}, okRets ds = true → ∀ d ∈ ds, okRet d = true
  | [], _, d, hd => nomatch hd
  | e :: ds, h, d, hd => by
    obtain ⟨h1, h2⟩ := Bool.and_eq_true_iff.mp (show (okRet e && okRets ds) = true from h)
    rcases List.mem_cons.mp hd with rfl | hd
    · exact h1
    · exact okRets_mem h2 d hd
theorem ne_nilL {n : Nat} {ds : List Fz.D} (h : Pls 5 n ds) (hn : n ≤ 60) {w : Wd} : cmF .ne (.lst ds) (.lst []) w = some (!ds.isEmpty) := by
  show (eqF _ _ w).map (fun b => !b) = _
  rw [eqF_plain (k := 5) (n := n + 1) (Pl_lst.mpr h) (Pl_lst.mpr (Pls_nil.mpr trivial)) (by omega)]
  cases ds with
  | nil => simp [pd, pds, PyData.eqv, PyData.eqvAll]
  | cons X l => simp [pd, pds, PyData.eqv, PyData.eqvAll]
theorem eq_nilL {n : Nat} {ds : List Fz.D} (h : Pls 5 n ds) (hn : n ≤ 60) {w : Wd} : cmF .eq (.lst ds) (.lst []) w = some ds.isEmpty := by
  show eqF (.lst ds) (.lst []) w = some ds.isEmpty
  rw [eqF_plain (k := 5) (n := n + 1) (Pl_lst.mpr h) (Pl_lst.mpr (Pls_nil.mpr trivial)) (by omega)]
  cases ds with
  | nil => simp [pd, pds, PyData.eqv, PyData.eqvAll]
  | cons X l => simp [pd, pds, PyData.eqv, PyData.eqvAll]
theorem filt_emp {α : Type} (q : α → Bool) (l : List α) : (l.filter fun d => !q d).isEmpty = l.all q := by
  induction l with
  | nil => rfl
  | cons d l ih =>
    rw [List.filter_cons, List.all_cons]
    cases q d with
    | true => simpa using ih
    | false => rfl
theorem ntS {a : List Fz.D} {w : Wd} (h : a.length ≤ 1000) : newT a w = .ok (.tup a, w) := newT_ok' (Nat.le_trans h (by decide))
theorem nlS {a : List Fz.D} {w : Wd} (h : a.length ≤ 1000) : newL 0 a w = .ok (.lst a, w) := newL_0 (Nat.le_trans h (by decide))
theorem addL {md : Nat} {a b : List Fz.D} {w : Wd} : opF .add md (.lst a) (.lst b) w = newL md (a ++ b) w := .trans rfl rfl
theorem addLR {md k : Nat} {a b : List Fz.D} {w : Wd} (h : w.m[k]? = some b) (h2 : lsq b = some b) : opF .add md (.lst a) (.ref k) w = newL md (a ++ b) w := by
  show (if (isL (Fz.D.lst a) && isL (Fz.D.ref k)) = true then (R.of (w.seq (.lst a))).bd fun a => (R.of (w.seq (.ref k))).bd fun b => newL md (a ++ b) w else .err) = _
  simp [h, h2]
theorem eq_nilT {n : Nat} {ds : List Fz.D} (h : Pls 5 n ds) (hn : n ≤ 60) {w : Wd} : cmF .eq (.tup ds) (.tup []) w = some ds.isEmpty := by
  show eqF (.tup ds) (.tup []) w = some ds.isEmpty
  rw [eqF_plain (k := 5) (n := n + 1) (Pl_tup.mpr h) (Pl_tup.mpr (Pls_nil.mpr trivial)) (by omega)]
  cases ds with
  | nil => simp [pd, pds, PyData.eqv, PyData.eqvAll]
  | cons X l => simp [pd, pds, PyData.eqv, PyData.eqvAll]
theorem mm_app {α : Type} {P : α → Prop} {a b : List α} (h1 : ∀ e ∈ a, P e) (h2 : ∀ e ∈ b, P e) : ∀ e ∈ a ++ b, P e := fun e he => by
  rcases List.mem_append.mp he with he | he
  · exact h1 e he
  · exact h2 e he
theorem mm_cons {α : Type} {P : α → Prop} {a : α} {b : List α} (h1 : P a) (h2 : ∀ e ∈ b, P e) : ∀ e ∈ a :: b, P e := fun e he => by
  rcases List.mem_cons.mp he with rfl | he
  · exact h1
  · exact h2 e he
theorem mm_nil {α : Type} {P : α → Prop} : ∀ e ∈ ([] : List α), P e := fun e he => nomatch he
mutual
theorem Pl_mono {k : Nat} : ∀ {d : Fz.D} {n m : Nat}, Pl k n d → n ≤ m → Pl k m d
  | .non, _, _, _, _ => trivial
  | .bl _, _, _, _, _ => trivial
  | .int _, _, _, h, _ => h
  | .str _, _, _, h, _ => h
  | .tup ds, n, m, h, l => ⟨Nat.lt_of_lt_of_le h.1 l, Pls_mono h.2 (by omega)⟩
  | .lst ds, n, m, h, l => ⟨Nat.lt_of_lt_of_le h.1 l, Pls_mono h.2 (by omega)⟩
  | .fl ds, n, m, h, l => ⟨Nat.lt_of_lt_of_le h.1 l, Pls_mono h.2 (by omega)⟩
  | .sc ds, n, m, h, l => ⟨Nat.lt_of_lt_of_le h.1 l, Pls_mono h.2 (by omega)⟩
  | .ref _, _, _, h, _ => False.elim h
  | .g _, _, _, h, _ => False.elim h
  | .dic _ _, _, _, h, _ => False.elim h
theorem Pls_mono {k : Nat} : ∀ {ds : List Fz.D} {n m : Nat}, Pls k n ds → n ≤ m → Pls k m ds
  | [], _, _, _, _ => trivial
  | d :: ds, n, m, h, l => ⟨Pl_mono h.1 l, Pls_mono h.2 l⟩
end
structure It (c k : Nat) (d : Fz.D) : Prop where
  pl : Pl 5 k d
  ret : okRet d = true
  sz : szB 5 d ≤ c
theorem It.mono {c k c' k' : Nat} {d : Fz.D} (h : It c k d) (h1 : c ≤ c') (h2 : k ≤ k') : It c' k' d := ⟨Pl_mono h.pl h2, h.ret, Nat.le_trans h.sz h1⟩
theorem szBs_it {c k : Nat} {ds : List Fz.D} (h : ∀ d ∈ ds, It c k d) {L : Nat} (hl : ds.length ≤ L) : szBs 5 ds ≤ L * (c + 2) :=
  Nat.le_trans (szBs_le fun d hd => (h d hd).sz) (Nat.mul_le_mul_right _ hl)
theorem It.rets {c k : Nat} {ds : List Fz.D} (h : ∀ d ∈ ds, It c k d) : okRets ds = true := okRets_all fun d hd => (h d hd).ret
theorem It.pls {c k : Nat} {ds : List Fz.D} (h : ∀ d ∈ ds, It c k d) : Pls 5 k ds := Pls_all fun d hd => (h d hd).pl
theorem It.tup {c k L : Nat} {ds : List Fz.D} (h : ∀ d ∈ ds, It c k d) (hl : ds.length ≤ L) : It (L * (c + 2) + 3) (k + 1) (.tup ds) :=
  ⟨Pl_tup.mpr (It.pls h), It.rets h, by show szBs 5 ds + 3 ≤ _; have := szBs_it h hl; omega⟩
theorem It.lst {c k L : Nat} {ds : List Fz.D} (h : ∀ d ∈ ds, It c k d) (hl : ds.length ≤ L) : It (L * (c + 2) + 3) (k + 1) (.lst ds) :=
  ⟨Pl_lst.mpr (It.pls h), It.rets h, by show szBs 5 ds + 3 ≤ _; have := szBs_it h hl; omega⟩
theorem It.int {k : Nat} {i : Int} (h : -100000 < i ∧ i < 100000) : It 6 k (.int i) := by
  have e : (10 : Nat) ^ 5 = 100000 := by decide
  exact ⟨Pl_int.mpr (by omega), rfl, Nat.le_refl _⟩
theorem It.non {k : Nat} : It 5 k .non := ⟨trivial, rfl, by decide⟩
theorem It.bl {k : Nat} {b : Bool} : It 5 k (.bl b) := ⟨trivial, rfl, by show 5 ≤ 5; decide⟩
theorem nl4 {a b c d : Fz.D} {w : Wd} : newL 0 [a, b, c, d] w = .ok (.lst [a, b, c, d], w) := nlS (show 4 ≤ 1000 by decide)
theorem zerosG {md n : Nat} (h1 : 1 ≤ n) (h2 : n ≤ 1000) {d : Fz.D} {w : Wd} : opF .mul md (.tup [d]) (.int (n : Int)) w = .ok (.tup (List.replicate n d), w) := by
  have hd : 1 ≤ (n : Int) ∧ (n : Int) ≤ 1000 ∧ ([d] : List Fz.D).length ≤ 1000 ∧ ([d] : List Fz.D) ≠ [] := ⟨by omega, by omega, (show 1 ≤ 1000 by decide), by simp⟩
  show (if decide _ = true then newT (List.replicate (n : Int).toNat [d]).flatten w else .err) = _
  rw [decide_eq_true hd, if_pos rfl, Int.toNat_natCast, List.flatten_replicate_singleton]
  exact ntS (by rw [List.length_replicate]; exact h2)
end Rw

/-! Q26: rows modulo a prime: spans, steps (reduced rows), what is beside. -/
namespace LA
abbrev Vc := Nat → Int
/-- alike at the first n places -/
def Eq' (p : Int) (n : Nat) (u v : Vc) : Prop := ∀ j, j < n → p ∣ u j - v j
/-- numbers times rows, summed -/
def lin : List Int → List Vc → Vc
  | c :: cs, b :: bs => fun j => c * b j + lin cs bs j
  | _, _ => fun _ => 0
def Span (p : Int) (n : Nat) (B : List Vc) (v : Vc) : Prop := ∃ cs : List Int, cs.length = B.length ∧ Eq' p n v (lin cs B)
section
variable {p : Int} {n : Nat}
theorem Eq'.refl (u : Vc) : Eq' p n u u := fun j _ => by rw [Int.sub_self]; exact Int.dvd_zero p
theorem Eq'.symm {u v : Vc} (h : Eq' p n u v) : Eq' p n v u := fun j hj => by
  have := Int.dvd_neg.mpr (h j hj)
  rwa [Int.neg_sub] at this
theorem Eq'.trans {u v w : Vc} (h : Eq' p n u v) (k : Eq' p n v w) : Eq' p n u w := fun j hj => by
  have := Int.dvd_add (h j hj) (k j hj)
  rwa [show u j - v j + (v j - w j) = u j - w j by omega] at this
/-- a b modulo p -/
def M (p a b : Int) : Prop := p ∣ a - b
theorem M.refl (a : Int) : M p a a := by unfold M; rw [Int.sub_self]; exact Int.dvd_zero p
theorem M.symm {a b : Int} (h : M p a b) : M p b a := by unfold M at *; have := Int.dvd_neg.mpr h; rwa [Int.neg_sub] at this
theorem M.trans {a b c : Int} (h : M p a b) (k : M p b c) : M p a c := by unfold M at *; have := Int.dvd_add h k; rwa [show a - b + (b - c) = a - c by omega] at this
theorem M.add {a b c d : Int} (h : M p a b) (k : M p c d) : M p (a + c) (b + d) := by unfold M at *; have := Int.dvd_add h k; rwa [show a - b + (c - d) = a + c - (b + d) by omega] at this
theorem M.sub {a b c d : Int} (h : M p a b) (k : M p c d) : M p (a - c) (b - d) := by unfold M at *; have := Int.dvd_sub h k; rwa [show a - b - (c - d) = a - c - (b - d) by omega] at this
theorem M.mul {a b c d : Int} (h : M p a b) (k : M p c d) : M p (a * c) (b * d) := by
  unfold M at *
  have : a * c - b * d = (a - b) * c + b * (c - d) := by grind
  rw [this]
  exact Int.dvd_add (Int.dvd_mul_of_dvd_left h) (Int.dvd_mul_of_dvd_right k)
theorem M.neg {a b : Int} (h : M p a b) : M p (-a) (-b) := by unfold M at *; have := Int.dvd_neg.mpr h; rwa [show -(a - b) = -a - -b by omega] at this
theorem M.emod (a : Int) : M p (a % p) a := by
  unfold M
  exact ⟨-(a / p), by have := Int.emod_add_mul_ediv a p; rw [Int.mul_neg]; omega⟩
theorem M.eq {a b : Int} (h : M p a b) (ha : 0 ≤ a ∧ a < p) (hb : 0 ≤ b ∧ b < p) : a = b := by
  have h1 := Int.emod_eq_emod_iff_emod_sub_eq_zero.mpr (Int.emod_eq_zero_of_dvd h)
  rwa [Int.emod_eq_of_lt ha.1 ha.2, Int.emod_eq_of_lt hb.1 hb.2] at h1
/-! ### sums of rows -/
theorem lin_M {B : List Vc} {j : Nat} : ∀ {cs ds : List Int}, cs.length = ds.length → (∀ i, M p (cs.getD i 0) (ds.getD i 0)) → M p (lin cs B j) (lin ds B j) := by
  induction B with
  | nil =>
    intro cs ds _ _
    cases cs <;> cases ds <;> exact M.refl _
  | cons b B ih =>
    intro cs ds h k
    cases cs with
    | nil => cases ds with
      | nil => exact M.refl _
      | cons d ds => cases h
    | cons c cs => cases ds with
      | nil => cases h
      | cons d ds =>
        have k0 : M p c d := k 0
        exact M.add (M.mul k0 (M.refl _)) (ih (by simpa using h) fun i => k (i + 1))
theorem lin_add {B : List Vc} (j : Nat) : ∀ (cs ds : List Int), cs.length = B.length → ds.length = B.length → lin (List.zipWith (· + ·) cs ds) B j = lin cs B j + lin ds B j := by
  induction B with
  | nil =>
    intro cs ds h k
    rw [List.eq_nil_of_length_eq_zero h, List.eq_nil_of_length_eq_zero k]
    rfl
  | cons b B ih =>
    intro cs ds h k
    cases cs with
    | nil => cases h
    | cons c cs => cases ds with
      | nil => cases k
      | cons d ds =>
        simp only [List.zipWith_cons_cons, lin]
        rw [ih cs ds (by simpa using h) (by simpa using k)]
        grind
theorem lin_mul (t : Int) : ∀ (cs : List Int) (B : List Vc) (j : Nat), lin (cs.map (t * ·)) B j = t * lin cs B j
  | [], _, _ => by simp [lin]
  | c :: cs, [], _ => by simp [lin]
  | c :: cs, b :: B, j => by
    simp only [List.map_cons, lin]
    rw [lin_mul t cs B j]
    grind
theorem lin_zero : ∀ (k : Nat) (B : List Vc) (j : Nat), lin (List.replicate k 0) B j = 0
  | 0, B, j => by cases B <;> rfl
  | k + 1, [], j => rfl
  | k + 1, b :: B, j => by simp only [List.replicate_succ, lin, lin_zero k B j]; omega
theorem Span.of_eq {B : List Vc} {u v : Vc} (h : Span p n B u) (e : Eq' p n v u) : Span p n B v := let ⟨cs, hl, k⟩ := h; ⟨cs, hl, e.trans k⟩
theorem Span.zero {B : List Vc} : Span p n B fun _ => 0 := ⟨List.replicate B.length 0, by simp, fun j _ => by rw [lin_zero]; exact M.refl 0⟩
theorem Span.add {B : List Vc} {u v : Vc} (h : Span p n B u) (k : Span p n B v) : Span p n B fun j => u j + v j := by
  obtain ⟨cs, hl, h⟩ := h
  obtain ⟨ds, kl, k⟩ := k
  exact ⟨List.zipWith (· + ·) cs ds, by simp [hl, kl], fun j hj => by rw [lin_add j cs ds hl kl]; exact M.add (h j hj) (k j hj)⟩
theorem Span.mul {B : List Vc} {u : Vc} (t : Int) (h : Span p n B u) : Span p n B fun j => t * u j := by
  obtain ⟨cs, hl, h⟩ := h
  exact ⟨cs.map (t * ·), by simp [hl], fun j hj => by rw [lin_mul]; exact M.mul (M.refl t) (h j hj)⟩
theorem Span.mem : ∀ {B : List Vc} {b : Vc}, b ∈ B → Span p n B b
  | b :: B, x, h => by
    rcases List.mem_cons.mp h with rfl | h
    · exact ⟨1 :: List.replicate B.length 0, by simp, fun j _ => by simp only [lin, lin_zero]; rw [Int.one_mul, Int.add_zero]; exact M.refl _⟩
    · obtain ⟨cs, hl, k⟩ := Span.mem h
      exact ⟨0 :: cs, by simp [hl], fun j hj => by simp only [lin]; rw [Int.zero_mul, Int.zero_add]; exact k j hj⟩
/-- closed under sums -/
structure Sub (p : Int) (n : Nat) (S : Vc → Prop) : Prop where
  eq : ∀ {u v}, S u → Eq' p n v u → S v
  zero : S fun _ => 0
  add : ∀ {u v}, S u → S v → S fun j => u j + v j
  mul : ∀ (t : Int) {u}, S u → S fun j => t * u j
theorem span_sub (B : List Vc) : Sub p n (Span p n B) := ⟨fun h e => h.of_eq e, Span.zero, Span.add, fun t _ h => h.mul t⟩
theorem Sub.lin {S : Vc → Prop} (h : Sub p n S) : ∀ (cs : List Int) (B : List Vc), (∀ b ∈ B, S b) → S (LA.lin cs B)
  | [], B, _ => by cases B <;> exact h.zero
  | c :: cs, [], _ => h.zero
  | c :: cs, b :: B, hb => h.add (h.mul c (hb b List.mem_cons_self)) (h.lin cs B fun x hx => hb x (List.mem_cons_of_mem _ hx))
theorem Sub.span {S : Vc → Prop} (h : Sub p n S) {B : List Vc} (hb : ∀ b ∈ B, S b) {v : Vc} (hv : Span p n B v) : S v := by
  obtain ⟨cs, _, k⟩ := hv
  exact h.eq (h.lin cs B hb) k
/-! ### rows with places of their own -/
structure Piv (p : Int) (n : Nat) (B : List Vc) (π : List Nat) : Prop where
  len : π.length = B.length
  lt : ∀ h ∈ π, h < n
  del : ∀ (i k : Nat) (b : Vc) (h : Nat), B[i]? = some b → π[k]? = some h → M p (b h) (if i = k then 1 else 0)
theorem Piv.tail {b : Vc} {B : List Vc} {h : Nat} {π : List Nat} (P : Piv p n (b :: B) (h :: π)) : Piv p n B π :=
  ⟨by have := P.len; simpa using this, fun x hx => P.lt x (List.mem_cons_of_mem _ hx), fun i k c x hi hk => by
    have := P.del (i + 1) (k + 1) c x (by simpa using hi) (by simpa using hk)
    simpa using this⟩
/-- the number at a row's own place -/
theorem lin_piv : ∀ {B : List Vc} {π : List Nat} (P : Piv p n B π) {cs : List Int}, cs.length = B.length → ∀ {k : Nat} {h : Nat}, π[k]? = some h → M p (lin cs B h) (cs.getD k 0) := by
  intro B
  suffices H : ∀ (B : List Vc) (off : Nat) (cs : List Int) (k h : Nat), cs.length = B.length → (∀ (i : Nat) (b : Vc), B[i]? = some b → M p (b h) (if off + i = k then 1 else 0)) → off ≤ k → M p (lin cs B h) (cs.getD (k - off) 0) by
    intro π P cs hl k h hk
    have := H B 0 cs k h hl (fun i b hb => by have := P.del i k b h hb hk; simpa using this) (Nat.zero_le _)
    simpa using this
  intro B
  induction B with
  | nil =>
    intro off cs k h hl _ _
    have : cs = [] := List.eq_nil_of_length_eq_zero hl
    subst this
    exact M.refl _
  | cons b B ih =>
    intro off cs k h hl hd ho
    cases cs with
    | nil => cases hl
    | cons c cs =>
      have h0 := hd 0 b rfl
      by_cases e : off = k
      · subst e
        rw [if_pos (Nat.add_zero _)] at h0
        have rest : M p (lin cs B h) 0 := by
          have z : ∀ (B : List Vc) (cs : List Int), (∀ (i : Nat) (b : Vc), B[i]? = some b → M p (b h) 0) → M p (lin cs B h) 0 := by
            intro B
            induction B with
            | nil => intro cs _; cases cs <;> exact M.refl _
            | cons b B ih =>
              intro cs hb
              cases cs with
              | nil => exact M.refl _
              | cons c cs =>
                have := M.add (M.mul (M.refl c) (hb 0 b rfl)) (ih cs fun i b hi => hb (i + 1) b (by simpa using hi))
                simpa [lin] using this
          refine z B cs fun i b hi => ?_
          have := hd (i + 1) b (by simpa using hi)
          rwa [if_neg (by omega)] at this
        have := M.add (M.mul (M.refl c) h0) rest
        simpa [lin] using this
      · rw [if_neg (by omega)] at h0
        have r := ih (off + 1) cs k h (by simpa using hl) (fun i b hi => by
          have := hd (i + 1) b (by simpa using hi)
          rwa [show off + (i + 1) = off + 1 + i by omega] at this) (by omega)
        have := M.add (M.mul (M.refl c) h0) r
        rw [show k - off = k - (off + 1) + 1 by omega]
        simpa [lin] using this
/-- a row of the span by its items at the places -/
theorem coords {B : List Vc} {π : List Nat} (P : Piv p n B π) {v : Vc} (h : Span p n B v) : Eq' p n v (lin (π.map v) B) := by
  obtain ⟨cs, hl, k⟩ := h
  refine k.trans fun j hj => lin_M (by rw [hl, List.length_map, P.len]) fun i => ?_
  by_cases hi : i < π.length
  · have e : (π.map v).getD i 0 = v (π[i]) := by simp [List.getD, hi]
    rw [e]
    have a := lin_piv P hl (List.getElem?_eq_getElem hi)
    exact (M.symm a).trans (M.symm (k _ (P.lt _ (List.getElem_mem hi))))
  · have e1 : (π.map v).getD i 0 = 0 := by simp [List.getD, hi]
    have e2 : cs.getD i 0 = 0 := by
      have : cs.length ≤ i := by rw [hl, ← P.len]; omega
      simp [List.getD, List.getElem?_eq_none this]
    rw [e1, e2]
    exact M.refl 0
theorem span_iff {B : List Vc} {π : List Nat} (P : Piv p n B π) {v : Vc} : Span p n B v ↔ Eq' p n v (lin (π.map v) B) := ⟨coords P, fun h => ⟨π.map v, by rw [List.length_map, P.len], h⟩⟩
end
end LA

/-! Q27: reduced rows are one; what is beside them. -/
namespace LA
section
variable {p : Int} {n : Nat}
theorem lin_0 {j : Nat} : ∀ {cs : List Int} {B : List Vc}, (∀ (i : Nat) (c : Int) (b : Vc), cs[i]? = some c → B[i]? = some b → M p (c * b j) 0) → M p (lin cs B j) 0
  | [], B, _ => by cases B <;> exact M.refl _
  | c :: cs, [], _ => M.refl _
  | c :: cs, b :: B, h => by
    have h0 := h 0 c b rfl rfl
    have := M.add h0 (lin_0 (cs := cs) (B := B) fun i c' b' hc hb => h (i + 1) c' b' (by simpa using hc) (by simpa using hb))
    simpa [lin] using this
structure Rref (p : Int) (n : Nat) (B : List Vc) (π : List Nat) : Prop extends Piv p n B π where
  inc : π.Pairwise (· < ·)
  lead : ∀ (i : Nat) (b : Vc) (h : Nat), B[i]? = some b → π[i]? = some h → ∀ j, j < h → M p (b j) 0
/-- the first item that is not nought -/
def Hd (p : Int) (n : Nat) (v : Vc) (h : Nat) : Prop := h < n ∧ ¬ M p (v h) 0 ∧ ∀ j, j < h → M p (v j) 0
theorem Rref.head {B : List Vc} {π : List Nat} (R : Rref p n B π) {v : Vc} (hv : Span p n B v) {h : Nat} (hh : Hd p n v h) : h ∈ π := by
  apply Classical.byContradiction
  intro hn
  obtain ⟨h1, h2, h3⟩ := hh
  have c0 : M p (v h) (lin (π.map v) B h) := coords R.toPiv hv h h1
  refine h2 (c0.trans ?_)
  refine lin_0 fun i c b hc hb => ?_
  rw [List.getElem?_map] at hc
  obtain ⟨k, hk, rfl⟩ := Option.map_eq_some_iff.mp hc
  have hkm : k ∈ π := List.mem_of_getElem? hk
  rcases Nat.lt_trichotomy k h with hlt | he | hgt
  · have := M.mul (h3 k hlt) (M.refl (b h))
    simpa using this
  · rw [he] at hkm
    exact absurd hkm hn
  · have := M.mul (M.refl (v k)) (R.lead i b k hb hk h hgt)
    simpa using this
theorem one_not (hp : 1 < p) : ¬ M p 1 0 := fun z => by
  have := M.eq z (by omega) (by omega)
  omega
theorem Rref.hd (hp : 1 < p) {B : List Vc} {π : List Nat} (R : Rref p n B π) {i h : Nat} {b : Vc} (hb : B[i]? = some b) (hh : π[i]? = some h) : Hd p n b h := by
  refine ⟨R.lt h (List.mem_of_getElem? hh), fun z => ?_, R.lead i b h hb hh⟩
  have := R.del i i b h hb hh
  rw [if_pos rfl] at this
  exact one_not hp (this.symm.trans z)
theorem inc_eq : ∀ {l m : List Nat}, l.Pairwise (· < ·) → m.Pairwise (· < ·) → (∀ x, x ∈ l ↔ x ∈ m) → l = m
  | [], [], _, _, _ => rfl
  | [], y :: m, _, _, h => absurd ((h y).mpr List.mem_cons_self) (by simp)
  | x :: l, [], _, _, h => absurd ((h x).mp List.mem_cons_self) (by simp)
  | x :: l, y :: m, hl, hm, h => by
    obtain ⟨l1, l2⟩ := List.pairwise_cons.mp hl
    obtain ⟨m1, m2⟩ := List.pairwise_cons.mp hm
    have e : x = y := by
      have hx := (h x).mp List.mem_cons_self
      have hy := (h y).mpr List.mem_cons_self
      rcases List.mem_cons.mp hx with e | hx
      · exact e
      · rcases List.mem_cons.mp hy with e | hy
        · exact e.symm
        · have := m1 x hx
          have := l1 y hy
          omega
    subst e
    rw [inc_eq l2 m2 fun z => ⟨fun hz => by
      rcases List.mem_cons.mp ((h z).mp (List.mem_cons_of_mem _ hz)) with e | k
      · have := l1 z hz; omega
      · exact k, fun hz => by
      rcases List.mem_cons.mp ((h z).mpr (List.mem_cons_of_mem _ hz)) with e | k
      · have := m1 z hz; omega
      · exact k⟩]
theorem at_idx {α : Type} {l : List α} {x : α} (h : x ∈ l) : ∃ i : Nat, l[i]? = some x := by
  obtain ⟨i, hi, e⟩ := List.mem_iff_getElem.mp h
  exact ⟨i, by rw [List.getElem?_eq_getElem hi, e]⟩
theorem at_len {α β : Type} {l : List α} {m : List β} (h : l.length = m.length) {i : Nat} {x : α} (e : l[i]? = some x) : ∃ y, m[i]? = some y := by
  obtain ⟨hi, _⟩ := List.getElem?_eq_some_iff.mp e
  exact ⟨m[i]'(by omega), List.getElem?_eq_getElem _⟩
theorem Rref.sub_heads (hp : 1 < p) {B C : List Vc} {π ρ : List Nat} (R : Rref p n B π) (S : Rref p n C ρ) (h : ∀ v, Span p n B v → Span p n C v) : ∀ x ∈ π, x ∈ ρ := fun x hx => by
  obtain ⟨i, hi⟩ := at_idx hx
  obtain ⟨b, hb⟩ := at_len R.len hi
  exact S.head (h b (Span.mem (List.mem_of_getElem? hb))) (R.hd hp hb hi)
/-- the reduced rows of a span are one -/
theorem rref_one (hp : 1 < p) {B C : List Vc} {π ρ : List Nat} (R : Rref p n B π) (S : Rref p n C ρ) (h : ∀ v, Span p n B v ↔ Span p n C v) : π = ρ ∧ ∀ (i : Nat) (b c : Vc), B[i]? = some b → C[i]? = some c → Eq' p n b c := by
  have e : π = ρ := inc_eq R.inc S.inc fun x => ⟨R.sub_heads hp S (fun v => (h v).mp) x, S.sub_heads hp R (fun v => (h v).mpr) x⟩
  subst e
  refine ⟨rfl, fun i b c hb hc => ?_⟩
  have e1 := coords S.toPiv ((h b).mp (Span.mem (List.mem_of_getElem? hb)))
  have e2 := coords S.toPiv (Span.mem (List.mem_of_getElem? hc))
  refine e1.trans (Eq'.trans (fun j hj => lin_M (by simp) fun k => ?_) e2.symm)
  rw [List.getD_eq_getElem?_getD, List.getD_eq_getElem?_getD, List.getElem?_map, List.getElem?_map]
  cases hk : π[k]? with
  | none => exact M.refl _
  | some x => exact (R.del i k b x hb hk).trans (S.del i k c x hc hk).symm
/-! ### products of rows -/
def sumN : Nat → (Nat → Int) → Int
  | 0, _ => 0
  | n + 1, f => sumN n f + f n
theorem sumN_M : ∀ {n : Nat} {f g : Nat → Int}, (∀ j, j < n → M p (f j) (g j)) → M p (sumN n f) (sumN n g)
  | 0, _, _, _ => M.refl _
  | n + 1, f, g, h => M.add (sumN_M fun j hj => h j (by omega)) (h n (by omega))
theorem sumN_add : ∀ (n : Nat) (f g : Nat → Int), sumN n (fun j => f j + g j) = sumN n f + sumN n g
  | 0, _, _ => rfl
  | n + 1, f, g => by simp only [sumN, sumN_add n f g]; omega
theorem sumN_mul (t : Int) : ∀ (n : Nat) (f : Nat → Int), sumN n (fun j => t * f j) = t * sumN n f
  | 0, _ => by simp [sumN]
  | n + 1, f => by simp only [sumN, sumN_mul t n f, Int.mul_add]
theorem sumN_0 : ∀ n : Nat, sumN n (fun _ => 0) = 0
  | 0 => rfl
  | n + 1 => by simp only [sumN, sumN_0 n]; rfl
theorem sumN_one {h : Nat} (f : Nat → Int) : ∀ n : Nat, sumN n (fun j => if j = h then f j else 0) = if h < n then f h else 0
  | 0 => by simp [sumN]
  | n + 1 => by
    simp only [sumN, sumN_one f n]
    by_cases e : n = h
    · subst e; simp
    · by_cases e2 : h < n
      · rw [if_pos e2, if_neg e, if_pos (by omega)]; omega
      · rw [if_neg e2, if_neg e, if_neg (by omega)]; omega
def dt (n : Nat) (u v : Vc) : Int := sumN n fun j => u j * v j
theorem dt_comm (u v : Vc) : dt n u v = dt n v u := by
  unfold dt
  congr 1
  funext j
  exact Int.mul_comm _ _
theorem dt_M {u v u' v' : Vc} (h : Eq' p n u u') (k : Eq' p n v v') : M p (dt n u v) (dt n u' v') := sumN_M fun j hj => M.mul (h j hj) (k j hj)
theorem dt_add (u v w : Vc) : dt n u (fun j => v j + w j) = dt n u v + dt n u w := by
  unfold dt
  rw [← sumN_add]
  congr 1
  funext j
  exact Int.mul_add _ _ _
theorem dt_mul (t : Int) (u v : Vc) : dt n u (fun j => t * v j) = t * dt n u v := by
  unfold dt
  rw [← sumN_mul]
  congr 1
  funext j
  grind
theorem dt_0 (u : Vc) : dt n u (fun _ => 0) = 0 := by
  unfold dt
  rw [show (fun j => u j * 0) = fun _ => (0 : Int) from funext fun j => Int.mul_zero _]
  exact sumN_0 n
/-- at right angles to all of S -/
def Perp (p : Int) (n : Nat) (S : Vc → Prop) (v : Vc) : Prop := ∀ u, S u → M p (dt n u v) 0
theorem perp_sub (S : Vc → Prop) : Sub p n (Perp p n S) where
  eq := fun h e u hu => (dt_M (Eq'.refl u) e).trans (h u hu)
  zero := fun u _ => by rw [dt_0]; exact M.refl 0
  add := fun h k u hu => by rw [dt_add]; have := M.add (h u hu) (k u hu); simpa using this
  mul := fun t _ h u hu => by rw [dt_mul]; have := M.mul (M.refl t) (h u hu); simpa using this
theorem perp_span {B : List Vc} {v : Vc} : Perp p n (Span p n B) v ↔ ∀ b ∈ B, M p (dt n b v) 0 := by
  refine ⟨fun h b hb => h b (Span.mem hb), fun h u hu => ?_⟩
  have s := perp_sub (p := p) (n := n) (fun w => Eq' p n w v)
  have : Perp p n (fun w => Eq' p n w v) u := s.span (fun b hb w hw => by
    rw [dt_comm]
    exact (dt_M (Eq'.refl b) hw).trans (h b hb)) hu
  rw [dt_comm]
  exact this v (Eq'.refl v)
/-! ### rows beside -/
def frees (n : Nat) (π : List Nat) : List Nat := (List.range n).filter fun j => !π.contains j
theorem mem_frees {π : List Nat} {j : Nat} : j ∈ frees n π ↔ j < n ∧ j ∉ π := by
  unfold frees
  rw [List.mem_filter, List.mem_range]
  simp
/-- the items at f, put at the rows' own places -/
def pick : List Nat → List Vc → Nat → Vc
  | h :: π, b :: B, f => fun j => (if j = h then b f else 0) + pick π B f j
  | _, _, _ => fun _ => 0
def dr (B : List Vc) (π : List Nat) (f : Nat) : Vc := fun j => (if j = f then 1 else 0) - pick π B f j
theorem pick_dt : ∀ {B : List Vc} {π : List Nat} (f : Nat) (v : Vc), (∀ h ∈ π, h < n) → dt n (pick π B f) v = lin (π.map v) B f
  | B, [], f, v, _ => by cases B <;> simp only [pick, List.map_nil, lin] <;> (rw [dt_comm]; exact dt_0 v)
  | [], h :: π, f, v, _ => by simp only [pick, List.map_cons, lin]; rw [dt_comm]; exact dt_0 v
  | b :: B, h :: π, f, v, hl => by
    have ih := pick_dt (B := B) f v fun x hx => hl x (List.mem_cons_of_mem _ hx)
    simp only [pick, List.map_cons, lin]
    rw [dt_comm, dt_add, dt_comm v (pick π B f), ih]
    have e : dt n v (fun j => if j = h then b f else 0) = v h * b f := by
      unfold dt
      have : (fun j => v j * if j = h then b f else 0) = fun j => if j = h then v j * b f else 0 := by
        funext j
        split <;> simp
      rw [this, sumN_one (fun j => v j * b f), if_pos (hl h List.mem_cons_self)]
    rw [e]
theorem dr_dt {B : List Vc} {π : List Nat} {f : Nat} (hf : f < n) (v : Vc) (hl : ∀ h ∈ π, h < n) : dt n (dr B π f) v = v f - lin (π.map v) B f := by
  rw [← pick_dt f v hl]
  have e : dt n (dr B π f) v + dt n (pick π B f) v = v f := by
    rw [dt_comm, dt_comm (pick π B f), ← dt_add]
    unfold dt
    have : (fun j => v j * (dr B π f j + pick π B f j)) = fun j => if j = f then v j else 0 := by
      funext j
      unfold dr
      split <;> grind
    rw [this, sumN_one (fun j => v j), if_pos hf]
  omega
/-- what is at right angles to all that is beside lies within -/
theorem perp_dual {B : List Vc} {π : List Nat} (P : Piv p n B π) {v : Vc} : (∀ f ∈ frees n π, M p (dt n (dr B π f) v) 0) ↔ Span p n B v := by
  rw [span_iff P]
  constructor
  · intro h j hj
    by_cases hm : j ∈ π
    · obtain ⟨k, hk⟩ := at_idx hm
      have := lin_piv P (cs := π.map v) (by rw [List.length_map, P.len]) hk
      have e : (π.map v).getD k 0 = v j := by rw [List.getD_eq_getElem?_getD, List.getElem?_map, hk]; rfl
      rw [e] at this
      exact this.symm
    · have := h j (mem_frees.mpr ⟨hj, hm⟩)
      rw [dr_dt hj v P.lt] at this
      unfold M at this
      rwa [Int.sub_zero] at this
  · intro h f hf
    obtain ⟨h1, _⟩ := mem_frees.mp hf
    rw [dr_dt h1 v P.lt]
    have := h f h1
    unfold M
    rwa [Int.sub_zero]
theorem pick_free {f' : Nat} : ∀ {B : List Vc} {π : List Nat} {f : Nat}, f' ∉ π → pick π B f f' = 0
  | B, [], f, _ => by cases B <;> rfl
  | [], h :: π, f, _ => rfl
  | b :: B, h :: π, f, hn => by
    simp only [pick]
    rw [if_neg (fun z => hn (by rw [z]; exact List.mem_cons_self)), pick_free fun z => hn (List.mem_cons_of_mem _ z)]
    rfl
theorem dual_piv {B : List Vc} {π : List Nat} (P : Piv p n B π) : Piv p n ((frees n π).map (dr B π)) (frees n π) := by
  refine ⟨by simp, fun h hh => (mem_frees.mp hh).1, fun i k b h hb hh => ?_⟩
  rw [List.getElem?_map] at hb
  obtain ⟨f, hf, rfl⟩ := Option.map_eq_some_iff.mp hb
  obtain ⟨h1, h2⟩ := mem_frees.mp (List.mem_of_getElem? hh)
  unfold dr
  rw [pick_free h2, Int.sub_zero]
  have nd : (frees n π).Nodup := List.nodup_range.filter _
  by_cases e : i = k
  · subst e
    have : f = h := Option.some.inj (hf.symm.trans hh)
    rw [if_pos rfl, if_pos this.symm]
    exact M.refl _
  · have : h ≠ f := fun z => by
      subst z
      obtain ⟨a1, a2⟩ := List.getElem?_eq_some_iff.mp hf
      obtain ⟨b1, b2⟩ := List.getElem?_eq_some_iff.mp hh
      exact e ((List.getElem_inj nd).mp (a2.trans b2.symm))
    rw [if_neg e, if_neg this]
    exact M.refl _
/-- what is at right angles to the rows is what the rows beside make -/
theorem dual_span {B : List Vc} {π : List Nat} (P : Piv p n B π) {v : Vc} : Span p n ((frees n π).map (dr B π)) v ↔ Perp p n (Span p n B) v := by
  have Q := dual_piv P
  constructor
  · intro h
    refine (perp_sub _).span (fun b hb => ?_) h
    obtain ⟨f, hf, rfl⟩ := List.mem_map.mp hb
    intro u hu
    rw [dt_comm]
    exact (perp_dual P).mpr hu f hf
  · intro h
    -- the rest is nought
    obtain ⟨u, hu⟩ : ∃ u : Vc, u = fun j => v j + (-1) * lin ((frees n π).map v) ((frees n π).map (dr B π)) j := ⟨_, rfl⟩
    have lsp : Span p n ((frees n π).map (dr B π)) (lin ((frees n π).map v) ((frees n π).map (dr B π))) := ⟨_, by simp, Eq'.refl _⟩
    have lp : Perp p n (Span p n B) (lin ((frees n π).map v) ((frees n π).map (dr B π))) := (perp_sub _).span (fun b hb => by
      obtain ⟨f, hf, rfl⟩ := List.mem_map.mp hb
      intro w hw
      rw [dt_comm]
      exact (perp_dual P).mpr hw f hf) lsp
    have up : Perp p n (Span p n B) u := by
      rw [hu]
      exact (perp_sub _).add h ((perp_sub _).mul (-1) lp)
    have uf : ∀ f ∈ frees n π, M p (u f) 0 := fun f hf => by
      obtain ⟨k, hk⟩ := at_idx hf
      have := lin_piv Q (cs := (frees n π).map v) (by simp) hk
      have e : ((frees n π).map v).getD k 0 = v f := by rw [List.getD_eq_getElem?_getD, List.getElem?_map, hk]; rfl
      rw [e] at this
      rw [hu]
      unfold M at this ⊢
      have := Int.dvd_neg.mpr this
      rwa [show -(lin ((frees n π).map v) ((frees n π).map (dr B π)) f - v f) = v f + (-1) * lin ((frees n π).map v) ((frees n π).map (dr B π)) f - 0 by omega] at this
    have u0 : Eq' p n u fun _ => 0 := fun j hj => by
      by_cases hm : j ∈ π
      · obtain ⟨i, hi⟩ := at_idx hm
        obtain ⟨b, hb⟩ := at_len P.len hi
        have d0 := up b (Span.mem (List.mem_of_getElem? hb))
        have e : M p (dt n b u) (sumN n fun k => if k = j then u k else 0) := sumN_M fun k hk => by
          by_cases e : k = j
          · subst e
            rw [if_pos rfl]
            have := P.del i i b k hb hi
            rw [if_pos rfl] at this
            have := M.mul this (M.refl (u k))
            rwa [Int.one_mul] at this
          · rw [if_neg e]
            by_cases hk2 : k ∈ π
            · obtain ⟨i', hi'⟩ := at_idx hk2
              have := P.del i i' b k hb hi'
              rw [if_neg (fun z => by subst z; exact e (Option.some.inj (hi'.symm.trans hi)))] at this
              have := M.mul this (M.refl (u k))
              rwa [Int.zero_mul] at this
            · have := M.mul (M.refl (b k)) (uf k (mem_frees.mpr ⟨hk, hk2⟩))
              rwa [Int.mul_zero] at this
        rw [sumN_one (fun k => u k), if_pos hj] at e
        exact e.symm.trans d0
      · exact uf j (mem_frees.mpr ⟨hj, hm⟩)
    refine lsp.of_eq fun j hj => ?_
    have := u0 j hj
    rw [hu] at this
    rwa [show v j + (-1) * lin ((frees n π).map v) ((frees n π).map (dr B π)) j - 0 = v j - lin ((frees n π).map v) ((frees n π).map (dr B π)) j by omega] at this
/-- twice beside leads back -/
theorem perp_perp {B : List Vc} {π : List Nat} (P : Piv p n B π) {v : Vc} : Perp p n (Perp p n (Span p n B)) v ↔ Span p n B v := by
  rw [← perp_dual P]
  constructor
  · intro h f hf
    exact h _ ((dual_span P).mp (Span.mem (List.mem_map.mpr ⟨f, hf, rfl⟩)))
  · intro h u hu
    have := (dual_span P).mpr hu
    exact perp_span.mpr (fun b hb => by
      obtain ⟨f, hf, rfl⟩ := List.mem_map.mp hb
      exact h f hf) u this
end
end LA

/-! Q29: how many rows. -/
namespace LA
section
variable {p : Int} {n : Nat}
/-! ### counting -/
theorem nodup_len {α : Type} [DecidableEq α] : ∀ {l m : List α}, l.Nodup → (∀ x ∈ l, x ∈ m) → l.length ≤ m.length
  | [], _, _, _ => Nat.zero_le _
  | x :: l, m, h, hs => by
    obtain ⟨h1, h2⟩ := List.nodup_cons.mp h
    have hx : x ∈ m := hs x List.mem_cons_self
    have := nodup_len (l := l) (m := m.erase x) h2 fun y hy => (List.mem_erase_of_ne (by rintro rfl; exact h1 hy)).mpr (hs y (List.mem_cons_of_mem _ hy))
    have e := List.length_erase_of_mem hx
    have : 0 < m.length := List.length_pos_of_mem hx
    rw [List.length_cons]
    omega
def allL (P : Nat) : Nat → List (List Int)
  | 0 => [[]]
  | k + 1 => (List.range P).flatMap fun x : Nat => (allL P k).map fun l => (x : Int) :: l
theorem allL_len (P : Nat) : ∀ k, (allL P k).length = P ^ k
  | 0 => rfl
  | k + 1 => by
    unfold allL
    have : ∀ l : List Nat, (l.flatMap fun x : Nat => (allL P k).map fun l => (x : Int) :: l).length = l.length * P ^ k := by
      intro l
      induction l with
      | nil => simp
      | cons x l ih =>
        rw [List.flatMap_cons, List.length_append, ih, List.length_map, allL_len P k, List.length_cons, Nat.add_mul, Nat.one_mul, Nat.add_comm]
    rw [this, List.length_range, Nat.pow_succ, Nat.mul_comm]
theorem mem_allL {P : Nat} : ∀ {k : Nat} {l : List Int}, l ∈ allL P k ↔ l.length = k ∧ ∀ x ∈ l, 0 ≤ x ∧ x < P
  | 0, l => by
    unfold allL
    rw [List.mem_singleton]
    constructor
    · rintro rfl
      exact ⟨rfl, fun x h => nomatch h⟩
    · rintro ⟨h, _⟩
      exact List.length_eq_zero_iff.mp h
  | k + 1, l => by
    unfold allL
    rw [List.mem_flatMap]
    constructor
    · rintro ⟨x, hx, h⟩
      obtain ⟨m, hm, rfl⟩ := List.mem_map.mp h
      obtain ⟨h1, h2⟩ := mem_allL.mp hm
      have hx := List.mem_range.mp hx
      refine ⟨by rw [List.length_cons, h1], fun y hy => ?_⟩
      rcases List.mem_cons.mp hy with e | hy
      · rw [e]; omega
      · exact h2 y hy
    · rintro ⟨h1, h2⟩
      cases l with
      | nil => cases h1
      | cons x m =>
        have hx := h2 x List.mem_cons_self
        refine ⟨x.toNat, List.mem_range.mpr (by omega), List.mem_map.mpr ⟨m, mem_allL.mpr ⟨by simpa using h1, fun y hy => h2 y (List.mem_cons_of_mem _ hy)⟩, ?_⟩⟩
        rw [Int.toNat_of_nonneg hx.1]
theorem nodup_flat {α β : Type} (f : α → List β) : ∀ {l : List α}, l.Nodup → (∀ x ∈ l, (f x).Nodup) → (∀ x ∈ l, ∀ y ∈ l, x ≠ y → ∀ z, z ∈ f x → z ∈ f y → False) → (l.flatMap f).Nodup
  | [], _, _, _ => List.nodup_nil
  | x :: l, h, h1, h2 => by
    obtain ⟨a, b⟩ := List.nodup_cons.mp h
    rw [List.flatMap_cons, List.nodup_append]
    refine ⟨h1 x List.mem_cons_self, nodup_flat f b (fun y hy => h1 y (List.mem_cons_of_mem _ hy)) (fun y hy z hz => h2 y (List.mem_cons_of_mem _ hy) z (List.mem_cons_of_mem _ hz)), fun z hz w hw e => ?_⟩
    subst e
    obtain ⟨y, hy, hzy⟩ := List.mem_flatMap.mp hw
    exact h2 x List.mem_cons_self y (List.mem_cons_of_mem _ hy) (by rintro rfl; exact a hy) z hz hzy
theorem nodup_map {α β : Type} {f : α → β} : ∀ {l : List α}, l.Nodup → (∀ x ∈ l, ∀ y ∈ l, f x = f y → x = y) → (l.map f).Nodup
  | [], _, _ => List.nodup_nil
  | x :: l, h, hi => by
    obtain ⟨a, b⟩ := List.nodup_cons.mp h
    rw [List.map_cons, List.nodup_cons]
    refine ⟨fun hm => ?_, nodup_map b fun y hy z hz => hi y (List.mem_cons_of_mem _ hy) z (List.mem_cons_of_mem _ hz)⟩
    obtain ⟨y, hy, e⟩ := List.mem_map.mp hm
    have := hi x List.mem_cons_self y (List.mem_cons_of_mem _ hy) e.symm
    subst this
    exact a hy
theorem allL_nodup (P : Nat) : ∀ k, (allL P k).Nodup
  | 0 => by unfold allL; simp
  | k + 1 => by
    unfold allL
    refine nodup_flat _ List.nodup_range (fun x _ => nodup_map (allL_nodup P k) fun l _ m _ e => (List.cons.inj e).2) fun x _ y _ hn z hz hw => ?_
    obtain ⟨l, _, rfl⟩ := List.mem_map.mp hz
    obtain ⟨m, _, e⟩ := List.mem_map.mp hw
    have := (List.cons.inj e).1
    exact hn (by omega)
/-! ### rows none of which the others make -/
def Ind (p : Int) (n : Nat) (C : List Vc) : Prop := ∀ cs : List Int, cs.length = C.length → Eq' p n (lin cs C) (fun _ => 0) → ∀ i, M p (cs.getD i 0) 0
theorem getD_zip (cs ds : List Int) (h : cs.length = ds.length) (i : Nat) : (List.zipWith (· + ·) cs ds).getD i 0 = cs.getD i 0 + ds.getD i 0 := by
  by_cases hi : i < cs.length
  · have hd : i < ds.length := by omega
    have h3 : (List.zipWith (· + ·) cs ds)[i]? = some (cs[i] + ds[i]) := by
      rw [List.getElem?_eq_getElem (by rw [List.length_zipWith]; omega), List.getElem_zipWith]
    simp only [List.getD, h3, List.getElem?_eq_getElem hi, List.getElem?_eq_getElem hd, Option.getD_some]
  · have hd : ¬ i < ds.length := by omega
    have h1 : cs[i]? = none := List.getElem?_eq_none (by omega)
    have h2 : ds[i]? = none := List.getElem?_eq_none (by omega)
    have h3 : (List.zipWith (· + ·) cs ds)[i]? = none := List.getElem?_eq_none (by rw [List.length_zipWith]; omega)
    simp [List.getD, h1, h2, h3]
theorem getD_map (t : Int) (cs : List Int) (i : Nat) : (cs.map (t * ·)).getD i 0 = t * cs.getD i 0 := by
  by_cases hi : i < cs.length
  · simp [List.getD, hi]
  · have h1 : cs[i]? = none := List.getElem?_eq_none (by omega)
    simp [List.getD, h1]
theorem ind_inj {C : List Vc} (hC : Ind p n C) {cs ds : List Int} (h1 : cs.length = C.length) (h2 : ds.length = C.length) (e : Eq' p n (lin cs C) (lin ds C)) (i : Nat) : M p (cs.getD i 0) (ds.getD i 0) := by
  have hl : cs.length = (ds.map ((-1) * ·)).length := by rw [List.length_map]; omega
  have := hC (List.zipWith (· + ·) cs (ds.map ((-1) * ·))) (by rw [List.length_zipWith, ← hl, Nat.min_self, h1]) (fun j hj => by
    show M p _ _
    rw [lin_add j _ _ h1 (by rw [List.length_map, h2]), lin_mul]
    have := e j hj
    unfold M
    rwa [show lin cs C j + -1 * lin ds C j - 0 = lin cs C j - lin ds C j by omega]) i
  rw [getD_zip _ _ hl, getD_map] at this
  unfold M at *
  rwa [show cs.getD i 0 + -1 * ds.getD i 0 - 0 = cs.getD i 0 - ds.getD i 0 by omega] at this
theorem ind_le (hp : 1 < p) {C D : List Vc} (hC : Ind p n C) (h : ∀ c ∈ C, Span p n D c) : C.length ≤ D.length := by
  have hP : (p.toNat : Int) = p := Int.toNat_of_nonneg (by omega)
  have ex : ∀ cs : List Int, ∃ ds : List Int, ds ∈ allL p.toNat D.length ∧ Eq' p n (lin cs C) (lin ds D) := by
    intro cs
    obtain ⟨ds, hl, e⟩ := (span_sub (p := p) (n := n) D).lin cs C h
    refine ⟨ds.map (· % p), mem_allL.mpr ⟨by rw [List.length_map, hl], fun x hx => ?_⟩, e.trans fun j hj => ?_⟩
    · obtain ⟨d, _, rfl⟩ := List.mem_map.mp hx
      rw [hP]
      exact ⟨Int.emod_nonneg _ (by omega), Int.emod_lt_of_pos _ (by omega)⟩
    · refine lin_M (by rw [List.length_map]) fun i => ?_
      by_cases hi : i < ds.length
      · have : (ds.map (· % p)).getD i 0 = ds.getD i 0 % p := by simp [List.getD, hi]
        rw [this]
        exact (M.emod _).symm
      · have h1 : ds[i]? = none := List.getElem?_eq_none (by omega)
        simp [List.getD, h1]
        exact M.refl _
  have hinj : ((allL p.toNat C.length).map fun cs => (ex cs).choose).Nodup := by
    refine nodup_map (allL_nodup _ _) fun cs hc ds hd e => ?_
    obtain ⟨c1, c2⟩ := mem_allL.mp hc
    obtain ⟨d1, d2⟩ := mem_allL.mp hd
    have e1 := (ex cs).choose_spec.2
    have e2 := (ex ds).choose_spec.2
    have e : (ex cs).choose = (ex ds).choose := e
    rw [e] at e1
    have key := ind_inj hC c1 d1 (e1.trans e2.symm)
    refine List.ext_getElem (by omega) fun i hi hj => ?_
    have k := key i
    have a1 : cs.getD i 0 = cs[i] := by simp [List.getD, hi]
    have a2 : ds.getD i 0 = ds[i] := by simp [List.getD, hj]
    rw [a1, a2] at k
    have b1 := c2 cs[i] (List.getElem_mem hi)
    have b2 := d2 ds[i] (List.getElem_mem hj)
    rw [hP] at b1 b2
    exact M.eq k b1 b2
  have := nodup_len hinj (m := allL p.toNat D.length) fun x hx => by
    obtain ⟨cs, _, rfl⟩ := List.mem_map.mp hx
    exact (ex cs).choose_spec.1
  rw [List.length_map, allL_len, allL_len] at this
  exact (Nat.pow_le_pow_iff_right (by omega)).mp this
theorem Piv.ind {B : List Vc} {π : List Nat} (P : Piv p n B π) : Ind p n B := fun cs hl e i => by
  by_cases hi : i < π.length
  · have a := lin_piv P hl (List.getElem?_eq_getElem hi)
    exact (M.symm a).trans (e _ (P.lt _ (List.getElem_mem hi)))
  · have h1 : cs[i]? = none := List.getElem?_eq_none (by rw [hl, ← P.len]; omega)
    have : cs.getD i 0 = 0 := by simp [List.getD, h1]
    rw [this]
    exact M.refl 0
/-- rows that make the same are as many -/
theorem piv_len (hp : 1 < p) {B C : List Vc} {π ρ : List Nat} (P : Piv p n B π) (Q : Piv p n C ρ) (h : ∀ v, Span p n B v ↔ Span p n C v) : B.length = C.length :=
  Nat.le_antisymm (ind_le hp P.ind fun b hb => (h b).mp (Span.mem hb)) (ind_le hp Q.ind fun c hc => (h c).mpr (Span.mem hc))
/-! ### the first item -/
theorem hd_ex {v : Vc} (h : ¬ Eq' p n v fun _ => 0) : ∃ k, Hd p n v k := by
  have : ∀ m, m ≤ n → (∀ j, j < m → M p (v j) 0) ∨ ∃ k, Hd p n v k := by
    intro m
    induction m with
    | zero => exact fun _ => .inl fun j hj => absurd hj (Nat.not_lt_zero j)
    | succ m ih =>
      intro hm
      rcases ih (by omega) with h0 | h0
      · by_cases hz : M p (v m) 0
        · exact .inl fun j hj => by
            by_cases hjm : j = m
            · rw [hjm]; exact hz
            · exact h0 j (by omega)
        · exact .inr ⟨m, by omega, hz, h0⟩
      · exact .inr h0
  rcases this n (Nat.le_refl n) with h0 | h0
  · exact absurd h0 h
  · exact h0
/-! ### some of the rows -/
theorem Piv.cons {b : Vc} {B : List Vc} {h : Nat} {π : List Nat} (P : Piv p n B π) (hn : h < n) (h1 : M p (b h) 1) (h2 : ∀ k ∈ π, M p (b k) 0) (h3 : ∀ c ∈ B, M p (c h) 0) : Piv p n (b :: B) (h :: π) := by
  refine ⟨by rw [List.length_cons, List.length_cons, P.len], fun x hx => ?_, fun i k c x hi hk => ?_⟩
  · rcases List.mem_cons.mp hx with rfl | hx
    · exact hn
    · exact P.lt x hx
  · cases i with
    | zero =>
      obtain rfl : b = c := by simpa using hi
      cases k with
      | zero =>
        obtain rfl : h = x := by simpa using hk
        exact h1
      | succ k =>
        rw [if_neg (by omega)]
        exact h2 x (List.mem_of_getElem? (by simpa using hk))
    | succ i =>
      have hi : B[i]? = some c := by simpa using hi
      cases k with
      | zero =>
        obtain rfl : h = x := by simpa using hk
        rw [if_neg (by omega)]
        exact h3 c (List.mem_of_getElem? hi)
      | succ k =>
        have := P.del i k c x hi (by simpa using hk)
        by_cases e : i = k
        · rw [if_pos (by omega)]; rwa [if_pos e] at this
        · rw [if_neg (by omega)]; rwa [if_neg e] at this
theorem Piv.parts {b : Vc} {B : List Vc} {h : Nat} {π : List Nat} (P : Piv p n (b :: B) (h :: π)) : h < n ∧ M p (b h) 1 ∧ (∀ k ∈ π, M p (b k) 0) ∧ ∀ c ∈ B, M p (c h) 0 := by
  refine ⟨P.lt h List.mem_cons_self, P.del 0 0 b h rfl rfl, fun k hk => ?_, fun c hc => ?_⟩
  · obtain ⟨i, hi⟩ := at_idx hk
    exact P.del 0 (i + 1) b k rfl (by simpa using hi)
  · obtain ⟨i, hi⟩ := at_idx hc
    exact P.del (i + 1) 0 c h (by simpa using hi) rfl
def selB (q : Nat → Bool) : List Vc → List Nat → List Vc
  | b :: B, h :: π => if q h then b :: selB q B π else selB q B π
  | _, _ => []
theorem sel_mem {q : Nat → Bool} : ∀ {B : List Vc} {π : List Nat} {c : Vc}, c ∈ selB q B π → c ∈ B
  | [], _, c, h => by cases h
  | b :: B, [], c, h => by cases h
  | b :: B, k :: π, c, h => by
    unfold selB at h
    split at h
    · rcases List.mem_cons.mp h with rfl | h
      · exact List.mem_cons_self
      · exact List.mem_cons_of_mem _ (sel_mem h)
    · exact List.mem_cons_of_mem _ (sel_mem h)
theorem sel_piv {q : Nat → Bool} : ∀ {B : List Vc} {π : List Nat}, Piv p n B π → Piv p n (selB q B π) (π.filter q)
  | [], [], P => P
  | [], _ :: _, P => absurd P.len (by simp)
  | _ :: _, [], P => absurd P.len (by simp)
  | b :: B, h :: π, P => by
    obtain ⟨h0, h1, h2, h3⟩ := P.parts
    have ih := sel_piv (q := q) P.tail
    unfold selB
    rw [List.filter_cons]
    split
    · exact ih.cons h0 h1 (fun k hk => h2 k (List.mem_filter.mp hk).1) fun c hc => h3 c (sel_mem hc)
    · exact ih
theorem sel_lin {q : Nat → Bool} {v : Vc} {j : Nat} : ∀ {B : List Vc} {π : List Nat}, B.length = π.length → (∀ h ∈ π, q h = false → M p (v h) 0) → M p (lin (π.map v) B j) (lin ((π.filter q).map v) (selB q B π) j)
  | [], [], _, _ => M.refl _
  | [], _ :: _, e, _ => by simp at e
  | _ :: _, [], e, _ => by simp at e
  | b :: B, h :: π, e, hz => by
    have ih := sel_lin (q := q) (v := v) (j := j) (B := B) (π := π) (by simpa using e) fun k hk => hz k (List.mem_cons_of_mem _ hk)
    unfold selB
    rw [List.filter_cons]
    cases hq : q h with
    | true =>
      simp only [if_true, List.map_cons, lin]
      exact M.add (M.refl _) ih
    | false =>
      simp only [Bool.false_eq_true, if_false, List.map_cons, lin]
      have := M.add (M.mul (hz h List.mem_cons_self hq) (M.refl (b j))) ih
      simpa using this
/-- what some of the rows make has nought at the other places -/
theorem sel_zero {q : Nat → Bool} {B : List Vc} {π : List Nat} (P : Piv p n B π) (nd : π.Nodup) {v : Vc} (hv : Span p n (selB q B π) v) {h : Nat} (hh : h ∈ π) (hq : q h = false) : M p (v h) 0 := by
  have hb : ∀ {B : List Vc} {π : List Nat}, Piv p n B π → π.Nodup → h ∈ π → ∀ c ∈ selB q B π, M p (c h) 0 := by
    intro B
    induction B with
    | nil => intro π _ _ _ c hc; cases hc
    | cons b B ih =>
      intro π P nd hm c hc
      cases π with
      | nil => cases hm
      | cons k π =>
        obtain ⟨h0, h1, h2, h3⟩ := P.parts
        obtain ⟨n1, n2⟩ := List.nodup_cons.mp nd
        unfold selB at hc
        rcases List.mem_cons.mp hm with rfl | hm
        · rw [hq] at hc
          exact h3 c (sel_mem (by simpa using hc))
        · split at hc
          · rcases List.mem_cons.mp hc with rfl | hc
            · exact h2 h hm
            · exact ih P.tail n2 hm c hc
          · exact ih P.tail n2 hm c hc
  have hlt := P.lt h hh
  have S : Sub p n fun u => M p (u h) 0 := ⟨fun {u v} hu e => M.trans (e h hlt) hu, M.refl 0, fun {u v} hu hv => by
    have := M.add hu hv
    simpa using this, fun t {u} hu => by
    have := M.mul (M.refl t) hu
    simpa using this⟩
  exact S.span (hb P nd hh) hv
/-! ### joined and met -/
theorem lin_app {j : Nat} : ∀ {cs : List Int} {B : List Vc} (ds : List Int) (C : List Vc), cs.length = B.length → lin (cs ++ ds) (B ++ C) j = lin cs B j + lin ds C j
  | [], [], ds, C, _ => by simp [lin]
  | [], _ :: _, _, _, e => by simp at e
  | _ :: _, [], _, _, e => by simp at e
  | c :: cs, b :: B, ds, C, e => by
    simp only [List.cons_append, lin]
    rw [lin_app (cs := cs) (B := B) ds C (by simpa using e)]
    omega
theorem span_app {B C : List Vc} {v : Vc} : Span p n (B ++ C) v ↔ ∃ u w, Span p n B u ∧ Span p n C w ∧ Eq' p n v fun j => u j + w j := by
  constructor
  · rintro ⟨cs, hl, e⟩
    rw [List.length_append] at hl
    have h1 : (cs.take B.length).length = B.length := by rw [List.length_take]; omega
    refine ⟨lin (cs.take B.length) B, lin (cs.drop B.length) C, ⟨_, h1, Eq'.refl _⟩, ⟨_, by rw [List.length_drop]; omega, Eq'.refl _⟩, fun j hj => ?_⟩
    have := e j hj
    rw [← List.take_append_drop B.length cs, lin_app _ _ h1] at this
    exact this
  · rintro ⟨u, w, ⟨cs, hl, e⟩, ⟨ds, hm, k⟩, h⟩
    refine ⟨cs ++ ds, by rw [List.length_append, List.length_append, hl, hm], fun j hj => ?_⟩
    show M p _ _
    rw [lin_app _ _ hl]
    exact M.trans (h j hj) (M.add (e j hj) (k j hj))
theorem filt_split {α : Type} (q : α → Bool) : ∀ l : List α, (l.filter q).length + (l.filter fun x => !q x).length = l.length
  | [] => rfl
  | x :: l => by
    have := filt_split q l
    rw [List.filter_cons, List.filter_cons]
    cases q x <;> simp <;> omega
theorem nodup_inc {l : List Nat} (h : l.Pairwise (· < ·)) : l.Nodup := h.imp fun h => Nat.ne_of_lt h
theorem Rref.nd {B : List Vc} {π : List Nat} (R : Rref p n B π) : π.Nodup := nodup_inc R.inc
theorem dim_sum (hp : 1 < p) {B C E J : List Vc} {π ρ ε σ : List Nat} (R : Rref p n B π) (S : Rref p n C ρ) (T : Rref p n E ε) (hE : ∀ v, Span p n E v ↔ Span p n B v ∧ Span p n C v) (Q : Rref p n J σ) (hJ : ∀ v, Span p n J v ↔ Span p n (B ++ C) v) :
    J.length + E.length = B.length + C.length := by
  have sub : ∀ x ∈ ε, x ∈ π := T.sub_heads hp R fun v hv => ((hE v).mp hv).1
  let q : Nat → Bool := fun h => !ε.contains h
  have P' := sel_piv (q := q) R.toPiv
  have le : ε.length + (π.filter q).length = π.length := by
    have h1 := filt_split (fun h => ε.contains h) π
    have h2 : π.filter (fun h => ε.contains h) = ε := inc_eq (R.inc.filter _) T.inc fun x => by
      rw [List.mem_filter, List.contains_iff_mem]
      exact ⟨fun h => h.2, fun h => ⟨sub x h, h⟩⟩
    rw [h2] at h1
    exact h1
  -- none makes another one
  have ind : Ind p n (selB q B π ++ C) := by
    intro cs hl e i
    rw [List.length_append] at hl
    have hl1 : (cs.take (selB q B π).length).length = (selB q B π).length := by rw [List.length_take]; omega
    have hl2 : (cs.drop (selB q B π).length).length = C.length := by rw [List.length_drop]; omega
    have e' : ∀ j, j < n → M p (lin (cs.take (selB q B π).length) (selB q B π) j + lin (cs.drop (selB q B π).length) C j) 0 := fun j hj => by
      have := e j hj
      rw [← List.take_append_drop (selB q B π).length cs, lin_app _ _ hl1] at this
      exact this
    have v1 : Span p n (selB q B π) (lin (cs.take (selB q B π).length) (selB q B π)) := ⟨_, hl1, Eq'.refl _⟩
    have v2 : Span p n B (lin (cs.take (selB q B π).length) (selB q B π)) := (span_sub B).span (fun b hb => Span.mem (sel_mem hb)) v1
    have v3 : Span p n C (lin (cs.take (selB q B π).length) (selB q B π)) := by
      have w : Span p n C (lin (cs.drop (selB q B π).length) C) := ⟨_, hl2, Eq'.refl _⟩
      refine (w.mul (-1)).of_eq fun j hj => ?_
      have := e' j hj
      unfold M at this
      rwa [show lin (cs.take (selB q B π).length) (selB q B π) j - -1 * lin (cs.drop (selB q B π).length) C j = lin (cs.take (selB q B π).length) (selB q B π) j + lin (cs.drop (selB q B π).length) C j - 0 by omega]
    have z : Eq' p n (lin (cs.take (selB q B π).length) (selB q B π)) fun _ => 0 := by
      apply Classical.byContradiction
      intro hz
      obtain ⟨h, hh⟩ := hd_ex hz
      have he := T.head ((hE _).mpr ⟨v2, v3⟩) hh
      exact hh.2.1 (sel_zero R.toPiv R.nd v1 (sub h he) (by show (!ε.contains h) = false; rw [List.contains_iff_mem.mpr he]; rfl))
    have k1 := P'.ind _ hl1 z
    have k2 := S.toPiv.ind _ hl2 fun j hj => by
      have a := e' j hj
      have b := z j hj
      have := M.sub a b
      show M p _ _
      have e3 : lin (cs.take (selB q B π).length) (selB q B π) j + lin (cs.drop (selB q B π).length) C j - lin (cs.take (selB q B π).length) (selB q B π) j = lin (cs.drop (selB q B π).length) C j := by omega
      rw [e3] at this
      simpa using this
    by_cases hi : i < (selB q B π).length
    · have := k1 i
      have e4 : (cs.take (selB q B π).length).getD i 0 = cs.getD i 0 := by simp [List.getD, List.getElem?_take, hi]
      rwa [e4] at this
    · have := k2 (i - (selB q B π).length)
      have e4 : (cs.drop (selB q B π).length).getD (i - (selB q B π).length) 0 = cs.getD i 0 := by
        simp only [List.getD, List.getElem?_drop]
        rw [show (selB q B π).length + (i - (selB q B π).length) = i by omega]
      rwa [e4] at this
  -- they make all
  have all : ∀ v, Span p n (B ++ C) v → Span p n (selB q B π ++ C) v := by
    intro v hv
    refine (span_sub _).span (fun b hb => ?_) hv
    rcases List.mem_append.mp hb with hb | hb
    · -- a row of the first
      have hbs : Span p n B b := Span.mem hb
      let t := lin (ε.map b) E
      have ht : Span p n E t := ⟨_, by rw [List.length_map, T.len], Eq'.refl _⟩
      obtain ⟨t1, t2⟩ := (hE t).mp ht
      have hu : Span p n B fun j => b j + -1 * t j := hbs.add (t1.mul (-1))
      have hz : ∀ h ∈ π, q h = false → M p ((fun j => b j + -1 * t j) h) 0 := by
        intro h hh hq
        have he : h ∈ ε := by
          have : (!ε.contains h) = false := hq
          apply List.contains_iff_mem.mp
          cases hc : ε.contains h with
          | true => rfl
          | false => rw [hc] at this; cases this
        obtain ⟨k, hk⟩ := at_idx he
        have a := lin_piv T.toPiv (cs := ε.map b) (by rw [List.length_map, T.len]) hk
        have e5 : (ε.map b).getD k 0 = b h := by simp [List.getD, List.getElem?_map, hk]
        rw [e5] at a
        have := M.add (M.refl (p := p) (b h)) (M.mul (M.refl (-1)) a)
        have e6 : b h + -1 * b h = 0 := by omega
        rwa [e6] at this
      have hu2 : Span p n (selB q B π) fun j => b j + -1 * t j := ⟨(π.filter q).map fun j => b j + -1 * t j, by rw [List.length_map, P'.len], fun j hj => M.trans (coords R.toPiv hu j hj) (sel_lin R.len.symm hz)⟩
      refine span_app.mpr ⟨_, t, hu2, t2, fun j _ => ?_⟩
      have e7 : b j + -1 * t j + t j = b j := by omega
      show M p (b j) (b j + -1 * t j + t j)
      rw [e7]
      exact M.refl _
    · exact Span.mem (List.mem_append_right _ hb)
  have l1 : J.length = (selB q B π ++ C).length := Nat.le_antisymm
    (ind_le hp Q.toPiv.ind fun b hb => all b ((hJ b).mp (Span.mem hb)))
    (ind_le hp ind fun b hb => (hJ b).mpr (by
      rcases List.mem_append.mp hb with hb | hb
      · exact Span.mem (List.mem_append_left _ (sel_mem hb))
      · exact Span.mem (List.mem_append_right _ hb)))
  rw [List.length_append] at l1
  have h1 := P'.len
  have h2 := R.len
  have h3 := T.len
  omega
theorem frees_len {B : List Vc} {π : List Nat} (R : Rref p n B π) : (frees n π).length + B.length = n := by
  have h1 := filt_split (fun j => !π.contains j) (List.range n)
  have h2 : (List.range n).filter (fun j => !!π.contains j) = π := inc_eq (List.pairwise_lt_range.filter _) R.inc fun x => by
    rw [List.mem_filter, Bool.not_not, List.contains_iff_mem, List.mem_range]
    exact ⟨fun h => h.2, fun h => ⟨R.lt x h, h⟩⟩
  rw [h2, List.length_range] at h1
  have := R.len
  unfold frees
  omega
theorem rref_le {B : List Vc} {π : List Nat} (R : Rref p n B π) : B.length ≤ n := by have := frees_len R; omega
/-- one within the other -/
theorem sub_len (hp : 1 < p) {B C : List Vc} {π ρ : List Nat} (R : Rref p n B π) (S : Rref p n C ρ) (h : ∀ v, Span p n B v → Span p n C v) (hl : B.length = C.length) : ∀ v, Span p n C v → Span p n B v := by
  have sub := R.sub_heads hp S h
  have e : π = ρ := by
    refine inc_eq R.inc S.inc fun x => ⟨sub x, fun hx => ?_⟩
    apply Classical.byContradiction
    intro hn
    have := nodup_len (l := x :: π) (m := ρ) (List.nodup_cons.mpr ⟨hn, R.nd⟩) fun y hy => by
      rcases List.mem_cons.mp hy with rfl | hy
      · exact hx
      · exact sub y hy
    rw [List.length_cons, R.len, S.len] at this
    omega
  subst e
  intro v hv
  refine (span_sub B).span (fun c hc => ?_) hv
  obtain ⟨i, hi⟩ := at_idx hc
  obtain ⟨x, hx⟩ := at_len S.len.symm hi
  obtain ⟨b, hb⟩ := at_len R.len hx
  have hbC := h b (Span.mem (List.mem_of_getElem? hb))
  refine Span.of_eq (Span.mem (List.mem_of_getElem? hb)) ?_
  have e1 := coords S.toPiv hbC
  have e2 := coords S.toPiv (Span.mem hc)
  refine e2.trans (Eq'.trans (fun j hj => lin_M (by simp) fun k => ?_) e1.symm)
  rw [List.getD_eq_getElem?_getD, List.getD_eq_getElem?_getD, List.getElem?_map, List.getElem?_map]
  cases hk : π[k]? with
  | none => exact M.refl _
  | some y => exact (S.del i k c y hi hk).trans (R.del i k b y hb hk).symm
end
end LA

/-! Q31: rows cleared by a row. -/
namespace LA
/-- all items numbers of the field -/
def Red (p : Int) (n : Nat) (v : Vc) : Prop := ∀ j, j < n → 0 ≤ v j ∧ v j < p
/-- cleared at h by t -/
def clr (p : Int) (h : Nat) (t o : Vc) : Vc := fun j => (o j - o h * t j) % p
/-- times c -/
def scl (p c : Int) (o : Vc) : Vc := fun j => (c * o j) % p
section
variable {p : Int} {n : Nat}
theorem clr_M {h : Nat} {t o : Vc} (j : Nat) : M p (clr p h t o j) (o j - o h * t j) := M.emod _
theorem scl_M {c : Int} {o : Vc} (j : Nat) : M p (scl p c o j) (c * o j) := M.emod _
theorem clr_red (hp : 0 < p) {h : Nat} {t o : Vc} : Red p n (clr p h t o) := fun j _ => ⟨Int.emod_nonneg _ (by omega), Int.emod_lt_of_pos _ hp⟩
theorem scl_red (hp : 0 < p) {c : Int} {o : Vc} : Red p n (scl p c o) := fun j _ => ⟨Int.emod_nonneg _ (by omega), Int.emod_lt_of_pos _ hp⟩
theorem Red.zero {v : Vc} (r : Red p n v) {j : Nat} (hj : j < n) (h : M p (v j) 0) (hp : 0 < p) : v j = 0 := M.eq h (r j hj) (by omega)
theorem clr_same {h : Nat} {t o : Vc} (r : Red p n o) (hz : o h = 0) : ∀ j, j < n → clr p h t o j = o j := fun j hj => by
  unfold clr
  rw [hz, Int.zero_mul, Int.sub_zero]
  exact Int.emod_eq_of_lt (r j hj).1 (r j hj).2
theorem Sub.clr {S : Vc → Prop} (h : Sub p n S) {k : Nat} {t o : Vc} (ht : S t) (ho : S o) : S (clr p k t o) := by
  refine h.eq (h.add ho (h.mul (-(o k)) ht)) fun j _ => ?_
  have := clr_M (p := p) (h := k) (t := t) (o := o) j
  rwa [show o j - o k * t j = o j + -(o k) * t j by rw [Int.neg_mul]; omega] at this
theorem Sub.unclr {S : Vc → Prop} (h : Sub p n S) {k : Nat} {t o : Vc} (ht : S t) (ho : S (LA.clr p k t o)) : S o := by
  refine h.eq (h.add ho (h.mul (o k) ht)) fun j _ => ?_
  have := M.add (clr_M (p := p) (h := k) (t := t) (o := o) j) (M.refl (o k * t j))
  rw [show o j - o k * t j + o k * t j = o j by omega] at this
  exact this.symm
theorem Sub.scl {S : Vc → Prop} (h : Sub p n S) {c : Int} {o : Vc} (ho : S o) : S (scl p c o) := h.eq (h.mul c ho) fun j _ => scl_M j
theorem Sub.unscl {S : Vc → Prop} (h : Sub p n S) {c d : Int} (hc : M p (d * c) 1) {o : Vc} (ho : S (LA.scl p c o)) : S o := by
  refine h.eq (h.mul d ho) fun j _ => ?_
  have h1 := M.mul (M.refl d) (scl_M (p := p) (c := c) (o := o) j)
  have h2 := M.mul hc (M.refl (o j))
  rw [← Int.mul_assoc] at h1
  rw [Int.one_mul] at h2
  exact (h1.trans h2).symm
/-! ### places and rows -/
structure Gd (p : Int) (n : Nat) (L : List (Nat × Vc)) : Prop where
  lt : ∀ q ∈ L, q.1 < n
  one : ∀ q ∈ L, M p (q.2 q.1) 1
  lead : ∀ q ∈ L, ∀ j, j < q.1 → M p (q.2 j) 0
  off : ∀ q ∈ L, ∀ r ∈ L, q.1 ≠ r.1 → M p (q.2 r.1) 0
  nd : (L.map Prod.fst).Nodup
theorem Gd.nil : Gd p n [] := ⟨(fun _ h => nomatch h), (fun _ h => nomatch h), (fun _ h => nomatch h), (fun _ h => nomatch h), List.nodup_nil⟩
theorem Gd.perm {L L' : List (Nat × Vc)} (h : L.Perm L') (G : Gd p n L) : Gd p n L' :=
  ⟨fun q hq => G.lt q (h.mem_iff.mpr hq), fun q hq => G.one q (h.mem_iff.mpr hq), fun q hq => G.lead q (h.mem_iff.mpr hq), fun q hq r hr => G.off q (h.mem_iff.mpr hq) r (h.mem_iff.mpr hr), (h.map Prod.fst).nodup_iff.mp G.nd⟩
theorem Gd.rref {L : List (Nat × Vc)} (G : Gd p n L) (hs : (L.map Prod.fst).Pairwise (· < ·)) : Rref p n (L.map Prod.snd) (L.map Prod.fst) := by
  refine { len := by simp, lt := fun h hh => ?_, del := fun i k b h hb hh => ?_, inc := hs, lead := fun i b h hb hh => ?_ }
  · obtain ⟨q, hq, rfl⟩ := List.mem_map.mp hh
    exact G.lt q hq
  · rw [List.getElem?_map] at hb hh
    obtain ⟨q, hq, rfl⟩ := Option.map_eq_some_iff.mp hb
    obtain ⟨r, hr, rfl⟩ := Option.map_eq_some_iff.mp hh
    by_cases e : i = k
    · subst e
      obtain rfl : q = r := Option.some.inj (hq.symm.trans hr)
      rw [if_pos rfl]
      exact G.one q (List.mem_of_getElem? hq)
    · rw [if_neg e]
      refine G.off q (List.mem_of_getElem? hq) r (List.mem_of_getElem? hr) fun e2 => e ?_
      obtain ⟨hi, e3⟩ := List.getElem?_eq_some_iff.mp hq
      obtain ⟨hk, e4⟩ := List.getElem?_eq_some_iff.mp hr
      exact (List.getElem_inj (i := i) (j := k) (h₀ := by rw [List.length_map]; exact hi) (h₁ := by rw [List.length_map]; exact hk) G.nd).mp (by rw [List.getElem_map, List.getElem_map, e3, e4]; exact e2)
  · rw [List.getElem?_map] at hb hh
    obtain ⟨q, hq, rfl⟩ := Option.map_eq_some_iff.mp hb
    obtain ⟨r, hr, rfl⟩ := Option.map_eq_some_iff.mp hh
    obtain rfl : q = r := Option.some.inj (hq.symm.trans hr)
    exact G.lead q (List.mem_of_getElem? hq)
theorem zip_fst {α β : Type} : ∀ {l : List α} {m : List β}, l.length = m.length → (l.zip m).map Prod.fst = l ∧ (l.zip m).map Prod.snd = m
  | [], [], _ => ⟨rfl, rfl⟩
  | [], _ :: _, h => nomatch h
  | _ :: _, [], h => nomatch h
  | x :: l, y :: m, h => by
    obtain ⟨h1, h2⟩ := zip_fst (l := l) (m := m) (by simpa using h)
    exact ⟨by simp only [List.zip_cons_cons, List.map_cons, h1], by simp only [List.zip_cons_cons, List.map_cons, h2]⟩
theorem Rref.gd {B : List Vc} {π : List Nat} (R : Rref p n B π) : Gd p n (π.zip B) := by
  have at_ : ∀ q ∈ π.zip B, ∃ i : Nat, π[i]? = some q.1 ∧ B[i]? = some q.2 := fun q hq => by
    obtain ⟨i, hi⟩ := at_idx hq
    rw [List.getElem?_zip_eq_some] at hi
    exact ⟨i, hi⟩
  refine ⟨fun q hq => ?_, fun q hq => ?_, fun q hq => ?_, fun q hq r hr hn => ?_, ?_⟩
  · obtain ⟨i, h1, h2⟩ := at_ q hq
    exact R.lt _ (List.mem_of_getElem? h1)
  · obtain ⟨i, h1, h2⟩ := at_ q hq
    have := R.del i i _ _ h2 h1
    rwa [if_pos rfl] at this
  · obtain ⟨i, h1, h2⟩ := at_ q hq
    exact R.lead i _ _ h2 h1
  · obtain ⟨i, h1, h2⟩ := at_ q hq
    obtain ⟨k, h3, h4⟩ := at_ r hr
    have := R.del i k _ _ h2 h3
    rwa [if_neg (by rintro rfl; exact hn (Option.some.inj (h1.symm.trans h3)))] at this
  · rw [(zip_fst R.len).1]
    exact R.nd
/-- a further row -/
theorem Gd.add (hp : 1 < p) {L : List (Nat × Vc)} (G : Gd p n L) {h : Nat} {t : Vc} (hn : h < n) (h1 : M p (t h) 1) (h2 : ∀ j, j < h → M p (t j) 0) (h3 : ∀ q ∈ L, M p (t q.1) 0) : Gd p n ((h, t) :: L.map fun q => (q.1, clr p h t q.2)) := by
  have ne : ∀ q ∈ L, q.1 ≠ h := fun q hq e => by
    have := h3 q hq
    rw [e] at this
    exact one_not hp (h1.symm.trans this)
  have c0 : ∀ q ∈ L, ∀ j, M p (t j) 0 → M p (q.2 j) 0 → M p (clr p h t q.2 j) 0 := fun q _ j a b => by
    have := M.sub b (M.mul (M.refl (q.2 h)) a)
    rw [Int.mul_zero, Int.sub_zero] at this
    exact (clr_M j).trans this
  refine ⟨fun q hq => ?_, fun q hq => ?_, fun q hq j hj => ?_, fun q hq r hr hne => ?_, ?_⟩
  · rcases List.mem_cons.mp hq with rfl | hq
    · exact hn
    · obtain ⟨q0, h0, rfl⟩ := List.mem_map.mp hq
      exact G.lt q0 h0
  · rcases List.mem_cons.mp hq with rfl | hq
    · exact h1
    · obtain ⟨q0, h0, rfl⟩ := List.mem_map.mp hq
      have := M.sub (G.one q0 h0) (M.mul (M.refl (q0.2 h)) (h3 q0 h0))
      rw [Int.mul_zero, Int.sub_zero] at this
      exact (clr_M _).trans this
  · rcases List.mem_cons.mp hq with rfl | hq
    · exact h2 j hj
    · obtain ⟨q0, h0, rfl⟩ := List.mem_map.mp hq
      have hj : j < q0.1 := hj
      rcases Nat.lt_trichotomy h q0.1 with hl | he | hg
      · have a := G.lead q0 h0 h hl
        have := M.sub (G.lead q0 h0 j hj) (M.mul a (M.refl (t j)))
        rw [Int.zero_mul, Int.sub_zero] at this
        exact (clr_M j).trans this
      · exact absurd he.symm (ne q0 h0)
      · exact c0 q0 h0 j (h2 j (by omega)) (G.lead q0 h0 j hj)
  · rcases List.mem_cons.mp hq with rfl | hq
    · rcases List.mem_cons.mp hr with rfl | hr
      · exact absurd rfl hne
      · obtain ⟨r0, k0, rfl⟩ := List.mem_map.mp hr
        exact h3 r0 k0
    · obtain ⟨q0, h0, rfl⟩ := List.mem_map.mp hq
      rcases List.mem_cons.mp hr with rfl | hr
      · have := M.sub (M.refl (p := p) (q0.2 h)) (M.mul (M.refl (q0.2 h)) h1)
        rw [Int.mul_one, Int.sub_self] at this
        exact (clr_M h).trans this
      · obtain ⟨r0, k0, rfl⟩ := List.mem_map.mp hr
        exact c0 q0 h0 r0.1 (h3 r0 k0) (G.off q0 h0 r0 k0 hne)
  · rw [List.map_cons, List.map_map]
    refine List.nodup_cons.mpr ⟨fun hm => ?_, G.nd⟩
    obtain ⟨q, hq, e⟩ := List.mem_map.mp hm
    exact ne q hq e
theorem add_span {L : List (Nat × Vc)} {h : Nat} {t : Vc} (x : Vc) : Span p n (((h, t) :: L.map fun q => (q.1, clr p h t q.2)).map Prod.snd) x ↔ Span p n (t :: L.map Prod.snd) x := by
  constructor
  · refine fun hx => (span_sub _).span (fun b hb => ?_) hx
    obtain ⟨q, hq, rfl⟩ := List.mem_map.mp hb
    rcases List.mem_cons.mp hq with rfl | hq
    · exact Span.mem List.mem_cons_self
    · obtain ⟨q0, h0, rfl⟩ := List.mem_map.mp hq
      exact (span_sub _).clr (Span.mem List.mem_cons_self) (Span.mem (List.mem_cons_of_mem _ (List.mem_map.mpr ⟨q0, h0, rfl⟩)))
  · refine fun hx => (span_sub _).span (fun b hb => ?_) hx
    have ht : Span p n (((h, t) :: L.map fun q => (q.1, clr p h t q.2)).map Prod.snd) t := Span.mem (List.mem_map.mpr ⟨(h, t), List.mem_cons_self, rfl⟩)
    rcases List.mem_cons.mp hb with rfl | hb
    · exact ht
    · obtain ⟨q0, h0, rfl⟩ := List.mem_map.mp hb
      exact (span_sub _).unclr ht (Span.mem (List.mem_map.mpr ⟨(q0.1, clr p h t q0.2), List.mem_cons_of_mem _ (List.mem_map.mpr ⟨q0, h0, rfl⟩), rfl⟩))
/-! ### a row reduced -/
def redF (p : Int) : List (Nat × Vc) → Vc → Vc
  | [], v => v
  | q :: L, v => redF p L (clr p q.1 q.2 v)
theorem redF_red (hp : 0 < p) : ∀ {L : List (Nat × Vc)} {v : Vc}, Red p n v → Red p n (redF p L v)
  | [], _, h => h
  | q :: L, v, _ => redF_red hp (L := L) (clr_red hp)
theorem redF_sub {S : Vc → Prop} (h : Sub p n S) : ∀ {L : List (Nat × Vc)} {v : Vc}, (∀ q ∈ L, S q.2) → (S (redF p L v) ↔ S v)
  | [], _, _ => Iff.rfl
  | q :: L, v, hL => (redF_sub h (L := L) fun r hr => hL r (List.mem_cons_of_mem _ hr)).trans ⟨fun k => h.unclr (hL q List.mem_cons_self) k, fun k => h.clr (hL q List.mem_cons_self) k⟩
theorem redF_keep {k : Nat} : ∀ {L : List (Nat × Vc)} {v : Vc}, (∀ q ∈ L, M p (q.2 k) 0) → M p (v k) 0 → M p (redF p L v k) 0
  | [], _, _, h => h
  | q :: L, v, hL, h => redF_keep (L := L) (fun r hr => hL r (List.mem_cons_of_mem _ hr)) (by
    have := M.sub h (M.mul (M.refl (v q.1)) (hL q List.mem_cons_self))
    rw [Int.mul_zero, Int.sub_zero] at this
    exact (clr_M k).trans this)
theorem redF_zero : ∀ {L : List (Nat × Vc)} {v : Vc}, (∀ q ∈ L, M p (q.2 q.1) 1) → (∀ q ∈ L, ∀ r ∈ L, q.1 ≠ r.1 → M p (q.2 r.1) 0) → (L.map Prod.fst).Nodup → ∀ q ∈ L, M p (redF p L v q.1) 0
  | [], _, _, _, _, q, hq => nomatch hq
  | r :: L, v, h1, h2, hn, q, hq => by
    obtain ⟨n1, n2⟩ := List.nodup_cons.mp hn
    rcases List.mem_cons.mp hq with rfl | hq
    · refine redF_keep (L := L) (fun s hs => h2 s (List.mem_cons_of_mem _ hs) q List.mem_cons_self fun e => n1 (List.mem_map.mpr ⟨s, hs, e⟩)) ?_
      have := M.sub (M.refl (p := p) (v q.1)) (M.mul (M.refl (v q.1)) (h1 q List.mem_cons_self))
      rw [Int.mul_one, Int.sub_self] at this
      exact (clr_M q.1).trans this
    · exact redF_zero (fun s hs => h1 s (List.mem_cons_of_mem _ hs)) (fun s hs u hu => h2 s (List.mem_cons_of_mem _ hs) u (List.mem_cons_of_mem _ hu)) n2 q hq
/-- within the span: nothing is left -/
theorem redF_in {B : List Vc} {π : List Nat} (R : Rref p n B π) {v : Vc} : Eq' p n (redF p (π.zip B) v) (fun _ => 0) ↔ Span p n B v := by
  have G := R.gd
  have e : ∀ q ∈ π.zip B, Span p n B q.2 := fun q hq => Span.mem (by
    have : q.2 ∈ (π.zip B).map Prod.snd := List.mem_map.mpr ⟨q, hq, rfl⟩
    rw [(zip_fst R.len).2] at this
    exact this)
  have s := redF_sub (span_sub (p := p) (n := n) B) (L := π.zip B) (v := v) e
  constructor
  · intro h
    exact s.mp (Span.zero.of_eq h)
  · intro h
    have h2 := s.mpr h
    refine (coords R.toPiv h2).trans fun j hj => ?_
    refine lin_0 fun i c b hc hb => ?_
    rw [List.getElem?_map] at hc
    obtain ⟨k, hk, rfl⟩ := Option.map_eq_some_iff.mp hc
    have : k ∈ (π.zip B).map Prod.fst := by rw [(zip_fst R.len).1]; exact List.mem_of_getElem? hk
    obtain ⟨q, hq, rfl⟩ := List.mem_map.mp this
    have := M.mul (redF_zero G.one G.off G.nd q hq (v := v)) (M.refl (b j))
    rwa [Int.zero_mul] at this
end
end LA

/-! Q32: rows led on: as many as are not led to nought. -/
namespace LA
section
variable {p : Int} {n : Nat}
/-- what leads sums to sums -/
structure Lin (p : Int) (n : Nat) (φ : Vc → Vc) : Prop where
  eq : ∀ {u v}, Eq' p n u v → Eq' p n (φ u) (φ v)
  add : ∀ u v, Eq' p n (φ fun j => u j + v j) fun j => φ u j + φ v j
  mul : ∀ (t : Int) u, Eq' p n (φ fun j => t * u j) fun j => t * φ u j
variable {φ : Vc → Vc}
theorem Lin.zero (L : Lin p n φ) : Eq' p n (φ fun _ => 0) fun _ => 0 := by
  have := L.mul 0 (fun _ => 0)
  refine (L.eq fun j _ => ?_).trans (this.trans fun j _ => ?_)
  · show M p 0 (0 * 0)
    rw [Int.zero_mul]; exact M.refl 0
  · show M p (0 * _) 0
    rw [Int.zero_mul]; exact M.refl 0
theorem Lin.lin (L : Lin p n φ) : ∀ (cs : List Int) (B : List Vc), Eq' p n (φ (LA.lin cs B)) (LA.lin cs (B.map φ))
  | [], B => by cases B <;> exact L.zero
  | c :: cs, [] => L.zero
  | c :: cs, b :: B => by
    refine (L.add (fun j => c * b j) (LA.lin cs B)).trans fun j hj => ?_
    exact M.add (L.mul c b j hj) (L.lin cs B j hj)
theorem Lin.span (L : Lin p n φ) {B : List Vc} {v : Vc} (h : Span p n B v) : Span p n (B.map φ) (φ v) := by
  obtain ⟨cs, hl, e⟩ := h
  exact ⟨cs, by rw [List.length_map, hl], (L.eq e).trans (L.lin cs B)⟩
theorem Lin.image (L : Lin p n φ) {B : List Vc} {w : Vc} : Span p n (B.map φ) w ↔ ∃ v, Span p n B v ∧ Eq' p n w (φ v) := by
  constructor
  · rintro ⟨cs, hl, e⟩
    exact ⟨LA.lin cs B, ⟨cs, by rw [hl, List.length_map], Eq'.refl _⟩, e.trans (L.lin cs B).symm⟩
  · rintro ⟨v, hv, e⟩
    exact (L.span hv).of_eq e
theorem rank (hp : 1 < p) (L : Lin p n φ) {B E I : List Vc} {π ε σ : List Nat} (R : Rref p n B π) (T : Rref p n E ε) (hE : ∀ v, Span p n E v ↔ Span p n B v ∧ Eq' p n (φ v) fun _ => 0) (Q : Rref p n I σ) (hI : ∀ v, Span p n I v ↔ Span p n (B.map φ) v) :
    I.length + E.length = B.length := by
  have sub : ∀ x ∈ ε, x ∈ π := T.sub_heads hp R fun v hv => ((hE v).mp hv).1
  let q : Nat → Bool := fun h => !ε.contains h
  have P' := sel_piv (q := q) R.toPiv
  have le : ε.length + (π.filter q).length = π.length := by
    have h1 := filt_split (fun h => ε.contains h) π
    have h2 : π.filter (fun h => ε.contains h) = ε := inc_eq (R.inc.filter _) T.inc fun x => by
      rw [List.mem_filter, List.contains_iff_mem]
      exact ⟨fun h => h.2, fun h => ⟨sub x h, h⟩⟩
    rw [h2] at h1
    exact h1
  have ind : Ind p n ((selB q B π).map φ) := by
    intro cs hl e i
    rw [List.length_map] at hl
    have v1 : Span p n (selB q B π) (LA.lin cs (selB q B π)) := ⟨_, hl, Eq'.refl _⟩
    have v2 : Span p n B (LA.lin cs (selB q B π)) := (span_sub B).span (fun b hb => Span.mem (sel_mem hb)) v1
    have v3 : Eq' p n (φ (LA.lin cs (selB q B π))) fun _ => 0 := (L.lin cs _).trans fun j hj => e j hj
    have z : Eq' p n (LA.lin cs (selB q B π)) fun _ => 0 := by
      apply Classical.byContradiction
      intro hz
      obtain ⟨h, hh⟩ := hd_ex hz
      have he := T.head ((hE _).mpr ⟨v2, v3⟩) hh
      exact hh.2.1 (sel_zero R.toPiv R.nd v1 (sub h he) (by show (!ε.contains h) = false; rw [List.contains_iff_mem.mpr he]; rfl))
    exact P'.ind _ hl z i
  have all : ∀ b ∈ B, Span p n ((selB q B π).map φ) (φ b) := by
    intro b hb
    have hbs : Span p n B b := Span.mem hb
    let t := LA.lin (ε.map b) E
    have ht : Span p n E t := ⟨_, by rw [List.length_map, T.len], Eq'.refl _⟩
    obtain ⟨t1, t2⟩ := (hE t).mp ht
    have hu : Span p n B fun j => b j + -1 * t j := hbs.add (t1.mul (-1))
    have hz : ∀ h ∈ π, q h = false → M p ((fun j => b j + -1 * t j) h) 0 := by
      intro h hh hq
      have he : h ∈ ε := by
        have : (!ε.contains h) = false := hq
        apply List.contains_iff_mem.mp
        cases hc : ε.contains h with
        | true => rfl
        | false => rw [hc] at this; cases this
      obtain ⟨k, hk⟩ := at_idx he
      have a := lin_piv T.toPiv (cs := ε.map b) (by rw [List.length_map, T.len]) hk
      have e5 : (ε.map b).getD k 0 = b h := by simp [List.getD, List.getElem?_map, hk]
      rw [e5] at a
      have := M.add (M.refl (p := p) (b h)) (M.mul (M.refl (-1)) a)
      have e6 : b h + -1 * b h = 0 := by omega
      rwa [e6] at this
    have hu2 : Span p n (selB q B π) fun j => b j + -1 * t j := ⟨(π.filter q).map fun j => b j + -1 * t j, by rw [List.length_map, P'.len], fun j hj => M.trans (coords R.toPiv hu j hj) (sel_lin R.len.symm hz)⟩
    refine (L.span hu2).of_eq ?_
    have a1 := (L.add b fun j => -1 * t j)
    refine Eq'.trans (fun j hj => ?_) a1.symm
    have a2 := M.add (M.refl (p := p) (φ b j)) (M.trans (L.mul (-1) t j hj) (M.mul (M.refl (-1)) (t2 j hj)))
    rw [Int.mul_zero, Int.add_zero] at a2
    exact M.symm a2
  have l1 : I.length = ((selB q B π).map φ).length := Nat.le_antisymm
    (ind_le hp Q.toPiv.ind fun b hb => (span_sub _).span (fun c hc => by
      obtain ⟨d, hd, rfl⟩ := List.mem_map.mp hc
      exact all d hd) ((hI b).mp (Span.mem hb)))
    (ind_le hp ind fun c hc => (hI c).mpr (by
      obtain ⟨d, hd, rfl⟩ := List.mem_map.mp hc
      exact Span.mem (List.mem_map.mpr ⟨d, sel_mem hd, rfl⟩)))
  rw [List.length_map] at l1
  have h1 := P'.len
  have h2 := R.len
  have h3 := T.len
  omega
end
end LA

/-! Q33: errors, for the laws' own texts. -/
namespace Fz
open PySem
section
variable {P : Pg} {w : Wd}
@[simp] theorem orr_n {α : Type} (o : Option α) : orr none o = o := .trans rfl rfl
@[simp] theorem orr_s {α : Type} (a : α) (o : Option α) : orr (some a) o = some a := .trans rfl rfl
@[simp] theorem nx_ok {α β : Type} (a : α) (f : α → Option β) : (R.ok a).nx f = f a := .trans rfl rfl
@[simp] theorem nx_err {α β : Type} (f : α → Option β) : (R.err : R α).nx f = none := .trans rfl rfl
@[simp] theorem nx_exc {α β : Type} (c ds g) (f : α → Option β) : (R.exc c ds g : R α).nx f = none := .trans rfl rfl
@[simp] theorem excF_ok' (r : D × List (List D)) : excF (.ok r) w = none := .trans rfl rfl
@[simp] theorem excF_exc (c ds g) : excF (.exc c ds g) w = some (c, ds, { w with g := g }) := .trans rfl rfl
theorem nx_no {α β : Type} (r : R α) : r.nx (fun _ => (none : Option β)) = none := by cases r <;> rfl
@[simp] theorem rsB_nil : rsB P [] w = none := .trans rfl rfl
theorem rsB_cons {s : S} {r : List S} : rsB P (s :: r) w = orr (rsS P s w) ((exS P s w).nx fun x => match x.1 with
  | .nx => rsB P r x.2
  | _ => none) := .trans rfl rfl
theorem rsB_step {s : S} {r : List S} {w2 : Wd} (h : rsS P s w = none) (e : exS P s w = .ok (.nx, w2)) : rsB P (s :: r) w = rsB P r w2 := by rw [rsB_cons, h, e]; rfl
theorem rsB_end {s : S} {r : List S} {w2 : Wd} {d : D} (h : rsS P s w = none) (e : exS P s w = .ok (.rt d, w2)) : rsB P (s :: r) w = none := by rw [rsB_cons, h, e]; rfl
theorem rsB_hit {s : S} {r : List S} {x : Xd} (h : rsS P s w = some x) : rsB P (s :: r) w = some x := by rw [rsB_cons, h]; rfl
@[simp] theorem rsS_set {t : Tg} {e : E} : rsS P (.set t e) w = rsE P e w := .trans rfl rfl
@[simp] theorem rsS_put {o i e : E} : rsS P (.put o i e) w = rsE P e w := .trans rfl rfl
@[simp] theorem rsS_ex {e : E} : rsS P (.ex e) w = rsE P e w := .trans rfl rfl
@[simp] theorem rsS_ret {e : E} : rsS P (.ret e) w = rsE P e w := .trans rfl rfl
@[simp] theorem rsS_ite {c : E} {a b : List S} : rsS P (.ite c a b) w = (evT P c w).nx fun x => if x.1 then rsB P a x.2 else rsB P b x.2 := .trans rfl rfl
@[simp] theorem rsS_rai {c : Str} {es : Es} : rsS P (.rai c es) w = (evEs P es w).nx fun x => if (x.1.all immD && decide (x.1.length ≤ 1)) = true then some (c, x.1, x.2) else none := .trans rfl rfl
@[simp] theorem rsS_for {t : Tg} {it : It} {body : List S} {kill : List Nat} {gc : Bool} : rsS P (.for t it body kill gc) w = orr (rsI P it w) ((evI P it w).nx fun x => rsFor (asg t) (exB P body) (rsB P body) (postF kill gc x.2.m.length) x.1.ok x.1.xs x.2) := .trans rfl rfl
@[simp] theorem rsS_tr {b : List S} {c : Str} {a : Option Nat} {its : List HI} : rsS P (.tr b c a its) w = none := .trans rfl rfl
@[simp] theorem rsE_v {i : Nat} : rsE P (.v i) w = none := .trans rfl rfl
@[simp] theorem rsE_k {d : D} : rsE P (.k d) w = none := .trans rfl rfl
@[simp] theorem rsE_gl {i : Nat} : rsE P (.gl i) w = none := .trans rfl rfl
@[simp] theorem rsE_call {f : Nat} {pm : Option (List Nat)} {es ks : Es} : rsE P (.call f pm es ks) w = orr (rsEs P es w) ((evEs P es w).nx fun x => (evEs P ks x.2).nx fun y => (R.of (lendL y.2 (x.1 ++ y.1))).nx fun ds => (R.of (arrD pm ds)).nx fun ds => excF (P.F f ds y.2.g) y.2) := .trans rfl rfl
@[simp] theorem rsE_op {o : Op} {md : Nat} {a b : E} : rsE P (.op o md a b) w = orr (rsE P a w) ((evE P a w).nx fun x => rsE P b x.2) := .trans rfl rfl
@[simp] theorem rsE_cm {c : Cm} {a b : E} : rsE P (.cm c a b) w = orr (rsE P a w) ((evE P a w).nx fun x => rsE P b x.2) := .trans rfl rfl
@[simp] theorem rsE_ix {a b : E} : rsE P (.ix a b) w = orr (rsE P a w) ((evE P a w).nx fun x => rsE P b x.2) := .trans rfl rfl
@[simp] theorem rsE_no {a : E} : rsE P (.no a) w = rsE P a w := .trans rfl rfl
@[simp] theorem rsE_ite {c a b : E} : rsE P (.ite c a b) w = (evE P c w).nx fun x => (x.2.tru x.1).bind fun r => if r then rsE P a x.2 else rsE P b x.2 := .trans rfl rfl
@[simp] theorem rsE_tup {es : Es} : rsE P (.tup es) w = rsEs P es w := .trans rfl rfl
@[simp] theorem rsE_lst {md : Nat} {es : Es} : rsE P (.lst md es) w = rsEs P es w := .trans rfl rfl
@[simp] theorem rsE_bi {b : Bi} {md : Nat} {es : Es} : rsE P (.bi b md es) w = rsEs P es w := .trans rfl rfl
@[simp] theorem rsE_rev {md : Nat} {a : E} : rsE P (.rev md a) w = rsE P a w := .trans rfl rfl
@[simp] theorem rsE_co {md : Nat} {t : Tg} {it : It} {c : Oe} {e : E} {own : List Nat} : rsE P (.co md t it c e own) w = rsI P it w := .trans rfl rfl
@[simp] theorem rsE_neg {a : E} : rsE P (.neg a) w = none := .trans rfl rfl
@[simp] theorem rsE_an {a b : E} : rsE P (.an a b) w = none := .trans rfl rfl
@[simp] theorem rsE_or {a b : E} : rsE P (.or a b) w = none := .trans rfl rfl
@[simp] theorem rsE_sl {md : Nat} {a : E} {lo hi : Oe} : rsE P (.sl md a lo hi) w = none := .trans rfl rfl
@[simp] theorem rsE_me {m : Me} {o : E} {es : Es} : rsE P (.me m o es) w = none := .trans rfl rfl
@[simp] theorem rsE_lrg {tp : Bool} {md : Nat} {es : Es} : rsE P (.lrg tp md es) w = none := .trans rfl rfl
@[simp] theorem rsE_isi {e : E} {t : Ty} : rsE P (.isi e t) w = none := .trans rfl rfl
@[simp] theorem rsEs_nil : rsEs P .nil w = none := .trans rfl rfl
@[simp] theorem rsEs_cons {e : E} {r : Es} : rsEs P (.cons e r) w = orr (rsE P e w) ((evE P e w).nx fun x => rsEs P r x.2) := .trans rfl rfl
@[simp] theorem rsI_seq {e : E} : rsI P (.seq e) w = rsE P e w := .trans rfl rfl
@[simp] theorem rsI_rng {es : Es} : rsI P (.rng es) w = none := .trans rfl rfl
@[simp] theorem rsI_enu {e : E} : rsI P (.enu e) w = none := .trans rfl rfl
@[simp] theorem rsI_zip {a b : E} : rsI P (.zip a b) w = none := .trans rfl rfl
theorem exS_rai {c : Str} {es : Es} : exS P (.rai c es) w = .err := .trans rfl rfl
theorem exS_tr {b : List S} {c : Str} {a : Option Nat} {its : List HI} : exS P (.tr b c a its) w = match rsB P b w with
  | some x => hdl c a its x
  | none => exB P b w := .trans rfl rfl
theorem exS_tr_ok {b : List S} {c : Str} {a : Option Nat} {its : List HI} {r : R (Fl × Wd)} (h : rsB P b w = none) (e : exB P b w = r) : exS P (.tr b c a its) w = r := by rw [exS_tr, h]; exact e
theorem exS_tr_x {b : List S} {c : Str} {a : Option Nat} {its : List HI} {x : Xd} (h : rsB P b w = some x) : exS P (.tr b c a its) w = hdl c a its x := by rw [exS_tr, h]
/-- a def raises -/
theorem exD_exc {n : Nat} {body : List S} {ds : List D} {g : List (List D)} {x : Xd} (h : ∀ r, exB P body ⟨ds.map some ++ List.replicate (n - ds.length) none, [], g⟩ ≠ .ok r) (hr : rsB P body ⟨ds.map some ++ List.replicate (n - ds.length) none, [], g⟩ = some x) : exD P n body ds g = .exc x.1 x.2.1 x.2.2.g := by
  unfold exD exO
  cases e : exB P body ⟨ds.map some ++ List.replicate (n - ds.length) none, [], g⟩ with
  | ok r => exact absurd e (h r)
  | exc c es g2 => simp only [R.bd_exc]; rw [hr]
  | err => simp only [R.bd_err]; rw [hr]
theorem exB_bad {s : S} {r : List S} (h : ∀ z, exS P s w ≠ .ok z) : ∀ z, exB P (s :: r) w ≠ .ok z := by
  intro z e
  rw [exB_cons] at e
  cases q : exS P s w with
  | ok a => exact h a q
  | exc c es g2 => rw [q] at e; cases e
  | err => rw [q] at e; cases e
end
end Fz

/-! Q34: data that may hold empty dicts: its text; items of any kind. -/
namespace Fz
open PySem
mutual
/-- plain, at most n deep, ints of at most k figures; empty dicts, too -/
def Pe (k : Nat) : Nat → D → Prop
  | _, .non => True
  | _, .bl _ => True
  | _, .int i => i.natAbs < 10 ^ k
  | _, .str s => PyData.strOk s = true
  | n, .tup ds => 0 < n ∧ Pes k (n - 1) ds
  | n, .lst ds => 0 < n ∧ Pes k (n - 1) ds
  | n, .fl ds => 0 < n ∧ Pes k (n - 1) ds
  | n, .sc ds => 0 < n ∧ Pes k (n - 1) ds
  | _, .ref _ => False
  | _, .g _ => False
  | n, .dic ks ds => 0 < n ∧ ks = [] ∧ ds = []
def Pes (k : Nat) : Nat → List D → Prop
  | _, [] => True
  | n, d :: ds => Pe k n d ∧ Pes k n ds
end
section
variable {ρ γ : Nat → Option PyData} {k : Nat}
mutual
theorem Pe_of : ∀ {d : D} {n : Nat}, Pl k n d → Pe k n d
  | .non, _, _ => trivial
  | .bl _, _, _ => trivial
  | .int _, _, h => h
  | .str _, _, h => h
  | .tup ds, n, h => ⟨h.1, Pes_of h.2⟩
  | .lst ds, n, h => ⟨h.1, Pes_of h.2⟩
  | .fl ds, n, h => ⟨h.1, Pes_of h.2⟩
  | .sc ds, n, h => ⟨h.1, Pes_of h.2⟩
  | .ref _, _, h => False.elim h
  | .g _, _, h => False.elim h
  | .dic _ _, _, h => False.elim h
theorem Pes_of : ∀ {ds : List D} {n : Nat}, Pls k n ds → Pes k n ds
  | [], _, _ => trivial
  | d :: ds, _, h => ⟨Pe_of h.1, Pes_of h.2⟩
end
mutual
theorem Pe_mono : ∀ {d : D} {n m : Nat}, Pe k n d → n ≤ m → Pe k m d
  | .non, _, _, _, _ => trivial
  | .bl _, _, _, _, _ => trivial
  | .int _, _, _, h, _ => h
  | .str _, _, _, h, _ => h
  | .tup ds, n, m, h, l => ⟨Nat.lt_of_lt_of_le h.1 l, Pes_mono h.2 (by omega)⟩
  | .lst ds, n, m, h, l => ⟨Nat.lt_of_lt_of_le h.1 l, Pes_mono h.2 (by omega)⟩
  | .fl ds, n, m, h, l => ⟨Nat.lt_of_lt_of_le h.1 l, Pes_mono h.2 (by omega)⟩
  | .sc ds, n, m, h, l => ⟨Nat.lt_of_lt_of_le h.1 l, Pes_mono h.2 (by omega)⟩
  | .ref _, _, _, h, _ => False.elim h
  | .g _, _, _, h, _ => False.elim h
  | .dic _ _, n, m, h, l => ⟨Nat.lt_of_lt_of_le h.1 l, h.2⟩
theorem Pes_mono : ∀ {ds : List D} {n m : Nat}, Pes k n ds → n ≤ m → Pes k m ds
  | [], _, _, _, _ => trivial
  | d :: ds, n, m, h, l => ⟨Pe_mono h.1 l, Pes_mono h.2 l⟩
end
theorem Pes_all {n : Nat} {ds : List D} (h : ∀ d ∈ ds, Pe k n d) : Pes k n ds := by
  induction ds with
  | nil => trivial
  | cons d ds ih => exact ⟨h d List.mem_cons_self, ih fun e he => h e (List.mem_cons_of_mem _ he)⟩
mutual
theorem py_pe : ∀ (d : D) (n : Nat), Pe k n d → py ρ γ d = some (pd d)
  | .non, _, _ => rfl
  | .bl _, _, _ => rfl
  | .int _, _, _ => rfl
  | .str _, _, _ => rfl
  | .tup ds, n, h => by show (pyL ρ γ ds).map PyData.tuple = _; rw [pyL_pe ds _ h.2]; rfl
  | .lst ds, n, h => by show (pyL ρ γ ds).map PyData.list = _; rw [pyL_pe ds _ h.2]; rfl
  | .fl ds, n, h => by show (pyL ρ γ ds).map PyData.list = _; rw [pyL_pe ds _ h.2]; rfl
  | .sc ds, n, h => by show (pyL ρ γ ds).map PyData.list = _; rw [pyL_pe ds _ h.2]; rfl
  | .ref _, _, h => False.elim h
  | .g _, _, h => False.elim h
  | .dic _ _, _, ⟨_, h1, h2⟩ => by subst h1; subst h2; rfl
theorem pyL_pe : ∀ (ds : List D) (n : Nat), Pes k n ds → pyL ρ γ ds = some (pds ds)
  | [], _, _ => rfl
  | d :: ds, n, h => by
    show (py ρ γ d).bind (fun y => (pyL ρ γ ds).map fun ys => y :: ys) = _
    rw [py_pe d n h.1, pyL_pe ds n h.2]
    rfl
end
mutual
theorem pe_fit : ∀ (d : D) (n : Nat), Pe k n d → (pd d).depth ≤ n ∧ (k ≤ 4300 → canShow (pd d) = true)
  | .non, _, _ => ⟨Nat.zero_le _, fun _ => rfl⟩
  | .bl _, _, _ => ⟨Nat.zero_le _, fun _ => rfl⟩
  | .int i, _, h => ⟨Nat.zero_le _, fun hk => decide_eq_true (Nat.lt_of_lt_of_le (show i.natAbs < 10 ^ k from h) (Nat.pow_le_pow_right (by decide) hk))⟩
  | .str _, _, h => ⟨Nat.zero_le _, fun _ => rfl⟩
  | .tup ds, n, h => by
    obtain ⟨b, c⟩ := pes_fit ds _ h.2
    refine ⟨?_, c⟩
    show PyData.depthAll (pds ds) + 1 ≤ n
    have := h.1
    omega
  | .lst ds, n, h => by
    obtain ⟨b, c⟩ := pes_fit ds _ h.2
    refine ⟨?_, c⟩
    show PyData.depthAll (pds ds) + 1 ≤ n
    have := h.1
    omega
  | .fl ds, n, h => by
    obtain ⟨b, c⟩ := pes_fit ds _ h.2
    refine ⟨?_, c⟩
    show PyData.depthAll (pds ds) + 1 ≤ n
    have := h.1
    omega
  | .sc ds, n, h => by
    obtain ⟨b, c⟩ := pes_fit ds _ h.2
    refine ⟨?_, c⟩
    show PyData.depthAll (pds ds) + 1 ≤ n
    have := h.1
    omega
  | .ref _, _, h => False.elim h
  | .g _, _, h => False.elim h
  | .dic _ _, n, h => ⟨h.1, fun _ => rfl⟩
theorem pes_fit : ∀ (ds : List D) (n : Nat), Pes k n ds → PyData.depthAll (pds ds) ≤ n ∧ (k ≤ 4300 → canShows (pds ds) = true)
  | [], _, _ => ⟨Nat.zero_le _, fun _ => rfl⟩
  | d :: ds, n, h => by
    obtain ⟨b, c⟩ := pe_fit d n h.1
    obtain ⟨b2, c2⟩ := pes_fit ds n h.2
    refine ⟨Nat.max_le.mpr ⟨b, b2⟩, fun hk => ?_⟩
    show (canShow (pd d) && canShows (pds ds)) = true
    rw [c hk, c2 hk]; rfl
end
mutual
theorem shown_leE (hk : 0 < k) : ∀ (d : D) (n : Nat), Pe k n d → (pd d).shown.length ≤ szB k d
  | .non, _, _ => by show ("None" : Str).length ≤ 5; decide
  | .bl b, _, _ => by cases b <;> (show _ ≤ 5; decide)
  | .int i, _, h => int_len hk h
  | .str s, _, _ => Nat.le_refl _
  | .tup ds, n, h => by
    have := showns_leE hk ds _ h.2
    show (tupleText (PyData.shownAll (pds ds))).length ≤ szBs k ds + 3
    unfold tupleText
    rw [strLen_append, strLen_append]
    have e1 : ("(" : Str).length = 1 := rfl
    have e2 : ((if (PyData.shownAll (pds ds)).length == 1 then ",)" else ")" : String) : Str).length ≤ 2 := by split <;> decide
    have e3 : (Str.join ", " (PyData.shownAll (pds ds))).length ≤ piled (PyData.shownAll (pds ds)) := by
      by_cases q : PyData.shownAll (pds ds) = []
      · rw [q]; exact Nat.le_refl _
      · have := join_length_add _ q
        omega
    omega
  | .lst ds, n, h => by
    have := showns_leE hk ds _ h.2
    show (textFrom 0 "[" (PyData.shownAll (pds ds)) ++ "]").length ≤ szBs k ds + 3
    rw [strLen_append]
    have := textFrom_le (PyData.shownAll (pds ds)) 0 "["
    have e1 : ("[" : Str).length = 1 := rfl
    have e2 : ("]" : Str).length = 1 := rfl
    omega
  | .fl ds, n, h => by
    have := showns_leE hk ds _ h.2
    show (textFrom 0 "[" (PyData.shownAll (pds ds)) ++ "]").length ≤ szBs k ds + 3
    rw [strLen_append]
    have := textFrom_le (PyData.shownAll (pds ds)) 0 "["
    have e1 : ("[" : Str).length = 1 := rfl
    have e2 : ("]" : Str).length = 1 := rfl
    omega
  | .sc ds, n, h => by
    have := showns_leE hk ds _ h.2
    show (textFrom 0 "[" (PyData.shownAll (pds ds)) ++ "]").length ≤ szBs k ds + 3
    rw [strLen_append]
    have := textFrom_le (PyData.shownAll (pds ds)) 0 "["
    have e1 : ("[" : Str).length = 1 := rfl
    have e2 : ("]" : Str).length = 1 := rfl
    omega
  | .ref _, _, h => False.elim h
  | .g _, _, h => False.elim h
  | .dic _ _, _, _ => by show (PyData.dict []).shown.length ≤ 5; decide +kernel
theorem showns_leE (hk : 0 < k) : ∀ (ds : List D) (n : Nat), Pes k n ds → piled (PyData.shownAll (pds ds)) ≤ szBs k ds
  | [], _, _ => Nat.le_refl _
  | d :: ds, n, h => by
    have h1 := shown_leE hk d n h.1
    have h2 := showns_leE hk ds n h.2
    show piled ((pd d).shown :: PyData.shownAll (pds ds)) ≤ szB k d + 2 + szBs k ds
    rw [piled_cons]
    omega
end
mutual
theorem shown_sgE : ∀ (d : D) (n : Nat), Pe k n d → Sg (pd d).shown
  | .non, _, _ => Sg.str "None"
  | .bl b, _, _ => by
    cases b
    · exact Sg.str "False"
    · exact Sg.str "True"
  | .int i, _, _ => Sg.str (toString i)
  | .str s, _, h => Sg.repr (Sg.of_ok h)
  | .tup ds, n, h => Sg.tuple (showns_sgE ds _ h.2)
  | .lst ds, n, h => Sg.list (showns_sgE ds _ h.2)
  | .fl ds, n, h => Sg.list (showns_sgE ds _ h.2)
  | .sc ds, n, h => Sg.list (showns_sgE ds _ h.2)
  | .ref _, _, h => False.elim h
  | .g _, _, h => False.elim h
  | .dic _ _, _, _ => by
    have e : (PyData.dict []).shown = ("{}" : Str) := by decide +kernel
    show Sg (PyData.dict []).shown
    rw [e]
    exact Sg.str "{}"
theorem showns_sgE : ∀ (ds : List D) (n : Nat), Pes k n ds → ∀ t ∈ PyData.shownAll (pds ds), Sg t
  | [], _, _, t, ht => nomatch ht
  | d :: ds, n, h, t, ht => by
    rcases List.mem_cons.mp (show t ∈ (pd d).shown :: PyData.shownAll (pds ds) from ht) with rfl | ht
    · exact shown_sgE d n h.1
    · exact showns_sgE ds n h.2 t ht
end
theorem shown_peE {n m : Nat} {d : D} (h : Pe k n d) : Pe k m (.str (pd d).shown) := (shown_sgE d n h).ok
theorem shown_szE {n : Nat} {d : D} (hk : 0 < k) (h : Pe k n d) : szB k (.str (pd d).shown) ≤ 10 * szB k d + 2 := by
  have h1 := StrLaws.reprText_len (pd d).shown (fun c hc => by
    have := shown_sgE d n h c hc
    have e : (16 : Nat) ^ 8 = 4294967296 := by decide
    omega)
  have h2 := shown_leE hk d n h
  show (reprText (pd d).shown).length ≤ _
  omega
theorem repr_e {w : Wd} {n md : Nat} {d : D} (h : Pe k n d) (hk : 0 < k) (hk2 : k ≤ 4300) (hn : n ≤ 60) (hz : szB k d ≤ 1000000) : biF .repr md [d] w = .ok (.str (pd d).shown, w) := by
  obtain ⟨b, c⟩ := pe_fit d n h
  have hp : w.py d = some (pd d) := py_pe d n h
  rw [bq_repr, hp, R.of_some, R.bd_ok]
  have : reprOk (pd d) = true := by
    unfold reprOk
    rw [c hk2, decide_eq_true (Nat.le_trans b hn), decide_eq_true (show (pd d).shown.length ≤ mxLen from Nat.le_trans (shown_leE hk d n h) hz)]
    rfl
  rw [if_pos this]
end
/-- a small value of any kind: at most c long, k deep, ints of at most 40 figures -/
structure Ie (c k : Nat) (d : D) : Prop where
  pe : Pe 40 k d
  ret : okRet d = true
  sz : szB 40 d ≤ c
theorem Ie.mono {c k c' k' : Nat} {d : D} (h : Ie c k d) (h1 : c ≤ c') (h2 : k ≤ k') : Ie c' k' d := ⟨Pe_mono h.pe h2, h.ret, Nat.le_trans h.sz h1⟩
theorem szBs_ie {c k : Nat} {ds : List D} (h : ∀ d ∈ ds, Ie c k d) {L : Nat} (hl : ds.length ≤ L) : szBs 40 ds ≤ L * (c + 2) :=
  Nat.le_trans (szBs_le fun d hd => (h d hd).sz) (Nat.mul_le_mul_right _ hl)
theorem Ie.rets {c k : Nat} {ds : List D} (h : ∀ d ∈ ds, Ie c k d) : okRets ds = true := okRets_all fun d hd => (h d hd).ret
theorem Ie.pes {c k : Nat} {ds : List D} (h : ∀ d ∈ ds, Ie c k d) : Pes 40 k ds := Pes_all fun d hd => (h d hd).pe
theorem Ie.tup {c k L : Nat} {ds : List D} (h : ∀ d ∈ ds, Ie c k d) (hl : ds.length ≤ L) : Ie (L * (c + 2) + 3) (k + 1) (.tup ds) :=
  ⟨⟨Nat.succ_pos _, Ie.pes h⟩, Ie.rets h, by show szBs 40 ds + 3 ≤ _; have := szBs_ie h hl; omega⟩
theorem Ie.lst {c k L : Nat} {ds : List D} (h : ∀ d ∈ ds, Ie c k d) (hl : ds.length ≤ L) : Ie (L * (c + 2) + 3) (k + 1) (.lst ds) :=
  ⟨⟨Nat.succ_pos _, Ie.pes h⟩, Ie.rets h, by show szBs 40 ds + 3 ≤ _; have := szBs_ie h hl; omega⟩
theorem Ie.int {k : Nat} {i : Int} (h : -10 ^ 40 < i ∧ i < 10 ^ 40) : Ie 41 k (.int i) := by
  refine ⟨?_, rfl, Nat.le_refl _⟩
  show i.natAbs < 10 ^ 40
  have e : ((10 : Nat) ^ 40 : Int) = (10 : Int) ^ 40 := rfl
  omega
theorem Ie.non {k : Nat} : Ie 5 k .non := ⟨trivial, rfl, by decide⟩
theorem Ie.bl {k : Nat} {b : Bool} : Ie 5 k (.bl b) := ⟨trivial, rfl, by show 5 ≤ 5; decide⟩
theorem Ie.emp {k : Nat} : Ie 5 (k + 1) (.dic [] []) := ⟨⟨Nat.succ_pos _, rfl, rfl⟩, rfl, by show 5 ≤ 5; decide⟩
theorem Ie.shown {c k m : Nat} {d : D} (h : Ie c k d) : Ie (10 * c + 2) m (.str (pd d).shown) := ⟨shown_peE h.pe, rfl, Nat.le_trans (shown_szE (by decide) h.pe) (by have := h.sz; omega)⟩
theorem Ie.repr {c k md : Nat} {d : D} (h : Ie c k d) (hn : k ≤ 60) (hz : c ≤ 1000000) {w : Wd} : biF .repr md [d] w = .ok (.str (pd d).shown, w) := repr_e h.pe (by decide) (by decide) hn (Nat.le_trans h.sz hz)
end Fz

/-! the program of k01 in own syntax (printed by wip/gen.py) -/
namespace K01
open PySem Fz
def topS (i : Nat) : Stmt := PySem.Challenge.pw_formspaces_k01_rows_judged.main.body.getD i (.Pass ⟨0, 0, 0, 0⟩)
/-- 0 is_integer: 0=value -/
def b0 : List S := [
  .ret (.an (.isi (.v 0) .int) (.no (.isi (.v 0) .bool)))]
/-- 1 row_error: 0=p 1=n 2=value 3=place 4=item -/
def b1_0 : List S := [
  .ite (.or (.no (.call 0 none (.cons (.v 4) .nil) .nil)) (.no (.ch (.k (.int 0)) .le (.v 4) .lt (.v 0)))) [
    .ret (.tup (.cons (.k (.str "item")) (.cons (.v 3) .nil)))] []]
def b1 : List S := [
  .ite (.or (.no (.isi (.v 2) .tup)) (.cm .ne (.bi .len 0 (.cons (.v 2) .nil)) (.v 1))) [
    .ret (.k (.str "form"))] [],
  .for (.tu [.nm 3, .nm 4]) (.enu (.v 2)) b1_0 [3, 4] false,
  .ret (.k .non)]
/-- 2 row_sum: 0=p 1=row 2=other_row 3=one 4=other -/
def e2_0 : E := (.op .mod 0 (.op .add 0 (.v 3) (.v 4)) (.v 0))
def b2 : List S := [
  .ret (.bi .tuple 0 (.cons (.co 0 (.tu [.nm 3, .nm 4]) (.zip (.v 1) (.v 2)) .no e2_0 [3, 4]) .nil))]
/-- 3 row_times: 0=p 1=number 2=row 3=item -/
def e3_0 : E := (.op .mod 0 (.op .mul 0 (.v 1) (.v 3)) (.v 0))
def b3 : List S := [
  .ret (.bi .tuple 0 (.cons (.co 0 (.nm 3) (.seq (.v 2)) .no e3_0 [3]) .nil))]
/-- 4 turned_back: 0=p 1=number 2=found 3=often 4=base -/
def b4_0 : List S := [
  .ite (.cm .eq (.op .mod 0 (.v 3) (.k (.int 2))) (.k (.int 1))) [
    .set (.nm 2) (.op .mod 0 (.op .mul 0 (.v 2) (.v 4)) (.v 0))] [],
  .set (.tu [.nm 4, .nm 3]) (.tup (.cons (.op .mod 0 (.op .mul 0 (.v 4) (.v 4)) (.v 0)) (.cons (.op .fdiv 0 (.v 3) (.k (.int 2))) .nil)))]
def b4 : List S := [
  .set (.tu [.nm 2, .nm 3, .nm 4]) (.tup (.cons (.k (.int 1)) (.cons (.op .sub 0 (.v 0) (.k (.int 2))) (.cons (.op .mod 0 (.v 1) (.v 0)) .nil)))),
  .whl (.cm .gt (.v 3) (.k (.int 0))) b4_0 [] false,
  .ret (.op .mod 0 (.v 2) (.v 0))]
/-- 5 head_of: 0=row 1=some 2=place 3=item -/
def e5_0 : E := (.v 2)
def c5_0 : Oe := (.so (.cm .ne (.v 3) (.k (.int 0))))
def b5 : List S := [
  .set (.nm 1) (.co 0 (.tu [.nm 2, .nm 3]) (.enu (.v 0)) c5_0 e5_0 [2, 3]),
  .ret (.ite (.cm .ne (.v 1) (.lst 0 .nil)) (.ix (.v 1) (.k (.int 0))) (.k .non))]
/-- 6 point_of: 0=p 1=row 2=head -/
def b6 : List S := [
  .set (.nm 2) (.call 5 none (.cons (.v 1) .nil) .nil),
  .ite (.cm .is (.v 2) (.k .non)) [
    .rai "Unfit" .nil] [],
  .ret (.call 3 none (.cons (.v 0) (.cons (.call 4 none (.cons (.v 0) (.cons (.ix (.v 1) (.v 2)) .nil)) .nil) (.cons (.v 1) .nil))) .nil)]
/-- 7 _law_pot: 0=script 1=cells 2=mixed 3=cell -/
def e7_0 : E := (.op .add 0 (.op .mul 0 (.k (.int 2)) (.bi .abs 0 (.cons (.v 3) .nil))) (.bi .int 0 (.cons (.cm .lt (.v 3) (.k (.int 0))) .nil)))
def b7_0 : List S := [
  .set (.nm 2) (.op .mod 0 (.op .add 0 (.op .add 0 (.op .mul 0 (.v 2) (.k (.int 69069))) (.v 3)) (.k (.int 11))) (.k (.int 4294967291)))]
def e7_1 : E := (.v 3)
def c7_1 : Oe := (.so (.cm .gt (.v 3) (.op .pow 0 (.k (.int 10)) (.k (.int 12)))))
def b7 : List S := [
  .set (.tu [.nm 1, .nm 2]) (.tup (.cons (.co 0 (.nm 3) (.seq (.sl 0 (.v 0) .no (.so (.k (.int 63))))) .no e7_0 [3]) (.cons (.op .add 0 (.k (.int 17539)) (.op .mul 0 (.k (.int 73)) (.bi .len 0 (.cons (.v 0) .nil)))) .nil))),
  .for (.nm 3) (.seq (.v 1)) b7_0 [3] false,
  .ret (.lst 2 (.cons (.co 2 (.nm 3) (.seq (.v 1)) c7_1 e7_1 [3]) (.cons (.v 2) (.cons (.k (.int 0)) .nil))))]
/-- 8 _law_of: 0=pot 1=many 2=cell 3=number -/
def b8 : List S := [
  .ite (.cm .lt (.v 1) (.k (.int 2))) [
    .ret (.k (.int 0))] [],
  .ite (.cm .ne (.ix (.v 0) (.k (.int 0))) (.lst 0 .nil)) [
    .set (.nm 2) (.me .pop (.ix (.v 0) (.k (.int 0))) .nil),
    .ite (.cm .ge (.v 2) (.v 1)) [
      .ex (.me .append (.ix (.v 0) (.k (.int 0))) (.cons (.op .fdiv 0 (.v 2) (.v 1)) .nil))] [],
    .ret (.op .mod 0 (.v 2) (.v 1))] [],
  .put (.v 0) (.k (.int 2)) (.op .add 1 (.ix (.v 0) (.k (.int 2))) (.k (.int 1))),
  .set (.nm 3) (.op .mod 0 (.op .add 0 (.ix (.v 0) (.k (.int 1))) (.op .mul 0 (.ix (.v 0) (.k (.int 2))) (.k (.int 2654435761)))) (.k (.int 4294967279))),
  .set (.nm 3) (.op .mod 0 (.op .add 0 (.op .add 0 (.op .mul 0 (.v 3) (.v 3)) (.op .mul 0 (.ix (.v 0) (.k (.int 2))) (.k (.int 40503)))) (.k (.int 5))) (.k (.int 4294967231))),
  .set (.nm 3) (.op .mod 0 (.op .add 0 (.op .mul 0 (.v 3) (.v 3)) (.ix (.v 0) (.k (.int 1)))) (.k (.int 4294967291))),
  .ret (.op .mod 0 (.op .fdiv 0 (.v 3) (.k (.int 256))) (.v 1))]
/-- 9 _law_one: 0=pot 1=items -/
def b9 : List S := [
  .ret (.ix (.v 1) (.call 8 none (.cons (.v 0) (.cons (.bi .len 0 (.cons (.v 1) .nil)) .nil)) .nil))]
/-- 10 _law_is_number: 0=value 1=low 2=high -/
def b10 : List S := [
  .ret (.an (.isi (.v 0) .int) (.an (.no (.isi (.v 0) .bool)) (.ch (.v 1) .le (.v 0) .le (.v 2))))]
/-- 11 _law_spliced: 0=pot 1=one 2=other 3=k -/
def b11 : List S := [
  .ite (.or (.no (.isi (.v 1) .tup)) (.no (.isi (.v 2) .tup))) [
    .ret (.v 1)] [],
  .set (.nm 3) (.call 8 none (.cons (.v 0) (.cons (.op .add 0 (.bi .len 0 (.cons (.v 1) .nil)) (.k (.int 1))) .nil)) .nil),
  .ret (.op .add 0 (.sl 0 (.v 1) .no (.so (.v 3))) (.sl 0 (.v 2) (.so (.v 3)) .no))]
/-- 12 _law_bent: 0=pot 1=row 2=odd 3=own 4=k 5=some 6=turn -/
def e12_0 : E := (.tup (.cons (.v 3) .nil))
def e12_1 : E := (.op .add 0 (.op .add 0 (.sl 0 (.v 1) .no (.so (.v 4))) (.tup (.cons (.call 9 none (.cons (.v 0) (.cons (.v 2) .nil)) .nil) .nil))) (.sl 0 (.v 1) (.so (.op .add 0 (.v 4) (.k (.int 1)))) .no))
def b12 : List S := [
  .ite (.cm .eq (.v 1) (.tup .nil)) [
    .ret (.call 9 none (.cons (.v 0) (.cons (.op .add 0 (.co 0 (.nm 3) (.seq (.v 2)) .no e12_0 [3]) (.lst 0 (.cons (.k .non) (.cons (.lst 0 .nil) (.cons (.k (.int 0)) (.cons (.k (.str "")) (.cons (.k (.dic [] [])) .nil))))))) .nil)) .nil)] [],
  .set (.nm 4) (.call 8 none (.cons (.v 0) (.cons (.bi .len 0 (.cons (.v 1) .nil)) .nil)) .nil),
  .set (.nm 5) (.co 0 (.nm 6) (.rng (.cons (.k (.int 5)) .nil)) .no e12_1 [6]),
  .set (.nm 5) (.op .add 0 (.v 5) (.lst 0 (.cons (.op .add 0 (.sl 0 (.v 1) .no (.so (.v 4))) (.sl 0 (.v 1) (.so (.op .add 0 (.v 4) (.k (.int 1)))) .no)) (.cons (.op .add 0 (.sl 0 (.v 1) .no (.so (.op .add 0 (.v 4) (.k (.int 1))))) (.sl 0 (.v 1) (.so (.v 4)) .no)) (.cons (.rev 0 (.v 1)) (.cons (.bi .list 0 (.cons (.v 1) .nil)) (.cons (.op .add 0 (.v 1) (.tup (.cons (.ix (.v 1) (.k (.int 0))) .nil))) .nil))))))),
  .set (.nm 5) (.op .add 0 (.v 5) (.lst 0 (.cons (.op .add 0 (.op .add 0 (.sl 0 (.v 1) .no (.so (.v 4))) (.tup (.cons (.ix (.v 1) (.neg (.k (.int 1)))) .nil))) (.sl 0 (.v 1) (.so (.op .add 0 (.v 4) (.k (.int 1)))) .no)) (.cons (.op .add 0 (.op .add 0 (.sl 0 (.v 1) .no (.so (.v 4))) (.tup (.cons (.call 9 none (.cons (.v 0) (.cons (.v 2) .nil)) .nil) .nil))) (.sl 0 (.v 1) (.so (.v 4)) .no)) .nil)))),
  .ret (.call 9 none (.cons (.v 0) (.cons (.op .add 0 (.v 5) (.lst 0 (.cons (.k .non) (.cons (.tup (.cons (.v 1) .nil)) .nil)))) .nil)) .nil)]
/-- 13 _law_power: 0=x 1=k 2=q 3=found -/
def b13_0 : List S := [
  .set (.nm 3) (.ite (.cm .eq (.op .mod 0 (.bi .int 0 (.cons (.v 1) .nil)) (.k (.int 2))) (.k (.int 1))) (.op .mod 0 (.bi .int 0 (.cons (.op .mul 0 (.v 3) (.v 0)) .nil)) (.v 2)) (.v 3)),
  .set (.tu [.nm 0, .nm 1]) (.tup (.cons (.op .mod 0 (.bi .int 0 (.cons (.op .mul 0 (.v 0) (.v 0)) .nil)) (.v 2)) (.cons (.op .fdiv 0 (.bi .int 0 (.cons (.v 1) .nil)) (.k (.int 2))) .nil)))]
def b13 : List S := [
  .set (.tu [.nm 3, .nm 0]) (.tup (.cons (.k (.int 1)) (.cons (.op .mod 0 (.bi .int 0 (.cons (.v 0) .nil)) (.v 2)) .nil))),
  .whl (.cm .gt (.v 1) (.k (.int 0))) b13_0 [] false,
  .ret (.v 3)]
/-- 14 _law_head: 0=row 1=i 2=x -/
def e14_0 : E := (.v 1)
def c14_0 : Oe := (.so (.cm .ne (.v 2) (.k (.int 0))))
def b14 : List S := [
  .ret (.ix (.co 0 (.tu [.nm 1, .nm 2]) (.enu (.v 0)) c14_0 e14_0 [1, 2]) (.k (.int 0)))]
/-- 15 _law_row: 0=pot 1=p 2=n 3=i -/
def e15_0 : E := (.ite (.cm .gt (.call 8 none (.cons (.v 0) (.cons (.k (.int 3)) .nil)) .nil) (.k (.int 0))) (.call 8 none (.cons (.v 0) (.cons (.v 1) .nil)) .nil) (.k (.int 0)))
def b15 : List S := [
  .ret (.bi .tuple 0 (.cons (.co 0 (.nm 3) (.rng (.cons (.v 2) .nil)) .no e15_0 [3]) .nil))]
/-- 16 _law_sum: 0=p 1=one 2=other 3=times 4=x 5=y -/
def e16_0 : E := (.op .mod 0 (.bi .int 0 (.cons (.op .add 0 (.v 4) (.op .mul 0 (.v 3) (.v 5))) .nil)) (.v 0))
def b16 : List S := [
  .ret (.bi .tuple 0 (.cons (.co 0 (.tu [.nm 4, .nm 5]) (.zip (.v 1) (.v 2)) .no e16_0 [4, 5]) .nil))]
/-- 17 _law_row_fault: 0=p 1=n 2=value 3=bad 4=i 5=x -/
def e17_0 : E := (.v 4)
def c17_0 : Oe := (.so (.no (.call 10 none (.cons (.v 5) (.cons (.k (.int 0)) (.cons (.op .sub 0 (.v 0) (.k (.int 1))) .nil))) .nil)))
def b17 : List S := [
  .ite (.or (.no (.isi (.v 2) .tup)) (.cm .ne (.bi .len 0 (.cons (.v 2) .nil)) (.v 1))) [
    .ret (.k (.str "form"))] [],
  .set (.nm 3) (.co 0 (.tu [.nm 4, .nm 5]) (.enu (.v 2)) c17_0 e17_0 [4, 5]),
  .ret (.ite (.cm .ne (.v 3) (.lst 0 .nil)) (.tup (.cons (.k (.str "item")) (.cons (.ix (.v 3) (.k (.int 0))) .nil))) (.k .non))]
/-- 18 _law_told: 0=p 1=row 2=is_named 3=error -/
def b18 : List S := [
  .tr [
    .ret (.ite (.v 2) (.call 6 (some [1, 0]) .nil (.cons (.v 1) (.cons (.v 0) .nil))) (.call 6 none (.cons (.v 0) (.cons (.v 1) .nil)) .nil))] "Unfit" (some 3) [.str "unfit", .isi]]
/-- 19 law: 0=script 1=pot 2=turn 3=p 4=n 5=row 6=other 7=number 8=kept 9=odd 10=bent 11=again 12=values 13=own 14=value 15=k 16=shown 17=due 18=told -/
def e19_0 : E := (.call 12 none (.cons (.v 1) (.cons (.v 5) (.cons (.v 9) .nil))) .nil)
def e19_1 : E := (.call 12 none (.cons (.v 1) (.cons (.v 13) (.cons (.v 9) .nil))) .nil)
def c19_1 : Oe := (.so (.isi (.v 13) .tup))
def b19_0 : List S := [
  .set (.tu [.nm 16, .nm 17]) (.tup (.cons (.bi .repr 0 (.cons (.lst 0 (.cons (.v 14) .nil)) .nil)) (.cons (.call 17 none (.cons (.v 3) (.cons (.v 4) (.cons (.v 14) .nil))) .nil) .nil))),
  .set (.nm 18) (.lst 0 (.cons (.call 1 none (.cons (.v 3) (.cons (.v 4) (.cons (.v 14) .nil))) .nil) (.cons (.call 1 (some [2, 1, 0]) .nil (.cons (.v 14) (.cons (.v 4) (.cons (.v 3) .nil)))) (.cons (.bi .repr 0 (.cons (.lst 0 (.cons (.v 14) .nil)) .nil)) .nil)))),
  .ite (.cm .ne (.bi .repr 0 (.cons (.v 18) .nil)) (.bi .repr 0 (.cons (.lst 0 (.cons (.v 17) (.cons (.v 17) (.cons (.v 16) .nil)))) .nil))) [
    .ret (.k (.bl false))] []]
def e19_2 : E := (.call 11 none (.cons (.v 1) (.cons (.ix (.v 10) (.v 15)) (.cons (.ix (.v 10) (.op .add 0 (.v 15) (.k (.int 2)))) .nil))) .nil)
def b19_1 : List S := [
  .set (.nm 17) (.lst 0 (.cons (.k (.str "unfit")) (.cons (.k (.bl true)) .nil))),
  .ite (.cm .gt (.bi .max 0 (.cons (.v 13) .nil)) (.k (.int 0))) [
    .set (.nm 17) (.call 16 none (.cons (.v 3) (.cons (.op .mul 0 (.tup (.cons (.k (.int 0)) .nil)) (.v 4)) (.cons (.v 13) (.cons (.call 13 none (.cons (.ix (.v 13) (.call 14 none (.cons (.v 13) .nil) .nil)) (.cons (.op .sub 0 (.v 3) (.k (.int 2))) (.cons (.v 3) .nil))) .nil) .nil)))) .nil)] [],
  .ite (.cm .ne (.bi .repr 0 (.cons (.lst 0 (.cons (.call 18 none (.cons (.v 3) (.cons (.v 13) (.cons (.k (.bl false)) .nil))) .nil) (.cons (.call 18 none (.cons (.v 3) (.cons (.v 13) (.cons (.k (.bl true)) .nil))) .nil) .nil))) .nil)) (.bi .repr 0 (.cons (.lst 0 (.cons (.v 17) (.cons (.v 17) .nil))) .nil))) [
    .ret (.k (.bl false))] []]
def b19_2 : List S := [
  .set (.tu [.nm 3, .nm 4]) (.tup (.cons (.call 9 none (.cons (.v 1) (.cons (.lst 0 (.cons (.k (.int 2)) (.cons (.k (.int 3)) (.cons (.k (.int 5)) (.cons (.k (.int 7)) .nil))))) .nil)) .nil) (.cons (.op .add 0 (.k (.int 1)) (.call 8 none (.cons (.v 1) (.cons (.k (.int 6)) .nil)) .nil)) .nil))),
  .set (.tu [.nm 5, .nm 6, .nm 7]) (.tup (.cons (.call 15 none (.cons (.v 1) (.cons (.v 3) (.cons (.v 4) .nil))) .nil) (.cons (.call 15 none (.cons (.v 1) (.cons (.v 3) (.cons (.v 4) .nil))) .nil) (.cons (.call 8 none (.cons (.v 1) (.cons (.v 3) .nil)) .nil) .nil)))),
  .set (.nm 8) (.bi .repr 0 (.cons (.lst 0 (.cons (.v 5) (.cons (.v 6) .nil))) .nil)),
  .set (.nm 9) (.lst 0 (.cons (.k (.int 0)) (.cons (.k (.int 1)) (.cons (.op .sub 0 (.v 3) (.k (.int 1))) (.cons (.v 3) (.cons (.neg (.k (.int 1))) (.cons (.k (.bl true)) (.cons (.k (.bl false)) (.cons (.k .non) (.cons (.k (.str "1")) (.cons (.tup (.cons (.k (.int 1)) .nil)) (.cons (.op .pow 0 (.k (.int 10)) (.k (.int 30))) .nil)))))))))))),
  .set (.nm 10) (.co 0 (.nm 11) (.rng (.cons (.k (.int 5)) .nil)) .no e19_0 [11]),
  .set (.nm 12) (.op .add 0 (.lst 0 (.cons (.v 5) (.cons (.bi .list 0 (.cons (.v 5) .nil)) (.cons (.op .add 0 (.v 5) (.tup (.cons (.k (.int 0)) .nil))) (.cons (.sl 0 (.v 5) (.so (.k (.int 1))) .no) (.cons (.k .non) (.cons (.tup .nil) (.cons (.k (.int 0)) (.cons (.op .mul 0 (.tup (.cons (.k .non) .nil)) (.v 4)) (.cons (.op .mul 0 (.tup (.cons (.v 3) .nil)) (.v 4)) (.cons (.lst 0 (.cons (.v 5) .nil)) (.cons (.tup (.cons (.v 5) .nil)) .nil)))))))))))) (.v 10)),
  .set (.nm 12) (.op .add 0 (.v 12) (.co 0 (.nm 13) (.seq (.v 10)) c19_1 e19_1 [13])),
  .for (.nm 14) (.seq (.op .add 0 (.v 12) (.co 0 (.nm 15) (.rng (.cons (.k (.int 3)) .nil)) .no e19_2 [15]))) b19_0 [14, 16, 17, 18] false,
  .set (.nm 17) (.call 16 none (.cons (.v 3) (.cons (.v 5) (.cons (.v 6) (.cons (.k (.int 1)) .nil)))) .nil),
  .ite (.cm .ne (.bi .repr 0 (.cons (.lst 0 (.cons (.call 2 none (.cons (.v 3) (.cons (.v 5) (.cons (.v 6) .nil))) .nil) (.cons (.call 2 (some [2, 1, 0]) .nil (.cons (.v 6) (.cons (.v 5) (.cons (.v 3) .nil)))) .nil))) .nil)) (.bi .repr 0 (.cons (.lst 0 (.cons (.v 17) (.cons (.v 17) .nil))) .nil))) [
    .ret (.k (.bl false))] [],
  .set (.nm 17) (.call 16 none (.cons (.v 3) (.cons (.op .mul 0 (.tup (.cons (.k (.int 0)) .nil)) (.v 4)) (.cons (.v 5) (.cons (.v 7) .nil)))) .nil),
  .ite (.cm .ne (.bi .repr 0 (.cons (.lst 0 (.cons (.call 3 none (.cons (.v 3) (.cons (.v 7) (.cons (.v 5) .nil))) .nil) (.cons (.call 3 (some [2, 1, 0]) .nil (.cons (.v 5) (.cons (.v 7) (.cons (.v 3) .nil)))) .nil))) .nil)) (.bi .repr 0 (.cons (.lst 0 (.cons (.v 17) (.cons (.v 17) .nil))) .nil))) [
    .ret (.k (.bl false))] [],
  .for (.nm 13) (.seq (.tup (.cons (.v 5) (.cons (.op .mul 0 (.tup (.cons (.k (.int 0)) .nil)) (.v 4)) (.cons (.v 6) .nil))))) b19_1 [13, 17] false,
  .ite (.cm .ne (.bi .repr 0 (.cons (.lst 0 (.cons (.v 5) (.cons (.v 6) .nil))) .nil)) (.v 8)) [
    .ret (.k (.bl false))] []]
def b19 : List S := [
  .set (.nm 1) (.call 7 none (.cons (.v 0) .nil) .nil),
  .for (.nm 2) (.rng (.cons (.k (.int 4)) .nil)) b19_2 [2, 3, 4, 5, 6, 7, 8, 9, 10, 12, 13, 14, 16, 17, 18] false,
  .ret (.k (.bl true))]
def d0 : DefC := ⟨"is_integer", ["value"], ["value"], b0⟩
def d1 : DefC := ⟨"row_error", ["p", "n", "value"], ["p", "n", "value", "place", "item"], b1⟩
def d2 : DefC := ⟨"row_sum", ["p", "row", "other_row"], ["p", "row", "other_row", "one", "other"], b2⟩
def d3 : DefC := ⟨"row_times", ["p", "number", "row"], ["p", "number", "row", "item"], b3⟩
def d4 : DefC := ⟨"turned_back", ["p", "number"], ["p", "number", "found", "often", "base"], b4⟩
def d5 : DefC := ⟨"head_of", ["row"], ["row", "some", "place", "item"], b5⟩
def d6 : DefC := ⟨"point_of", ["p", "row"], ["p", "row", "head"], b6⟩
def d7 : DefC := ⟨"_law_pot", ["script"], ["script", "cells", "mixed", "cell"], b7⟩
def d8 : DefC := ⟨"_law_of", ["pot", "many"], ["pot", "many", "cell", "number"], b8⟩
def d9 : DefC := ⟨"_law_one", ["pot", "items"], ["pot", "items"], b9⟩
def d10 : DefC := ⟨"_law_is_number", ["value", "low", "high"], ["value", "low", "high"], b10⟩
def d11 : DefC := ⟨"_law_spliced", ["pot", "one", "other"], ["pot", "one", "other", "k"], b11⟩
def d12 : DefC := ⟨"_law_bent", ["pot", "row", "odd"], ["pot", "row", "odd", "own", "k", "some", "turn"], b12⟩
def d13 : DefC := ⟨"_law_power", ["x", "k", "q"], ["x", "k", "q", "found"], b13⟩
def d14 : DefC := ⟨"_law_head", ["row"], ["row", "i", "x"], b14⟩
def d15 : DefC := ⟨"_law_row", ["pot", "p", "n"], ["pot", "p", "n", "i"], b15⟩
def d16 : DefC := ⟨"_law_sum", ["p", "one", "other", "times"], ["p", "one", "other", "times", "x", "y"], b16⟩
def d17 : DefC := ⟨"_law_row_fault", ["p", "n", "value"], ["p", "n", "value", "bad", "i", "x"], b17⟩
def d18 : DefC := ⟨"_law_told", ["p", "row", "is_named"], ["p", "row", "is_named", "error"], b18⟩
def d19 : DefC := ⟨"law", ["script"], ["script", "pot", "turn", "p", "n", "row", "other", "number", "kept", "odd", "bent", "again", "values", "own", "value", "k", "shown", "due", "told"], b19⟩
def ds : List DefC := [d0, d1, d2, d3, d4, d5, d6, d7, d8, d9, d10, d11, d12, d13, d14, d15, d16, d17, d18, d19]
def sts : List Stmt := [topS 4, topS 5, topS 6, topS 7, topS 8, topS 9, topS 10, topS 12, topS 13, topS 14, topS 15, topS 16, topS 17, topS 18, topS 19, topS 20, topS 21, topS 22, topS 23, topS 24]
def fre : List Str := ["abs", "bool", "enumerate", "int", "isinstance", "len", "list", "max", "range", "repr", "super", "tuple", "zip"]
def cns : List (Str × Int) := []
def bnd_0 : List (Nat × Nat × List Str × Option (List Nat)) := [(0, 1, [], none), (1, 0, ["value", "n", "p"], some [2, 1, 0]), (1, 3, [], none), (10, 3, [], none), (11, 3, [], none), (12, 3, [], none), (13, 3, [], none), (14, 1, [], none), (15, 3, [], none), (16, 4, [], none), (17, 3, [], none), (18, 3, [], none), (2, 0, ["other_row", "row", "p"], some [2, 1, 0]), (2, 3, [], none), (3, 0, ["row", "number", "p"], some [2, 1, 0]), (3, 3, [], none), (4, 2, [], none), (5, 1, [], none), (6, 0, ["row", "p"], some [1, 0]), (6, 2, [], none)]
def bnd_1 : List (Nat × Nat × List Str × Option (List Nat)) := [(7, 1, [], none), (8, 2, [], none), (9, 2, [], none)]
def bnd : List (Nat × Nat × List Str × Option (List Nat)) := bnd_0 ++ bnd_1
def er0 : ErT := ⟨"Unfit", none, L2.defArgs (initOf (topS 2)), L2.defBody (initOf (topS 2)), L2.defScope (initOf (topS 2))⟩
def ers : List ErT := [er0]
abbrev C : List D := cOf cns
/-- what the defs are worth -/
abbrev F (n j : Nat) := Fn C ds n j
theorem F0 {n : Nat} (h : 0 < n) : F n 0 = exD ⟨F 0, C⟩ 1 b0 := (Fn_lt h).trans (Fn_at (d := d0) rfl)
theorem F1 {n : Nat} (h : 1 < n) : F n 1 = exD ⟨F 1, C⟩ 5 b1 := (Fn_lt h).trans (Fn_at (d := d1) rfl)
theorem F2 {n : Nat} (h : 2 < n) : F n 2 = exD ⟨F 2, C⟩ 5 b2 := (Fn_lt h).trans (Fn_at (d := d2) rfl)
theorem F3 {n : Nat} (h : 3 < n) : F n 3 = exD ⟨F 3, C⟩ 4 b3 := (Fn_lt h).trans (Fn_at (d := d3) rfl)
theorem F4 {n : Nat} (h : 4 < n) : F n 4 = exD ⟨F 4, C⟩ 5 b4 := (Fn_lt h).trans (Fn_at (d := d4) rfl)
theorem F5 {n : Nat} (h : 5 < n) : F n 5 = exD ⟨F 5, C⟩ 4 b5 := (Fn_lt h).trans (Fn_at (d := d5) rfl)
theorem F6 {n : Nat} (h : 6 < n) : F n 6 = exD ⟨F 6, C⟩ 3 b6 := (Fn_lt h).trans (Fn_at (d := d6) rfl)
theorem F7 {n : Nat} (h : 7 < n) : F n 7 = exD ⟨F 7, C⟩ 4 b7 := (Fn_lt h).trans (Fn_at (d := d7) rfl)
theorem F8 {n : Nat} (h : 8 < n) : F n 8 = exD ⟨F 8, C⟩ 4 b8 := (Fn_lt h).trans (Fn_at (d := d8) rfl)
theorem F9 {n : Nat} (h : 9 < n) : F n 9 = exD ⟨F 9, C⟩ 2 b9 := (Fn_lt h).trans (Fn_at (d := d9) rfl)
theorem F10 {n : Nat} (h : 10 < n) : F n 10 = exD ⟨F 10, C⟩ 3 b10 := (Fn_lt h).trans (Fn_at (d := d10) rfl)
theorem F11 {n : Nat} (h : 11 < n) : F n 11 = exD ⟨F 11, C⟩ 4 b11 := (Fn_lt h).trans (Fn_at (d := d11) rfl)
theorem F12 {n : Nat} (h : 12 < n) : F n 12 = exD ⟨F 12, C⟩ 7 b12 := (Fn_lt h).trans (Fn_at (d := d12) rfl)
theorem F13 {n : Nat} (h : 13 < n) : F n 13 = exD ⟨F 13, C⟩ 4 b13 := (Fn_lt h).trans (Fn_at (d := d13) rfl)
theorem F14 {n : Nat} (h : 14 < n) : F n 14 = exD ⟨F 14, C⟩ 3 b14 := (Fn_lt h).trans (Fn_at (d := d14) rfl)
theorem F15 {n : Nat} (h : 15 < n) : F n 15 = exD ⟨F 15, C⟩ 4 b15 := (Fn_lt h).trans (Fn_at (d := d15) rfl)
theorem F16 {n : Nat} (h : 16 < n) : F n 16 = exD ⟨F 16, C⟩ 6 b16 := (Fn_lt h).trans (Fn_at (d := d16) rfl)
theorem F17 {n : Nat} (h : 17 < n) : F n 17 = exD ⟨F 17, C⟩ 6 b17 := (Fn_lt h).trans (Fn_at (d := d17) rfl)
theorem F18 {n : Nat} (h : 18 < n) : F n 18 = exD ⟨F 18, C⟩ 4 b18 := (Fn_lt h).trans (Fn_at (d := d18) rfl)
theorem F19 {n : Nat} (h : 19 < n) : F n 19 = exD ⟨F 19, C⟩ 19 b19 := (Fn_lt h).trans (Fn_at (d := d19) rfl)
end K01

namespace K01
open PySem Fz Rw
open LA (Vc Red clr scl redF Gd)
/-- the primes -/
def Pp (p : Int) : Prop := p = 2 ∨ p = 3 ∨ p = 5 ∨ p = 7
theorem Pp.lo {p : Int} (h : Pp p) : 2 ≤ p := by unfold Pp at h; omega
theorem Pp.hi {p : Int} (h : Pp p) : p ≤ 10 := by unfold Pp at h; omega
theorem times_bd {p c x : Int} (hp : Pp p) (h : 0 ≤ c ∧ c < p) : -(2 ^ 64) < c ∧ c < 2 ^ 64 := by
  have := hp.hi
  omega
end K01

namespace K01
open PySem Fz Rw
open LA (Vc Red clr scl redF Gd)
/-- row_times -/
theorem times_ok {m : Nat} (h : 3 < m) {p : Int} (hp : 0 < p) {n : Nat} (hn : n ≤ 1000) {t : Int} (ht : -(2 ^ 64) < t ∧ t < 2 ^ 64) (x : Vc) (g : List (List Fz.D)) :
    F m 3 [.int p, .int t, rw_ n x] g = .ok (rw_ n (scl p t x), g) := by
  rw [F3 h]
  have hp0 : ¬ p = 0 := by omega
  have c : ∀ σ, σ = [some (.int p), some (.int t), some (rw_ n x), none] → coL (asg (.nm 3)) (evC ⟨F 3, C⟩ .no) (evE ⟨F 3, C⟩ e3_0) (fun w => true) [3] σ (rl n x) ⟨σ, [], g⟩ [] = .ok (rl n (scl p t x), ⟨σ, [], g⟩) := by
    intro σ hσ
    have := coL_mp (bind := asg (.nm 3)) (test := evC ⟨F 3, C⟩ .no) (elt := evE ⟨F 3, C⟩ e3_0) (ok := fun w => true) (own := [3]) (σ := σ) (m := []) (g := g) (fun j => Fz.D.int (x j)) (fun j => Fz.D.int (scl p t x j)) (List.range n) [] (by simp; exact Nat.le_trans hn (by decide)) (fun j hj r acc ha => by
      subst hσ
      rw [coL_cons]
      simp [e3_0, scl, mulOk_l ht, hp0, Int.fmod_eq_emod_of_nonneg _ (Int.le_of_lt hp), ha])
    rw [rl_map, this]
    rfl
  have c := c _ rfl
  rw [exD_ok]
  simp only [exO, b3]
  simp
  rw [c]
  simp [nlR (md := 0) hn, ntR' hn]
/-! ### what undoes a number -/
theorem tb_2_1 (g : List (List Fz.D)) : exD ⟨F 4, C⟩ 5 b4 [.int 2, .int 1] g = .ok (.int 1, g) := by kernel_rfl
theorem tb_3_1 (g : List (List Fz.D)) : exD ⟨F 4, C⟩ 5 b4 [.int 3, .int 1] g = .ok (.int 1, g) := by kernel_rfl
theorem tb_3_2 (g : List (List Fz.D)) : exD ⟨F 4, C⟩ 5 b4 [.int 3, .int 2] g = .ok (.int 2, g) := by kernel_rfl
theorem tb_5_1 (g : List (List Fz.D)) : exD ⟨F 4, C⟩ 5 b4 [.int 5, .int 1] g = .ok (.int 1, g) := by kernel_rfl
theorem tb_5_2 (g : List (List Fz.D)) : exD ⟨F 4, C⟩ 5 b4 [.int 5, .int 2] g = .ok (.int 3, g) := by kernel_rfl
theorem tb_5_3 (g : List (List Fz.D)) : exD ⟨F 4, C⟩ 5 b4 [.int 5, .int 3] g = .ok (.int 2, g) := by kernel_rfl
theorem tb_5_4 (g : List (List Fz.D)) : exD ⟨F 4, C⟩ 5 b4 [.int 5, .int 4] g = .ok (.int 4, g) := by kernel_rfl
theorem tb_7_1 (g : List (List Fz.D)) : exD ⟨F 4, C⟩ 5 b4 [.int 7, .int 1] g = .ok (.int 1, g) := by kernel_rfl
theorem tb_7_2 (g : List (List Fz.D)) : exD ⟨F 4, C⟩ 5 b4 [.int 7, .int 2] g = .ok (.int 4, g) := by kernel_rfl
theorem tb_7_3 (g : List (List Fz.D)) : exD ⟨F 4, C⟩ 5 b4 [.int 7, .int 3] g = .ok (.int 5, g) := by kernel_rfl
theorem tb_7_4 (g : List (List Fz.D)) : exD ⟨F 4, C⟩ 5 b4 [.int 7, .int 4] g = .ok (.int 2, g) := by kernel_rfl
theorem tb_7_5 (g : List (List Fz.D)) : exD ⟨F 4, C⟩ 5 b4 [.int 7, .int 5] g = .ok (.int 3, g) := by kernel_rfl
theorem tb_7_6 (g : List (List Fz.D)) : exD ⟨F 4, C⟩ 5 b4 [.int 7, .int 6] g = .ok (.int 6, g) := by kernel_rfl
theorem lp_2_1 (g : List (List Fz.D)) : exD ⟨F 13, C⟩ 4 b13 [.int 1, .int 0, .int 2] g = .ok (.int 1, g) := by kernel_rfl
theorem lp_3_1 (g : List (List Fz.D)) : exD ⟨F 13, C⟩ 4 b13 [.int 1, .int 1, .int 3] g = .ok (.int 1, g) := by kernel_rfl
theorem lp_3_2 (g : List (List Fz.D)) : exD ⟨F 13, C⟩ 4 b13 [.int 2, .int 1, .int 3] g = .ok (.int 2, g) := by kernel_rfl
theorem lp_5_1 (g : List (List Fz.D)) : exD ⟨F 13, C⟩ 4 b13 [.int 1, .int 3, .int 5] g = .ok (.int 1, g) := by kernel_rfl
theorem lp_5_2 (g : List (List Fz.D)) : exD ⟨F 13, C⟩ 4 b13 [.int 2, .int 3, .int 5] g = .ok (.int 3, g) := by kernel_rfl
theorem lp_5_3 (g : List (List Fz.D)) : exD ⟨F 13, C⟩ 4 b13 [.int 3, .int 3, .int 5] g = .ok (.int 2, g) := by kernel_rfl
theorem lp_5_4 (g : List (List Fz.D)) : exD ⟨F 13, C⟩ 4 b13 [.int 4, .int 3, .int 5] g = .ok (.int 4, g) := by kernel_rfl
theorem lp_7_1 (g : List (List Fz.D)) : exD ⟨F 13, C⟩ 4 b13 [.int 1, .int 5, .int 7] g = .ok (.int 1, g) := by kernel_rfl
theorem lp_7_2 (g : List (List Fz.D)) : exD ⟨F 13, C⟩ 4 b13 [.int 2, .int 5, .int 7] g = .ok (.int 4, g) := by kernel_rfl
theorem lp_7_3 (g : List (List Fz.D)) : exD ⟨F 13, C⟩ 4 b13 [.int 3, .int 5, .int 7] g = .ok (.int 5, g) := by kernel_rfl
theorem lp_7_4 (g : List (List Fz.D)) : exD ⟨F 13, C⟩ 4 b13 [.int 4, .int 5, .int 7] g = .ok (.int 2, g) := by kernel_rfl
theorem lp_7_5 (g : List (List Fz.D)) : exD ⟨F 13, C⟩ 4 b13 [.int 5, .int 5, .int 7] g = .ok (.int 3, g) := by kernel_rfl
theorem lp_7_6 (g : List (List Fz.D)) : exD ⟨F 13, C⟩ 4 b13 [.int 6, .int 5, .int 7] g = .ok (.int 6, g) := by kernel_rfl
theorem back_ok {m m2 : Nat} (h : 4 < m) (h2 : 13 < m2) {p : Int} (hp : Pp p) {x : Int} (h0 : 1 ≤ x) (h1 : x < p) : ∃ c : Int, (0 ≤ c ∧ c < p) ∧ (c * x) % p = 1 ∧ ∀ g, F m 4 [.int p, .int x] g = .ok (.int c, g) ∧ F m2 13 [.int x, .int (p - 2), .int p] g = .ok (.int c, g) := by
  rcases hp with rfl | rfl | rfl | rfl
  · rcases (by omega : x = 1) with rfl
    · exact ⟨1, by decide, by decide, fun g => ⟨by rw [F4 h]; exact tb_2_1 g, by rw [F13 h2]; exact lp_2_1 g⟩⟩
  · rcases (by omega : x = 1 ∨ x = 2) with rfl | rfl
    · exact ⟨1, by decide, by decide, fun g => ⟨by rw [F4 h]; exact tb_3_1 g, by rw [F13 h2]; exact lp_3_1 g⟩⟩
    · exact ⟨2, by decide, by decide, fun g => ⟨by rw [F4 h]; exact tb_3_2 g, by rw [F13 h2]; exact lp_3_2 g⟩⟩
  · rcases (by omega : x = 1 ∨ x = 2 ∨ x = 3 ∨ x = 4) with rfl | rfl | rfl | rfl
    · exact ⟨1, by decide, by decide, fun g => ⟨by rw [F4 h]; exact tb_5_1 g, by rw [F13 h2]; exact lp_5_1 g⟩⟩
    · exact ⟨3, by decide, by decide, fun g => ⟨by rw [F4 h]; exact tb_5_2 g, by rw [F13 h2]; exact lp_5_2 g⟩⟩
    · exact ⟨2, by decide, by decide, fun g => ⟨by rw [F4 h]; exact tb_5_3 g, by rw [F13 h2]; exact lp_5_3 g⟩⟩
    · exact ⟨4, by decide, by decide, fun g => ⟨by rw [F4 h]; exact tb_5_4 g, by rw [F13 h2]; exact lp_5_4 g⟩⟩
  · rcases (by omega : x = 1 ∨ x = 2 ∨ x = 3 ∨ x = 4 ∨ x = 5 ∨ x = 6) with rfl | rfl | rfl | rfl | rfl | rfl
    · exact ⟨1, by decide, by decide, fun g => ⟨by rw [F4 h]; exact tb_7_1 g, by rw [F13 h2]; exact lp_7_1 g⟩⟩
    · exact ⟨4, by decide, by decide, fun g => ⟨by rw [F4 h]; exact tb_7_2 g, by rw [F13 h2]; exact lp_7_2 g⟩⟩
    · exact ⟨5, by decide, by decide, fun g => ⟨by rw [F4 h]; exact tb_7_3 g, by rw [F13 h2]; exact lp_7_3 g⟩⟩
    · exact ⟨2, by decide, by decide, fun g => ⟨by rw [F4 h]; exact tb_7_4 g, by rw [F13 h2]; exact lp_7_4 g⟩⟩
    · exact ⟨3, by decide, by decide, fun g => ⟨by rw [F4 h]; exact tb_7_5 g, by rw [F13 h2]; exact lp_7_5 g⟩⟩
    · exact ⟨6, by decide, by decide, fun g => ⟨by rw [F4 h]; exact tb_7_6 g, by rw [F13 h2]; exact lp_7_6 g⟩⟩
/-- row_sum -/
theorem sum_ok {m : Nat} (h : 2 < m) {p : Int} (hp : 0 < p) {n : Nat} (hn : n ≤ 1000) (x y : Vc) (g : List (List Fz.D)) :
    F m 2 [.int p, rw_ n x, rw_ n y] g = .ok (rw_ n fun j => (x j + y j) % p, g) := by
  rw [F2 h]
  have hp0 : ¬ p = 0 := by omega
  have c : ∀ σ, σ = [some (.int p), some (rw_ n x), some (rw_ n y), none, none] → coL (asg (.tu [.nm 3, .nm 4])) (evC ⟨F 2, C⟩ .no) (evE ⟨F 2, C⟩ e2_0) (fun w => true) [3, 4] σ ((List.range n).map fun j => Fz.D.tup [.int (x j), .int (y j)]) ⟨σ, [], g⟩ [] = .ok (rl n fun j => (x j + y j) % p, ⟨σ, [], g⟩) := by
    intro σ hσ
    have := coL_mp (bind := asg (.tu [.nm 3, .nm 4])) (test := evC ⟨F 2, C⟩ .no) (elt := evE ⟨F 2, C⟩ e2_0) (ok := fun w => true) (own := [3, 4]) (σ := σ) (m := []) (g := g) (fun j => Fz.D.tup [.int (x j), .int (y j)]) (fun j => Fz.D.int ((x j + y j) % p)) (List.range n) [] (by simp; exact Nat.le_trans hn (by decide)) (fun j hj r acc ha => by
      subst hσ
      rw [coL_cons]
      simp [e2_0, hp0, Int.fmod_eq_emod_of_nonneg _ (Int.le_of_lt hp), ha])
    rw [this]
    rfl
  have c := c _ rfl
  have zz : zipD (rl n x) (rl n y) = (List.range n).map fun j => Fz.D.tup [.int (x j), .int (y j)] := by rw [rl_map, rl_map, zip_map]
  rw [exD_ok]
  simp only [exO, b2]
  simp [zz]
  rw [c]
  simp [nlR (md := 0) hn, ntR' hn]
/-- _law_sum -/
theorem lsum_ok {m : Nat} (h : 16 < m) {p : Int} (hp : 0 < p) {n : Nat} (hn : n ≤ 1000) {t : Int} (ht : -(2 ^ 64) < t ∧ t < 2 ^ 64) (x y : Vc) (g : List (List Fz.D)) :
    F m 16 [.int p, rw_ n x, rw_ n y, .int t] g = .ok (rw_ n fun j => (x j + t * y j) % p, g) := by
  rw [F16 h]
  have hp0 : ¬ p = 0 := by omega
  have c : ∀ σ, σ = [some (.int p), some (rw_ n x), some (rw_ n y), some (.int t), none, none] → coL (asg (.tu [.nm 4, .nm 5])) (evC ⟨F 16, C⟩ .no) (evE ⟨F 16, C⟩ e16_0) (fun w => true) [4, 5] σ ((List.range n).map fun j => Fz.D.tup [.int (x j), .int (y j)]) ⟨σ, [], g⟩ [] = .ok (rl n fun j => (x j + t * y j) % p, ⟨σ, [], g⟩) := by
    intro σ hσ
    have := coL_mp (bind := asg (.tu [.nm 4, .nm 5])) (test := evC ⟨F 16, C⟩ .no) (elt := evE ⟨F 16, C⟩ e16_0) (ok := fun w => true) (own := [4, 5]) (σ := σ) (m := []) (g := g) (fun j => Fz.D.tup [.int (x j), .int (y j)]) (fun j => Fz.D.int ((x j + t * y j) % p)) (List.range n) [] (by simp; exact Nat.le_trans hn (by decide)) (fun j hj r acc ha => by
      subst hσ
      rw [coL_cons]
      simp [e16_0, mulOk_l ht, hp0, Int.fmod_eq_emod_of_nonneg _ (Int.le_of_lt hp), ha])
    rw [this]
    rfl
  have c := c _ rfl
  have zz : zipD (rl n x) (rl n y) = (List.range n).map fun j => Fz.D.tup [.int (x j), .int (y j)] := by rw [rl_map, rl_map, zip_map]
  rw [exD_ok]
  simp only [exO, b16]
  simp [zz]
  rw [c]
  simp [nlR (md := 0) hn, ntR' hn]
end K01

namespace K01
open PySem Fz Rw
open LA (Vc Red clr scl redF Gd)
/-- where a row begins -/
def hdN (n : Nat) (f : Vc) : Option Nat := (List.range n).find? fun i => f i != 0
def hdD : Option Nat → Fz.D
  | some h => .int h
  | none => .non
theorem hdN_some {n : Nat} {f : Vc} {h : Nat} : hdN n f = some h ↔ h < n ∧ f h ≠ 0 ∧ ∀ j, j < h → f j = 0 := by
  unfold hdN
  rw [List.find?_range_eq_some]
  constructor
  · rintro ⟨h1, h2, h3⟩
    refine ⟨List.mem_range.mp h2, by simpa using h1, fun j hj => ?_⟩
    have := h3 j hj
    simpa using this
  · rintro ⟨h1, h2, h3⟩
    exact ⟨by simpa using h2, List.mem_range.mpr h1, fun j hj => by simpa using h3 j hj⟩
theorem hdN_none {n : Nat} {f : Vc} : hdN n f = none ↔ ∀ j, j < n → f j = 0 := by
  unfold hdN
  rw [List.find?_eq_none]
  constructor
  · intro h j hj
    have := h j (List.mem_range.mpr hj)
    simpa using this
  · intro h j hj
    have := h j (List.mem_range.mp hj)
    simpa using this
theorem head_ok {m : Nat} (h : 5 < m) {n : Nat} (hn : n ≤ 100) (f : Vc) (g : List (List Fz.D)) : F m 5 [rw_ n f] g = .ok (hdD (hdN n f), g) := by
  rw [F5 h]
  have c : ∀ σ, σ = [some (rw_ n f), none, none, none] → coL (asg (.tu [.nm 2, .nm 3])) (evC ⟨F 5, C⟩ c5_0) (evE ⟨F 5, C⟩ e5_0) (fun _ => true) [2, 3] σ ((List.range n).map fun i : Nat => Fz.D.tup [.int i, .int (f i)]) ⟨σ, [], g⟩ [] = .ok (((List.range n).filter fun i => f i != 0).map fun i : Nat => .int i, ⟨σ, [], g⟩) := by
    intro σ hσ
    have := coL_fil (bind := asg (.tu [.nm 2, .nm 3])) (test := evC ⟨F 5, C⟩ c5_0) (elt := evE ⟨F 5, C⟩ e5_0) (ok := fun _ => true) (own := [2, 3]) (σ := σ) (m := []) (g := g) (fun i : Nat => Fz.D.tup [.int i, .int (f i)]) (fun i : Nat => Fz.D.int i) (fun i => f i != 0) (List.range n) [] (by simp; exact Nat.le_trans hn (by decide)) (fun i hi r acc ha => by
      subst hσ
      rw [coL_cons]
      by_cases z : f i = 0
      · simp [c5_0, z]
      · simp [c5_0, e5_0, z, ha])
    rw [this]
    rfl
  have c := c _ rfl
  have ee : enuL 0 (rl n f) = (List.range n).map fun i : Nat => Fz.D.tup [.int i, .int (f i)] := enu_map _ n
  have ll : (((List.range n).filter fun i => f i != 0).map fun i : Nat => Fz.D.int i).length ≤ 100 := by
    rw [List.length_map]
    exact Nat.le_trans (List.length_filter_le _ _) (by rw [List.length_range]; exact hn)
  have pl : Pls 5 1 (((List.range n).filter fun i => f i != 0).map fun i : Nat => Fz.D.int i) := Pls_all fun d hd => by
    obtain ⟨i, hi, rfl⟩ := List.mem_map.mp hd
    have := List.mem_range.mp (List.mem_filter.mp hi).1
    have e : (10 : Nat) ^ 5 = 100000 := by decide
    exact Pl_int.mpr (by omega)
  have hh : (((List.range n).filter fun i => f i != 0).map fun i : Nat => Fz.D.int i).head? = (hdN n f).map fun i : Nat => .int i := by
    rw [List.head?_map, List.head?_filter]
    rfl
  have s1 : exS ⟨F 5, C⟩ (.set (.nm 1) (.co 0 (.tu [.nm 2, .nm 3]) (.enu (.v 0)) c5_0 e5_0 [2, 3])) ⟨[some (rw_ n f), none, none, none], [], g⟩ = .ok (.nx, ⟨[some (rw_ n f), some (.lst (((List.range n).filter fun i => f i != 0).map fun i : Nat => .int i)), none, none], [], g⟩) := by
    have nl : ∀ w, newL 0 (((List.range n).filter fun i => f i != 0).map fun i : Nat => Fz.D.int i) w = .ok (.lst (((List.range n).filter fun i => f i != 0).map fun i : Nat => Fz.D.int i), w) := fun w => nlS (by omega)
    simp [ee]
    rw [c]
    simp only [R.bd_ok, nl]
    rfl
  generalize ((List.range n).filter fun i => f i != 0).map (fun i : Nat => Fz.D.int i) = L at *
  have ne := fun {w : Wd} => ne_nilL pl (by decide) (w := w)
  unfold b5
  cases L with
  | nil =>
    have e : hdN n f = none := by
      cases q : hdN n f with
      | none => rfl
      | some k => rw [q] at hh; cases hh
    have ne : ∀ {w : Wd}, cmF .ne (.lst []) (.lst []) w = some false := ne
    rw [e]
    refine exD_rt (w1 := ⟨[some (rw_ n f), some (.lst []), none, none], [], g⟩) (d := .non) ((exB_step s1).trans ?_) rfl
    simp [ne]
  | cons d L =>
    obtain ⟨k, e, rfl⟩ : ∃ k : Nat, hdN n f = some k ∧ d = .int k := by
      cases q : hdN n f with
      | none => rw [q] at hh; cases hh
      | some k =>
        rw [q] at hh
        exact ⟨k, rfl, Option.some.inj hh⟩
    have ne : ∀ {w : Wd}, cmF .ne (.lst (.int k :: L)) (.lst []) w = some true := ne
    rw [e]
    refine exD_rt (w1 := ⟨[some (rw_ n f), some (.lst (.int k :: L)), none, none], [], g⟩) (d := .int k) ((exB_step s1).trans ?_) rfl
    simp [ne]
/-- the head of a row that is not nought, by the law's own -/
theorem headL_ok {m : Nat} (h : 14 < m) {n : Nat} (hn : n ≤ 100) {f : Vc} {k : Nat} (hk : hdN n f = some k) (g : List (List Fz.D)) : F m 14 [rw_ n f] g = .ok (.int k, g) := by
  rw [F14 h]
  have c : ∀ σ, σ = [some (rw_ n f), none, none] → coL (asg (.tu [.nm 1, .nm 2])) (evC ⟨F 14, C⟩ c14_0) (evE ⟨F 14, C⟩ e14_0) (fun _ => true) [1, 2] σ ((List.range n).map fun i : Nat => Fz.D.tup [.int i, .int (f i)]) ⟨σ, [], g⟩ [] = .ok (((List.range n).filter fun i => f i != 0).map fun i : Nat => .int i, ⟨σ, [], g⟩) := by
    intro σ hσ
    have := coL_fil (bind := asg (.tu [.nm 1, .nm 2])) (test := evC ⟨F 14, C⟩ c14_0) (elt := evE ⟨F 14, C⟩ e14_0) (ok := fun _ => true) (own := [1, 2]) (σ := σ) (m := []) (g := g) (fun i : Nat => Fz.D.tup [.int i, .int (f i)]) (fun i : Nat => Fz.D.int i) (fun i => f i != 0) (List.range n) [] (by simp; exact Nat.le_trans hn (by decide)) (fun i hi r acc ha => by
      subst hσ
      rw [coL_cons]
      by_cases z : f i = 0
      · simp [c14_0, z]
      · simp [c14_0, e14_0, z, ha])
    rw [this]
    rfl
  have c := c _ rfl
  have ee : enuL 0 (rl n f) = (List.range n).map fun i : Nat => Fz.D.tup [.int i, .int (f i)] := enu_map _ n
  have ll : (((List.range n).filter fun i => f i != 0).map fun i : Nat => Fz.D.int i).length ≤ 100 := by
    rw [List.length_map]
    exact Nat.le_trans (List.length_filter_le _ _) (by rw [List.length_range]; exact hn)
  have hh : (((List.range n).filter fun i => f i != 0).map fun i : Nat => Fz.D.int i).head? = some (.int k) := by
    rw [List.head?_map, List.head?_filter]
    show (hdN n f).map _ = _
    rw [hk]
    rfl
  have s1 : exS ⟨F 14, C⟩ (.ret (.ix (.co 0 (.tu [.nm 1, .nm 2]) (.enu (.v 0)) c14_0 e14_0 [1, 2]) (.k (.int 0)))) ⟨[some (rw_ n f), none, none], [], g⟩ = .ok (.rt (.int k), ⟨[some (rw_ n f), none, none], [], g⟩) := by
    have nl : ∀ w, newL 0 (((List.range n).filter fun i => f i != 0).map fun i : Nat => Fz.D.int i) w = .ok (.lst (((List.range n).filter fun i => f i != 0).map fun i : Nat => Fz.D.int i), w) := fun w => nlS (by omega)
    have a1 : evE ⟨F 14, C⟩ (.co 0 (.tu [.nm 1, .nm 2]) (.enu (.v 0)) c14_0 e14_0 [1, 2]) ⟨[some (rw_ n f), none, none], [], g⟩ = .ok (.lst (((List.range n).filter fun i => f i != 0).map fun i : Nat => Fz.D.int i), ⟨[some (rw_ n f), none, none], [], g⟩) := by
      rw [evE_co]
      simp only [evI_enu, evE_v, List.getElem?_cons_succ, List.getElem?_cons_zero, R.bd_ok, rw_seq, R.of_some, ee]
      have c' : coL (asg (.tu [.nm 1, .nm 2])) (evC ⟨F 14, C⟩ c14_0) (evE ⟨F 14, C⟩ e14_0) (Src.ok (srcOf (rw_ n f)) (rl n f)) [1, 2] [some (rw_ n f), none, none] ((List.range n).map fun i : Nat => Fz.D.tup [.int i, .int (f i)]) ⟨[some (rw_ n f), none, none], [], g⟩ [] = _ := c
      rw [c']
      simp only [R.bd_ok, nl]
    rw [exS_ret, evE_ix, a1]
    generalize ((List.range n).filter fun i => f i != 0).map (fun i : Nat => Fz.D.int i) = l at *
    cases l with
    | nil => cases hh
    | cons x r =>
      have : x = .int k := Option.some.inj hh
      subst this
      have i0 : ixI (r.length + 1) 0 = some 0 := ix_nat (i := 0) (Nat.succ_pos _)
      simp [i0]
  exact exD_rt (P := ⟨F 14, C⟩) (n := 3) (body := b14) (ds := [rw_ n f]) (g := g) (d := .int k) (w1 := ⟨[some (rw_ n f), none, none], [], g⟩) (exB_rt s1) rfl
/-- point_of, of a row that is not nought; its number, by the law's own -/
theorem point_ok {p : Int} (hp : Pp p) {n : Nat} (hn : n ≤ 100) {v : Vc} (hv : Red p n v) {k : Nat} (hk : hdN n v = some k) : ∃ c : Int, (0 ≤ c ∧ c < p) ∧ (∀ m g, 6 < m → F m 6 [.int p, rw_ n v] g = .ok (rw_ n (scl p c v), g)) ∧ ∀ m g, 13 < m → F m 13 [.int (v k), .int (p - 2), .int p] g = .ok (.int c, g) := by
  obtain ⟨k1, k2, k3⟩ := hdN_some.mp hk
  have hb := hv k k1
  obtain ⟨c, hc, h1, h2⟩ := back_ok (m := 6) (m2 := 14) (by decide) (by decide) hp (x := v k) (by omega) (by omega)
  refine ⟨c, hc, fun m g h => ?_, fun m g h => ?_⟩
  · rw [F6 h, exD_ok]
    have e1 := head_ok (m := 6) (by decide) hn v g
    rw [hk] at e1
    have e1 : F 6 5 [rw_ n v] g = .ok (.int k, g) := e1
    have e2 := (h2 g).1
    have lo := hp.lo
    have e3 := times_ok (m := 6) (by decide) (p := p) (by omega) (n := n) (by omega) (times_bd (x := 0) hp hc) v g
    have i1 : ∀ {w : Wd}, cmF .is (.int k) .non w = some false := rfl
    have g1 : (rl n v)[k]? = some (.int (v k)) := rl_get k1
    simp only [exO, b6]
    simp [e1, i1, ix_nat k1, g1, e2, e3, arrD]
  · have := (h2 g).2
    rw [F13 h, ← F13 (n := 14) (by decide)]
    exact this
theorem point_x {m : Nat} (h : 6 < m) {p : Int} {n : Nat} (hn : n ≤ 100) {v : Vc} (hk : hdN n v = none) (g : List (List Fz.D)) : F m 6 [.int p, rw_ n v] g = .exc "Unfit" [] g := by
  have e1 := head_ok (m := 6) (by decide) hn v g
  rw [hk] at e1
  have e1 : F 6 5 [rw_ n v] g = .ok (.non, g) := e1
  have i1 : ∀ {w : Wd}, cmF .is .non .non w = some true := rfl
  have s1 : exS ⟨F 6, C⟩ (.set (.nm 2) (.call 5 none (.cons (.v 1) .nil) .nil)) ⟨[some (.int p), some (rw_ n v), none], [], g⟩ = .ok (.nx, ⟨[some (.int p), some (rw_ n v), some .non], [], g⟩) := by
    simp [e1, arrD]
  have r1 : rsS ⟨F 6, C⟩ (.set (.nm 2) (.call 5 none (.cons (.v 1) .nil) .nil)) ⟨[some (.int p), some (rw_ n v), none], [], g⟩ = none := by
    simp [e1, arrD]
  have t : evT ⟨F 6, C⟩ (.cm .is (.v 2) (.k .non)) ⟨[some (.int p), some (rw_ n v), some .non], [], g⟩ = .ok (true, ⟨[some (.int p), some (rw_ n v), some .non], [], g⟩) := by
    simp [i1]
  rw [F6 h]
  refine exD_exc (P := ⟨F 6, C⟩) (n := 3) (body := b6) (ds := [.int p, rw_ n v]) (x := ("Unfit", [], ⟨[some (.int p), some (rw_ n v), some .non], [], g⟩)) (fun z hz => ?_) ((rsB_step r1 s1).trans (rsB_hit ?_))
  · have hz : exB ⟨F 6, C⟩ b6 ⟨[some (.int p), some (rw_ n v), none], [], g⟩ = .ok z := hz
    unfold b6 at hz
    rw [exB_step s1, exB_cons, exS_ite, t] at hz
    simp only [R.bd_ok, if_true, exB_cons, exS_rai, R.bd_err] at hz
    cases hz
  · rw [rsS_ite, t]
    simp only [nx_ok, if_true]
    refine rsB_hit ?_
    simp
end K01

namespace K01
open PySem Fz Rw
open LA (Vc Red)
theorem of18 {n : Nat} (h : 8 < n) {g : List (List Fz.D)} (hg : Pot g) {m : Int} (h1 : 1 ≤ m) (h2 : m < 1000000) : ∃ (r : Nat) (g' : List (List Fz.D)), F n 8 [.g 1, .int m] g = .ok (.int r, g') ∧ Pot g' ∧ (r : Int) < m := by
  obtain ⟨r, g', e, p, r0, r1⟩ := of_ok (P := ⟨F 8, C⟩) hg h1 (by omega)
  obtain ⟨k, rfl⟩ : ∃ k : Nat, r = (k : Int) := ⟨r.toNat, by omega⟩
  exact ⟨k, g', by rw [F8 h]; exact e, p, r1⟩
theorem one19 {n : Nat} (h : 9 < n) {g : List (List Fz.D)} (hg : Pot g) (l : List Fz.D) (h0 : 0 < l.length) (h1 : l.length < 1000000) (hr : okRets l = true) : ∃ (x : Fz.D) (g' : List (List Fz.D)), F n 9 [.g 1, .lst l] g = .ok (x, g') ∧ Pot g' ∧ x ∈ l := by
  obtain ⟨i, hi, g', e, p⟩ := one_ok (P := ⟨F 9, C⟩) (P2 := ⟨F 8, C⟩) (j := 8) (F8 (by decide)) hg (ds := l) h0 h1 hr
  exact ⟨l[i], g', by rw [F9 h]; exact e, p, List.getElem_mem hi⟩
def Z (p : Int) (d : Fz.D) : Prop := ∃ x : Int, d = .int x ∧ 0 ≤ x ∧ x < p
def zOf : Fz.D → Int
  | .int x => x
  | _ => 0
theorem Z_row {p : Int} {ys : List Fz.D} (h : ∀ y ∈ ys, Z p y) : ∃ f : Vc, ys = rl ys.length f ∧ Red p ys.length f := by
  refine ⟨fun i => zOf (ys[i]?.getD .non), ?_, ?_⟩
  · refine List.ext_getElem (by rw [rl_len]) fun i h1 h2 => ?_
    rw [rl_at, List.getElem?_eq_getElem h1]
    obtain ⟨x, e, _⟩ := h ys[i] (List.getElem_mem h1)
    show ys[i] = .int (zOf ys[i])
    rw [e]
    rfl
  · intro i hi
    obtain ⟨x, e, h0⟩ := h ys[i] (List.getElem_mem hi)
    show 0 ≤ zOf (ys[i]?.getD .non) ∧ zOf (ys[i]?.getD .non) < p
    rw [List.getElem?_eq_getElem hi]
    show 0 ≤ zOf ys[i] ∧ zOf ys[i] < p
    rw [e]
    exact h0
theorem row26 {m : Nat} (h : 15 < m) {g : List (List Fz.D)} (hg : Pot g) {p : Int} (hp : Pp p) {n : Nat} (hn : n ≤ 50) :
    ∃ (f : Vc) (g' : List (List Fz.D)), F m 15 [.g 1, .int p, .int n] g = .ok (rw_ n f, g') ∧ Pot g' ∧ Red p n f := by
  have lo := hp.lo
  have hi := hp.hi
  rw [F15 h]
  obtain ⟨ys, g', hl, hq, hg', e⟩ := coL_draw (P := ⟨F 15, C⟩) (e := e15_0) (t := 3) (ok := fun _ => true) (own := [3]) (σ := [some (.g 1), some (.int p), some (.int n), none]) (m := []) (Z p) Pot (fun _ => rfl) ((List.range n).map fun j : Nat => .int j) [] g hg (fun _ h => nomatch h) (by simp; exact Nat.le_trans hn (by decide)) (fun x hx g hg => by
     obtain ⟨j, _, rfl⟩ := List.mem_map.mp hx
     obtain ⟨r, g1, e1, p1, b1⟩ := of18 (n := 15) (by decide) hg (m := 3) (by decide) (by decide)
     obtain ⟨r2, g2, e2, p2, b2⟩ := of18 (n := 15) (by decide) p1 (m := p) (by omega) (by omega)
     show ∃ y σ' g', evE ⟨F 15, C⟩ e15_0 ⟨[some (.g 1), some (.int p), some (.int n), some (.int j)], [], g⟩ = _ ∧ _
     by_cases z : 0 < r
     · exact ⟨.int r2, _, g2, by simp [e15_0, e1, e2, z, arrD]; rfl, p2, ⟨r2, rfl, by omega, by omega⟩⟩
     · exact ⟨.int 0, _, g1, by simp [e15_0, e1, z, arrD]; rfl, p1, ⟨0, rfl, by omega, by omega⟩⟩)
  obtain ⟨f, ef, hf⟩ := Z_row hq
  have hl : ys.length = n := by simpa using hl
  rw [hl] at ef hf
  subst ef
  refine ⟨f, g', ?_, hg', hf⟩
  have s1 : exS ⟨F 15, C⟩ (.ret (.bi .tuple 0 (.cons (.co 0 (.nm 3) (.rng (.cons (.v 2) .nil)) .no e15_0 [3]) .nil))) ⟨[some (.g 1), some (.int p), some (.int n), none], [], g⟩ = .ok (.rt (rw_ n f), ⟨[some (.g 1), some (.int p), some (.int n), none], [], g'⟩) := by
    simp [rng_n (n := n) (by omega)]
    rw [e]
    simp [nlR (md := 0) (m := n) (by omega), ntR' (m := n) (by omega)]
  exact exD_rt (w1 := ⟨[some (.g 1), some (.int p), some (.int n), none], [], g'⟩) (d := rw_ n f) (exB_rt s1) (rs_ok _ (rw_ret n f))
/-! ### column by column -/
end K01

namespace K01
open PySem Fz Rw
open LA (Vc Red clr scl redF Gd)
/-! row_error, by own and by the law's own -/
def isInt : Fz.D → Bool
  | .int _ => true
  | _ => false
theorem ty_tup {k n : Nat} {d : Fz.D} {w : Wd} (h : Pe k n d) (r : okRet d = true) : tyF .tup w d = some (isT d) := by
  cases d <;> first | rfl | (cases r; done) | exact False.elim h
theorem ty_int {k n : Nat} {d : Fz.D} {w : Wd} (h : Pe k n d) (r : okRet d = true) : ∃ b c, tyF .int w d = some b ∧ tyF .bool w d = some c ∧ isInt d = (b && !c) := by
  cases d <;> first | exact ⟨_, _, rfl, rfl, rfl⟩ | (cases r; done) | exact False.elim h
theorem isi_ok {m : Nat} (h : 0 < m) {k n : Nat} {d : Fz.D} (hp : Pe k n d) (r : okRet d = true) (g : List (List Fz.D)) : F m 0 [d] g = .ok (.bl (isInt d), g) := by
  rw [F0 h, exD_ok]
  obtain ⟨b, c, e1, e2, e3⟩ := ty_int (w := ⟨[some d], [], g⟩) hp r
  simp [exO, b0, e1]
  cases b with
  | true => simp [e2, e3]
  | false => simp [e3]
def badIt (p : Int) : Fz.D → Bool
  | .int i => !decide (0 ≤ i ∧ i < p)
  | _ => true
theorem num_ok {m : Nat} (h : 10 < m) {k n : Nat} {d : Fz.D} (hp : Pe k n d) (r : okRet d = true) {p : Int} (g : List (List Fz.D)) : F m 10 [d, .int 0, .int (p - 1)] g = .ok (.bl (!badIt p d), g) := by
  rw [F10 h, exD_ok]
  obtain ⟨b, c, e1, e2, e3⟩ := ty_int (w := ⟨[some d, some (.int 0), some (.int (p - 1))], [], g⟩) hp r
  simp [exO, b10, e1]
  cases b with
  | true =>
    cases c with
    | true =>
      have : badIt p d = true := by
        cases d <;> first | rfl | (cases e3; done)
      simp [e2, this]
    | false =>
      simp [e2]
      cases d with
      | int i =>
        have : badIt p (.int i) = !decide (0 ≤ i ∧ i < p) := rfl
        rw [this]
        by_cases z : 0 ≤ i
        · by_cases z2 : i < p
          · have z3 : i ≤ p - 1 := by omega
            simp [z, z2, z3]
          · have z3 : ¬ i ≤ p - 1 := by omega
            simp [z, z2, z3]
        · simp [z]
      | _ => cases e3
  | false =>
    have : badIt p d = true := by
      cases d <;> first | rfl | (cases e3; done)
    simp [this]
def badL (p : Int) : List Fz.D → Nat → List Nat
  | [], _ => []
  | d :: r, k => if badIt p d then k :: badL p r (k + 1) else badL p r (k + 1)
def itemE (i : Nat) : Fz.D := .tup [.str "item", .int i]
/-- what is wrong of a row -/
def rowF (p : Int) (n : Nat) : Fz.D → Fz.D
  | .tup ds => if ds.length = n then (match (badL p ds 0).head? with
    | some j => itemE j
    | none => .non) else .str "form"
  | _ => .str "form"
theorem badL_lt {p : Int} : ∀ (ds : List Fz.D) (k : Nat), (badL p ds k).length ≤ ds.length ∧ ∀ j ∈ badL p ds k, j < k + ds.length
  | [], k => ⟨Nat.le_refl _, fun j h => nomatch h⟩
  | d :: ds, k => by
    obtain ⟨h1, h2⟩ := badL_lt (p := p) ds (k + 1)
    have e : badL p (d :: ds) k = if badIt p d then k :: badL p ds (k + 1) else badL p ds (k + 1) := rfl
    rw [e]
    refine ⟨?_, fun j hj => ?_⟩
    · split
      · rw [List.length_cons, List.length_cons]; omega
      · rw [List.length_cons]; omega
    · rw [List.length_cons]
      split at hj
      · rcases List.mem_cons.mp hj with rfl | hj
        · omega
        · have := h2 j hj; omega
      · have := h2 j hj; omega
/-- the first bad item of a row -/
theorem first1 {p : Int} {n0 v : Option Fz.D} {g : List (List Fz.D)} : ∀ (ds : List Fz.D) (k : Nat), (∀ d ∈ ds, ∃ n, Pe 40 n d ∧ okRet d = true) →
    ∃ w', forL (asg (.tu [.nm 3, .nm 4])) (exB ⟨F 1, C⟩ b1_0) (postF [3, 4] false 0) (fun _ => true) (enuL k ds) ⟨[some (.int p), n0, v, none, none], [], g⟩ = .ok ((match (badL p ds k).head? with
      | some j => .rt (itemE j)
      | none => .nx), w') ∧ w'.m = [] ∧ w'.g = g
  | [], k, _ => ⟨_, rfl, rfl, rfl⟩
  | d :: ds, k, h => by
    obtain ⟨nd, hp, hr⟩ := h d List.mem_cons_self
    obtain ⟨w', e, h1, h2⟩ := first1 (p := p) (n0 := n0) (v := v) (g := g) ds (k + 1) fun d hd => h d (List.mem_cons_of_mem _ hd)
    have ei := isi_ok (m := 1) (by decide) hp hr g
    have hrs := fun (ρ : Nat → Option Fz.D) (φ : Bool) => rs_ok (ρ := ρ) (φ := φ) d hr
    have tst : evT ⟨F 1, C⟩ (.or (.no (.call 0 none (.cons (.v 4) .nil) .nil)) (.no (.ch (.k (.int 0)) .le (.v 4) .lt (.v 0)))) ⟨[some (.int p), n0, v, some (.int k), some d], [], g⟩ = .ok (badIt p d, ⟨[some (.int p), n0, v, some (.int k), some d], [], g⟩) := by
      cases z : isInt d with
      | false =>
        have : badIt p d = true := by
          cases d <;> first | rfl | (cases z; done)
        rw [z] at ei
        simp [ei, hrs, arrD, this]
      | true =>
        rw [z] at ei
        cases d with
        | int i =>
          have : badIt p (.int i) = !decide (0 ≤ i ∧ i < p) := rfl
          simp [ei, arrD, this]
          by_cases z : 0 ≤ i
          · by_cases z2 : i < p
            · simp [z, z2]
            · simp [z, z2]
          · simp [z]
        | _ => cases z
    have ek : ((k : Int) + 1) = ((k + 1 : Nat) : Int) := by omega
    show ∃ w', forL _ _ _ _ (.tup [.int k, d] :: enuL (k + 1) ds) _ = _ ∧ _
    have a1 : asg (.tu [.nm 3, .nm 4]) (.tup [.int k, d]) ⟨[some (.int p), n0, v, none, none], [], g⟩ = some ⟨[some (.int p), n0, v, some (.int k), some d], [], g⟩ := rfl
    have e5 : badL p (d :: ds) k = if badIt p d then k :: badL p ds (k + 1) else badL p ds (k + 1) := rfl
    rw [forL_cons, a1]
    simp only [R.of_some, R.bd_ok]
    unfold b1_0
    rw [exB_cons, exS_ite, tst, e5]
    cases hb : badIt p d with
    | true =>
      refine ⟨⟨[some (.int p), n0, v, some (.int k), some d], [], g⟩, ?_, rfl, rfl⟩
      simp [itemE]
    | false =>
      refine ⟨w', ?_, h1, h2⟩
      rw [ek] 
      simp only [R.bd_ok, Bool.false_eq_true, if_false, exB_nil]
      exact e
theorem len_tup {ds : List Fz.D} {w : Wd} : biF .len 0 [.tup ds] w = .ok (.int ds.length, w) := .trans rfl rfl
theorem err_ok {m : Nat} (h : 1 < m) {k c : Nat} {v : Fz.D} (hv : Ie c k v) {p : Int} {n : Nat} (g : List (List Fz.D)) : F m 1 [.int p, .int n, v] g = .ok (rowF p n v, g) := by
  rw [F1 h]
  have ty := fun w => ty_tup (w := w) hv.pe hv.ret
  by_cases ht : isT v = true
  · cases v with
    | tup ds =>
      by_cases hl : ds.length = n
      · have hm : ∀ d ∈ ds, ∃ n, Pe 40 n d ∧ okRet d = true := fun d hd => by
          refine ⟨k - 1, ?_, Rw.okRets_mem hv.ret d hd⟩
          have : ∀ {l : List Fz.D} {j : Nat}, Pes 40 j l → ∀ d ∈ l, Pe 40 j d := fun {l j} => by
            induction l with
            | nil => intro _ d h; cases h
            | cons x l ih =>
              intro h d hd
              rcases List.mem_cons.mp hd with rfl | hd
              · exact h.1
              · exact ih h.2 d hd
          exact this hv.pe.2 d hd
        obtain ⟨w', e, h1, h2⟩ := first1 (p := p) (n0 := some (.int n)) (v := some (.tup ds)) (g := g) ds 0 hm
        have s1 : exS ⟨F 1, C⟩ (.ite (.or (.no (.isi (.v 2) .tup)) (.cm .ne (.bi .len 0 (.cons (.v 2) .nil)) (.v 1))) [.ret (.k (.str "form"))] []) ⟨[some (.int p), some (.int n), some (.tup ds), none, none], [], g⟩ = .ok (.nx, ⟨[some (.int p), some (.int n), some (.tup ds), none, none], [], g⟩) := by
          simp [ty, len_tup, hl]
        have s2 : exS ⟨F 1, C⟩ (.for (.tu [.nm 3, .nm 4]) (.enu (.v 2)) b1_0 [3, 4] false) ⟨[some (.int p), some (.int n), some (.tup ds), none, none], [], g⟩ = .ok ((match (badL p ds 0).head? with
          | some j => .rt (itemE j)
          | none => .nx), w') := by
          rw [exS_for]
          simp only [evI_enu, evE_v, List.getElem?_cons_succ, List.getElem?_cons_zero, R.bd_ok, seq_tup, R.of_some]
          exact e
        have ev : rowF p n (.tup ds) = match (badL p ds 0).head? with
          | some j => itemE j
          | none => .non := by
          show (if ds.length = n then _ else _) = _
          rw [if_pos hl]
        rw [ev]
        unfold b1
        cases hb : (badL p ds 0).head? with
        | some j =>
          rw [hb] at s2
          refine (exD_rt (P := ⟨F 1, C⟩) (n := 5) (ds := [.int p, .int n, .tup ds]) (g := g) (d := itemE j) ((exB_step s1).trans (exB_rt s2)) (rs_ok _ rfl)).trans ?_
          rw [h2]
        | none =>
          rw [hb] at s2
          refine (exD_rt (P := ⟨F 1, C⟩) (n := 5) (ds := [.int p, .int n, .tup ds]) (g := g) (d := .non) ((exB_step s1).trans ((exB_step s2).trans (exB_rt (w' := w') (by simp)))) rfl).trans ?_
          rw [h2]
      · have ev : rowF p n (.tup ds) = .str "form" := by
          show (if ds.length = n then _ else _) = _
          rw [if_neg hl]
        rw [ev, exD_ok]
        simp only [exO, b1]
        have hl2 : ¬ (ds.length : Int) = n := by omega
        simp [ty, len_tup, hl, hl2]
    | _ => cases ht
  · have ht : isT v = false := by simpa using ht
    have ev : rowF p n v = .str "form" := by
      cases v <;> first | rfl | cases ht
    rw [ev, exD_ok]
    simp only [exO, b1]
    simp [ty, ht]
end K01

namespace K01
open PySem Fz Rw
open LA (Vc Red clr scl redF Gd)
theorem pes_mem {k n : Nat} : ∀ {ds : List Fz.D}, Pes k n ds → ∀ d ∈ ds, Pe k n d
  | [], _, d, hd => nomatch hd
  | x :: ds, h, d, hd => by
    rcases List.mem_cons.mp hd with rfl | hd
    · exact h.1
    · exact pes_mem h.2 d hd
def nI (l : List Nat) : List Fz.D := l.map fun j : Nat => Fz.D.int j
theorem nI_pl {l : List Nat} (h : ∀ j ∈ l, j < 1000) {n : Nat} : Pls 5 n (nI l) := Pls_all fun d hd => by
  obtain ⟨j, hj, rfl⟩ := List.mem_map.mp hd
  have := h j hj
  refine Pl_int.mpr ?_
  have : (10 : Nat) ^ 5 = 100000 := by decide
  omega
/-- the law's own bad items -/
theorem bad17 {p : Int} {n0 v : Option Fz.D} {g : List (List Fz.D)} (σ : List (Option Fz.D)) (hσ : σ = [some (.int p), n0, v, none, none, none]) : ∀ (ds : List Fz.D) (k : Nat) (acc : List Fz.D), acc.length + ds.length ≤ 1000 → (∀ d ∈ ds, ∃ n, Pe 40 n d ∧ okRet d = true) →
    coL (asg (.tu [.nm 4, .nm 5])) (evC ⟨F 17, C⟩ c17_0) (evE ⟨F 17, C⟩ e17_0) (fun _ => true) [4, 5] σ (enuL k ds) ⟨σ, [], g⟩ acc = .ok (acc ++ nI (badL p ds k), ⟨σ, [], g⟩)
  | [], k, acc, _, _ => by simp [enuL, badL, nI]
  | d :: ds, k, acc, hl, h => by
    obtain ⟨nd, hp, hr⟩ := h d List.mem_cons_self
    rw [List.length_cons] at hl
    have ih := fun acc (hl : acc.length + ds.length ≤ 1000) => bad17 (p := p) (n0 := n0) (v := v) (g := g) σ hσ ds (k + 1) acc hl fun d hd => h d (List.mem_cons_of_mem _ hd)
    have ek : ((k : Int) + 1) = ((k + 1 : Nat) : Int) := by omega
    have ei := num_ok (m := 17) (by decide) hp hr (p := p) g
    have hrs := fun (ρ : Nat → Option Fz.D) (φ : Bool) => rs_ok (ρ := ρ) (φ := φ) d hr
    have e5 : badL p (d :: ds) k = if badIt p d then k :: badL p ds (k + 1) else badL p ds (k + 1) := rfl
    have mx : acc.length < mxLen := Nat.lt_of_le_of_lt (show acc.length ≤ 1000 by omega) (by decide)
    show coL _ _ _ _ _ _ (.tup [.int k, d] :: enuL (k + 1) ds) _ _ = _
    rw [coL_cons, e5]
    subst hσ
    have a1 : asg (.tu [.nm 4, .nm 5]) (.tup [.int k, d]) ⟨[some (.int p), n0, v, none, none, none], [], g⟩ = some ⟨[some (.int p), n0, v, none, some (.int k), some d], [], g⟩ := rfl
    have w0 : wipeD [some (.int p), n0, v, none, none, none] [4, 5] = [some (.int p), n0, v, none, none, none] := rfl
    cases hb : badIt p d with
    | true =>
      have ih := ih (acc ++ [.int k]) (by rw [List.length_append, List.length_singleton]; omega)
      rw [hb] at ei
      have t1 : evC ⟨F 17, C⟩ c17_0 ⟨[some (.int p), n0, v, none, some (.int k), some d], [], g⟩ = .ok (true, ⟨[some (.int p), n0, v, none, some (.int k), some d], [], g⟩) := by
        simp [c17_0, hrs, ei, arrD]
      rw [w0, a1]
      simp only [R.of_some, R.bd_ok, t1, if_true]
      have t2 : evE ⟨F 17, C⟩ e17_0 ⟨[some (.int p), n0, v, none, some (.int k), some d], [], g⟩ = .ok (.int k, ⟨[some (.int p), n0, v, none, some (.int k), some d], [], g⟩) := by simp [e17_0]
      rw [t2]
      simp only [R.bd_ok, Bool.true_and, decide_eq_true mx, if_true]
      rw [ek, ih]
      simp [nI]
    | false =>
      have ih := ih acc (by omega)
      rw [hb] at ei
      have t1 : evC ⟨F 17, C⟩ c17_0 ⟨[some (.int p), n0, v, none, some (.int k), some d], [], g⟩ = .ok (false, ⟨[some (.int p), n0, v, none, some (.int k), some d], [], g⟩) := by
        simp [c17_0, hrs, ei, arrD]
      rw [w0, a1]
      simp only [R.of_some, R.bd_ok, t1]
      rw [ek]
      exact ih
theorem flt_ok {m : Nat} (h : 17 < m) {k c : Nat} {v : Fz.D} (hv : Ie c k v) {p : Int} {n : Nat} (hn : n ≤ 900) (g : List (List Fz.D)) : F m 17 [.int p, .int n, v] g = .ok (rowF p n v, g) := by
  rw [F17 h]
  have ty := fun w => ty_tup (w := w) hv.pe hv.ret
  by_cases ht : isT v = true
  · cases v with
    | tup ds =>
      by_cases hl : ds.length = n
      · have hm : ∀ d ∈ ds, ∃ n, Pe 40 n d ∧ okRet d = true := fun d hd => ⟨k - 1, pes_mem hv.pe.2 d hd, Rw.okRets_mem hv.ret d hd⟩
        have c := bad17 (p := p) (n0 := some (.int n)) (v := some (.tup ds)) (g := g) _ rfl ds 0 [] (by simp; omega) hm
        obtain ⟨b1', b2⟩ := badL_lt (p := p) ds 0
        have nl : ∀ w, newL 0 (nI (badL p ds 0)) w = .ok (.lst (nI (badL p ds 0)), w) := fun w => nlS (by unfold nI; rw [List.length_map]; omega)
        have ne := fun {w : Wd} => ne_nilL (n := 1) (nI_pl (fun j hj => by have := b2 j hj; omega) : Pls 5 1 (nI (badL p ds 0))) (by decide) (w := w)
        have s1 : exS ⟨F 17, C⟩ (.ite (.or (.no (.isi (.v 2) .tup)) (.cm .ne (.bi .len 0 (.cons (.v 2) .nil)) (.v 1))) [.ret (.k (.str "form"))] []) ⟨[some (.int p), some (.int n), some (.tup ds), none, none, none], [], g⟩ = .ok (.nx, ⟨[some (.int p), some (.int n), some (.tup ds), none, none, none], [], g⟩) := by
          simp [ty, len_tup, hl]
        have s2 : exS ⟨F 17, C⟩ (.set (.nm 3) (.co 0 (.tu [.nm 4, .nm 5]) (.enu (.v 2)) c17_0 e17_0 [4, 5])) ⟨[some (.int p), some (.int n), some (.tup ds), none, none, none], [], g⟩ = .ok (.nx, ⟨[some (.int p), some (.int n), some (.tup ds), some (.lst (nI (badL p ds 0))), none, none], [], g⟩) := by
          have c' : coL (asg (.tu [.nm 4, .nm 5])) (evC ⟨F 17, C⟩ c17_0) (evE ⟨F 17, C⟩ e17_0) ((srcOf (.tup ds)).ok ds) [4, 5] [some (.int p), some (.int n), some (.tup ds), none, none, none] (enuL 0 ds) ⟨[some (.int p), some (.int n), some (.tup ds), none, none, none], [], g⟩ [] = _ := c
          simp only [exS_set, evE_co, evI_enu, evE_v, List.getElem?_cons_succ, List.getElem?_cons_zero, R.bd_ok, seq_tup, R.of_some]
          rw [c']
          simp [nl]
        have ev : rowF p n (.tup ds) = match (badL p ds 0).head? with
          | some j => itemE j
          | none => .non := if_pos hl
        rw [ev]
        unfold b17
        cases hb : badL p ds 0 with
        | nil =>
          rw [hb] at ne s2
          have ne : ∀ {w : Wd}, cmF .ne (.lst (nI [])) (.lst []) w = some false := ne
          exact exD_rt (P := ⟨F 17, C⟩) (n := 6) (ds := [.int p, .int n, .tup ds]) (g := g) (d := .non) (w1 := ⟨[some (.int p), some (.int n), some (.tup ds), some (.lst (nI [])), none, none], [], g⟩) ((exB_step s1).trans ((exB_step s2).trans (exB_rt (by simp [ne])))) rfl
        | cons j l =>
          rw [hb] at ne s2
          have ne : ∀ {w : Wd}, cmF .ne (.lst (nI (j :: l))) (.lst []) w = some true := ne
          have i0 : ixI (nI (j :: l)).length 0 = some 0 := ix_nat (i := 0) (by simp [nI])
          have g0 : (nI (j :: l))[0]? = some (.int j) := rfl
          exact exD_rt (P := ⟨F 17, C⟩) (n := 6) (ds := [.int p, .int n, .tup ds]) (g := g) (d := itemE j) (w1 := ⟨[some (.int p), some (.int n), some (.tup ds), some (.lst (nI (j :: l))), none, none], [], g⟩) ((exB_step s1).trans ((exB_step s2).trans (exB_rt (by simp [ne, i0, g0, itemE])))) (rs_ok _ rfl)
      · have ev : rowF p n (.tup ds) = .str "form" := by
          show (if ds.length = n then _ else _) = _
          rw [if_neg hl]
        rw [ev, exD_ok]
        simp only [exO, b17]
        have hl2 : ¬ (ds.length : Int) = n := by omega
        simp [ty, len_tup, hl, hl2]
    | _ => cases ht
  · have ht : isT v = false := by simpa using ht
    have ev : rowF p n v = .str "form" := by
      cases v <;> first | rfl | cases ht
    rw [ev, exD_ok]
    simp only [exO, b17]
    simp [ty, ht]
/-- what is told is small -/
theorem rowF_ie {p : Int} {n : Nat} {v : Fz.D} (hn : n ≤ 900) : Ie 70 1 (rowF p n v) := by
  have s1 : Ie 20 1 (.str "form") := ⟨show PyData.strOk _ = true by decide +kernel, rfl, by show (reprText "form").length ≤ 20; decide +kernel⟩
  have s2 : Ie 20 0 (.str "item") := ⟨show PyData.strOk _ = true by decide +kernel, rfl, by show (reprText "item").length ≤ 20; decide +kernel⟩
  by_cases ht : isT v = true
  · cases v with
    | tup ds =>
      show Ie 70 1 (if ds.length = n then (match (badL p ds 0).head? with
        | some j => itemE j
        | none => .non) else .str "form")
      split
      · rename_i hl
        cases hb : badL p ds 0 with
        | nil => exact (Ie.non (k := 0)).mono (by decide) (by decide)
        | cons j l =>
          have hj := (badL_lt (p := p) ds 0).2 j (by rw [hb]; exact List.mem_cons_self)
          have ij : Ie 41 0 (.int (j : Int)) := Ie.int (by omega)
          refine ⟨⟨by decide, s2.pe, ij.pe, trivial⟩, rfl, ?_⟩
          show szB 40 (.str "item") + 2 + (szB 40 (.int j) + 2 + 0) + 3 ≤ 70
          have := s2.sz
          have := ij.sz
          omega
      · exact s1.mono (by decide) (by decide)
    | _ => cases ht
  · have ht : isT v = false := by simpa using ht
    have ev : rowF p n v = .str "form" := by
      cases v <;> first | rfl | cases ht
    rw [ev]
    exact s1.mono (by decide) (by decide)
end K01

namespace K01
open PySem Fz Rw
theorem eq_nilTk {k n : Nat} {ds : List Fz.D} (h : Pls k n ds) (hn : n ≤ 60) {w : Wd} : cmF .eq (.tup ds) (.tup []) w = some ds.isEmpty := by
  show eqF (.tup ds) (.tup []) w = some ds.isEmpty
  rw [eqF_plain (k := k) (n := n + 1) (Pl_tup.mpr h) (Pl_tup.mpr (Pls_nil.mpr trivial)) (by omega)]
  cases ds with
  | nil => simp [pd, pds, PyData.eqv, PyData.eqvAll]
  | cons X l => simp [pd, pds, PyData.eqv, PyData.eqvAll]
/-- a bent row -/
def Bt (ds os : List Fz.D) (d : Fz.D) : Prop := (∃ es, (d = .tup es ∨ d = .lst es) ∧ es.length ≤ ds.length + 1 ∧ ∀ e ∈ es, e ∈ ds ∨ e ∈ os) ∨ d = .non ∨ d = .tup [.tup ds]
theorem Bt.ret {ds os : List Fz.D} (hd : okRets ds = true) (ho : okRets os = true) {d : Fz.D} (h : Bt ds os d) : okRet d = true := by
  rcases h with ⟨es, e, _, hm⟩ | rfl | rfl
  · have : okRets es = true := okRets_all fun x hx => by
      rcases hm x hx with h | h
      · exact Rw.okRets_mem hd x h
      · exact Rw.okRets_mem ho x h
    rcases e with rfl | rfl <;> exact this
  · rfl
  · show (okRets ds && true) = true
    rw [hd]; rfl
section
variable {ds os : List Fz.D} (h0 : 0 < ds.length) (hl : ds.length ≤ 12) (o0 : 0 < os.length) (ol : os.length ≤ 20) (hd : okRets ds = true) (ho : okRets os = true)
include hl o0 ol ho in
theorem bent_e {g : List (List Fz.D)} (hg : Pot g) {k : Nat} (hk : k < ds.length) (s t : Option Fz.D) : ∃ y g', Bt ds os y ∧ Pot g' ∧
    evE ⟨F 12, C⟩ e12_1 ⟨[some (.g 1), some (.tup ds), some (.lst os), none, some (.int k), s, t], [], g⟩ = .ok (y, ⟨[some (.g 1), some (.tup ds), some (.lst os), none, some (.int k), s, t], [], g'⟩) := by
  obtain ⟨x, g1, e1, p1, m1⟩ := one19 (n := 12) (by decide) hg os o0 (by omega) ho
  have qo : ∀ ρ φ, rsL ρ φ os = some os := fun ρ φ => rsL_ok os ho
  have c1 : cut ds none (some (k : Int)) = ds.take k := cut_to
  have c2 : cut ds (some ((k : Int) + 1)) none = ds.drop (k + 1) := by
    rw [show ((k : Int) + 1) = ((k + 1 : Nat) : Int) by omega]
    exact cut_from
  refine ⟨.tup (ds.take k ++ [x] ++ ds.drop (k + 1)), g1, .inl ⟨_, .inl rfl, ?_, ?_⟩, p1, ?_⟩
  · rw [List.length_append, List.length_append, List.length_take, List.length_drop, List.length_singleton]
    omega
  · exact mm_app (mm_app (fun e he => .inl (List.mem_of_mem_take he)) (mm_cons (.inr m1) mm_nil)) fun e he => .inl (List.mem_of_mem_drop he)
  · simp (disch := first | omega | (simp only [List.length_append, List.length_take, List.length_drop, List.length_cons, List.length_nil]; omega)) [e12_1, e1, qo, c1, c2, ntS, arrD]
include h0 hl o0 ol hd ho in
theorem bent14 {m : Nat} (h : 12 < m) {n : Nat} (hn : n ≤ 50) (hp : Pls 40 n ds) {g : List (List Fz.D)} (hg : Pot g) : ∃ y g', F m 12 [.g 1, .tup ds, .lst os] g = .ok (y, g') ∧ Pot g' ∧ Bt ds os y := by
  rw [F12 h]
  have eqn := fun {w : Wd} => eq_nilTk hp (by omega) (w := w)
  have em : ds.isEmpty = false := by cases ds with
    | nil => exact absurd h0 (Nat.lt_irrefl 0)
    | cons => rfl
  rw [em] at eqn
  obtain ⟨k, g1, e1, p1, b1⟩ := of18 (n := 12) (by decide) hg (m := ds.length) (by omega) (by omega)
  have hk : k < ds.length := by omega
  obtain ⟨ys, g2, l2, q2, p2, e2⟩ := coL_draw (P := ⟨F 12, C⟩) (e := e12_1) (t := 6) (ok := fun _ => true) (own := [6]) (σ := [some (.g 1), some (.tup ds), some (.lst os), none, some (.int k), none, none]) (m := []) (Bt ds os) Pot (fun _ => rfl) ((List.range 5).map fun j : Nat => .int j) [] g1 p1 (fun _ h => nomatch h) (by decide) (fun x hx g hg => by
    obtain ⟨y, g', hy, p, e⟩ := bent_e hl o0 ol ho hg hk none (some x)
    exact ⟨y, _, g', e, p, hy⟩)
  have l2 : ys.length = 5 := l2
  obtain ⟨x, g3, e3, p3, m3⟩ := one19 (n := 12) (by decide) p2 os o0 (by omega) ho
  have qo : ∀ ρ φ, rsL ρ φ os = some os := fun ρ φ => rsL_ok os ho
  have qd : ∀ ρ φ, rsL ρ φ ds = some ds := fun ρ φ => rsL_ok ds hd
  have c1 : cut ds none (some (k : Int)) = ds.take k := cut_to
  have c2 : cut ds (some ((k : Int) + 1)) none = ds.drop (k + 1) := by
    rw [show ((k : Int) + 1) = ((k + 1 : Nat) : Int) by omega]
    exact cut_from
  have c3 : cut ds none (some ((k : Int) + 1)) = ds.take (k + 1) := by
    rw [show ((k : Int) + 1) = ((k + 1 : Nat) : Int) by omega]
    exact cut_to
  have c4 : cut ds (some (k : Int)) none = ds.drop k := cut_from
  have i0 : ixI ds.length 0 = some 0 := ix_nat (i := 0) h0
  have i1 : ixI ds.length (-1) = some (ds.length - 1) := ixI_m1 h0
  obtain ⟨a0, ha0⟩ : ∃ a, ds[0]? = some a := ⟨_, List.getElem?_eq_getElem h0⟩
  obtain ⟨al, hal⟩ : ∃ a, ds[ds.length - 1]? = some a := ⟨_, List.getElem?_eq_getElem (by omega)⟩
  have ma0 : a0 ∈ ds := List.mem_of_getElem? ha0
  have mal : al ∈ ds := List.mem_of_getElem? hal
  have s1 : exS ⟨F 12, C⟩ (.ite (.cm .eq (.v 1) (.tup .nil)) [ .ret (.call 9 none (.cons (.v 0) (.cons (.op .add 0 (.co 0 (.nm 3) (.seq (.v 2)) .no e12_0 [3]) (.lst 0 (.cons (.k .non) (.cons (.lst 0 .nil) (.cons (.k (.int 0)) (.cons (.k (.str "")) (.cons (.k (.dic [] [])) .nil))))))) .nil)) .nil)] []) ⟨[some (.g 1), some (.tup ds), some (.lst os), none, none, none, none], [], g⟩ = .ok (.nx, ⟨[some (.g 1), some (.tup ds), some (.lst os), none, none, none, none], [], g⟩) := by
    simp [eqn]
  have s2 : exS ⟨F 12, C⟩ (.set (.nm 4) (.call 8 none (.cons (.v 0) (.cons (.bi .len 0 (.cons (.v 1) .nil)) .nil)) .nil)) ⟨[some (.g 1), some (.tup ds), some (.lst os), none, none, none, none], [], g⟩ = .ok (.nx, ⟨[some (.g 1), some (.tup ds), some (.lst os), none, some (.int k), none, none], [], g1⟩) := by
    simp [e1, arrD]
  have s3 : exS ⟨F 12, C⟩ (.set (.nm 5) (.co 0 (.nm 6) (.rng (.cons (.k (.int 5)) .nil)) .no e12_1 [6])) ⟨[some (.g 1), some (.tup ds), some (.lst os), none, some (.int k), none, none], [], g1⟩ = .ok (.nx, ⟨[some (.g 1), some (.tup ds), some (.lst os), none, some (.int k), some (.lst ys), none], [], g2⟩) := by
    have r5 : rngF [.int 5] = some ((List.range 5).map fun t : Nat => Fz.D.int t) := rng_n (n := 5) (by decide)
    simp only [exS_set, evE_co, evI_rng, evEs_cons, evEs_nil, evE_k, R.bd_ok, r5, R.of_some]
    rw [e2]
    simp (disch := omega) [nlS]
  have s4 : exS ⟨F 12, C⟩ (.set (.nm 5) (.op .add 0 (.v 5) (.lst 0 (.cons (.op .add 0 (.sl 0 (.v 1) .no (.so (.v 4))) (.sl 0 (.v 1) (.so (.op .add 0 (.v 4) (.k (.int 1)))) .no)) (.cons (.op .add 0 (.sl 0 (.v 1) .no (.so (.op .add 0 (.v 4) (.k (.int 1))))) (.sl 0 (.v 1) (.so (.v 4)) .no)) (.cons (.rev 0 (.v 1)) (.cons (.bi .list 0 (.cons (.v 1) .nil)) (.cons (.op .add 0 (.v 1) (.tup (.cons (.ix (.v 1) (.k (.int 0))) .nil))) .nil)))))))) ⟨[some (.g 1), some (.tup ds), some (.lst os), none, some (.int k), some (.lst ys), none], [], g2⟩
      = .ok (.nx, ⟨[some (.g 1), some (.tup ds), some (.lst os), none, some (.int k), some (.lst (ys ++ [.tup (ds.take k ++ ds.drop (k + 1)), .tup (ds.take (k + 1) ++ ds.drop k), .tup ds.reverse, .lst ds, .tup (ds ++ [a0])])), none], [], g2⟩) := by
    simp (disch := first | omega | (simp only [List.length_append, List.length_take, List.length_drop, List.length_cons, List.length_nil, List.length_reverse]; omega)) [c1, c2, c3, c4, ntS, nlS, addL, i0, ha0]
    exact Option.some.inj ((List.getElem?_eq_getElem h0).symm.trans ha0)
  have q4 : ∀ d ∈ ys ++ [.tup (ds.take k ++ ds.drop (k + 1)), .tup (ds.take (k + 1) ++ ds.drop k), .tup ds.reverse, .lst ds, .tup (ds ++ [a0])], Bt ds os d := by
    refine mm_app q2 (mm_cons ?_ (mm_cons ?_ (mm_cons ?_ (mm_cons ?_ (mm_cons ?_ mm_nil)))))
    · exact .inl ⟨_, .inl rfl, by rw [List.length_append, List.length_take, List.length_drop]; omega, mm_app (fun e he => .inl (List.mem_of_mem_take he)) (fun e he => .inl (List.mem_of_mem_drop he))⟩
    · exact .inl ⟨_, .inl rfl, by rw [List.length_append, List.length_take, List.length_drop]; omega, mm_app (fun e he => .inl (List.mem_of_mem_take he)) (fun e he => .inl (List.mem_of_mem_drop he))⟩
    · exact .inl ⟨_, .inl rfl, by rw [List.length_reverse]; omega, fun e he => .inl (List.mem_reverse.mp he)⟩
    · exact .inl ⟨_, .inr rfl, by omega, fun e he => .inl he⟩
    · exact .inl ⟨_, .inl rfl, by rw [List.length_append, List.length_singleton]; omega, mm_app (fun e he => .inl he) (mm_cons (.inl ma0) mm_nil)⟩
  have l4 : (ys ++ [Fz.D.tup (ds.take k ++ ds.drop (k + 1)), Fz.D.tup (ds.take (k + 1) ++ ds.drop k), Fz.D.tup ds.reverse, Fz.D.lst ds, Fz.D.tup (ds ++ [a0])]).length = 10 := by
    rw [List.length_append, l2]; rfl
  generalize ys ++ [Fz.D.tup (ds.take k ++ ds.drop (k + 1)), Fz.D.tup (ds.take (k + 1) ++ ds.drop k), Fz.D.tup ds.reverse, Fz.D.lst ds, Fz.D.tup (ds ++ [a0])] = L4 at s4 q4 l4
  have s5 : exS ⟨F 12, C⟩ (.set (.nm 5) (.op .add 0 (.v 5) (.lst 0 (.cons (.op .add 0 (.op .add 0 (.sl 0 (.v 1) .no (.so (.v 4))) (.tup (.cons (.ix (.v 1) (.neg (.k (.int 1)))) .nil))) (.sl 0 (.v 1) (.so (.op .add 0 (.v 4) (.k (.int 1)))) .no)) (.cons (.op .add 0 (.op .add 0 (.sl 0 (.v 1) .no (.so (.v 4))) (.tup (.cons (.call 9 none (.cons (.v 0) (.cons (.v 2) .nil)) .nil) .nil))) (.sl 0 (.v 1) (.so (.v 4)) .no)) .nil))))) ⟨[some (.g 1), some (.tup ds), some (.lst os), none, some (.int k), some (.lst L4), none], [], g2⟩
      = .ok (.nx, ⟨[some (.g 1), some (.tup ds), some (.lst os), none, some (.int k), some (.lst (L4 ++ [.tup (ds.take k ++ [al] ++ ds.drop (k + 1)), .tup (ds.take k ++ [x] ++ ds.drop k)])), none], [], g3⟩) := by
    simp (disch := first | omega | (simp only [List.length_append, List.length_take, List.length_drop, List.length_cons, List.length_nil, List.length_reverse]; omega)) [c1, c2, c3, c4, ntS, nlS, addL, i1, hal, e3, qo, arrD]
    exact Option.some.inj ((List.getElem?_eq_getElem (show ds.length - 1 < ds.length by omega)).symm.trans hal)
  have q5 : ∀ d ∈ L4 ++ [.tup (ds.take k ++ [al] ++ ds.drop (k + 1)), .tup (ds.take k ++ [x] ++ ds.drop k)], Bt ds os d := by
    refine mm_app q4 (mm_cons ?_ (mm_cons ?_ mm_nil))
    · exact .inl ⟨_, .inl rfl, by rw [List.length_append, List.length_append, List.length_take, List.length_drop, List.length_singleton]; omega, mm_app (mm_app (fun e he => .inl (List.mem_of_mem_take he)) (mm_cons (.inl mal) mm_nil)) (fun e he => .inl (List.mem_of_mem_drop he))⟩
    · exact .inl ⟨_, .inl rfl, by rw [List.length_append, List.length_append, List.length_take, List.length_drop, List.length_singleton]; omega, mm_app (mm_app (fun e he => .inl (List.mem_of_mem_take he)) (mm_cons (.inr m3) mm_nil)) (fun e he => .inl (List.mem_of_mem_drop he))⟩
  have l5 : (L4 ++ [Fz.D.tup (ds.take k ++ [al] ++ ds.drop (k + 1)), Fz.D.tup (ds.take k ++ [x] ++ ds.drop k)]).length = 12 := by
    rw [List.length_append, l4]; rfl
  generalize L4 ++ [Fz.D.tup (ds.take k ++ [al] ++ ds.drop (k + 1)), Fz.D.tup (ds.take k ++ [x] ++ ds.drop k)] = L5 at s5 q5 l5
  have q6 : ∀ d ∈ L5 ++ [.non, .tup [.tup ds]], Bt ds os d := mm_app q5 (mm_cons (.inr (.inl rfl)) (mm_cons (.inr (.inr rfl)) mm_nil))
  have l6 : (L5 ++ [Fz.D.non, Fz.D.tup [Fz.D.tup ds]]).length = 14 := by rw [List.length_append, l5]; rfl
  have r6 : okRets (L5 ++ [.non, .tup [.tup ds]]) = true := okRets_all fun d hd' => (q6 d hd').ret hd ho
  obtain ⟨y, g4, e4, p4, m4⟩ := one19 (n := 12) (by decide) p3 (L5 ++ [.non, .tup [.tup ds]]) (by omega) (by omega) r6
  have hy := q6 y m4
  refine ⟨y, g4, ?_, p4, hy⟩
  have s6 : exS ⟨F 12, C⟩ (.ret (.call 9 none (.cons (.v 0) (.cons (.op .add 0 (.v 5) (.lst 0 (.cons (.k .non) (.cons (.tup (.cons (.v 1) .nil)) .nil)))) .nil)) .nil)) ⟨[some (.g 1), some (.tup ds), some (.lst os), none, some (.int k), some (.lst L5), none], [], g3⟩ = .ok (.rt y, ⟨[some (.g 1), some (.tup ds), some (.lst os), none, some (.int k), some (.lst L5), none], [], g4⟩) := by
    have q : ∀ ρ φ, rsL ρ φ (L5 ++ [.non, .tup [.tup ds]]) = some (L5 ++ [.non, .tup [.tup ds]]) := fun ρ φ => rsL_ok _ r6
    simp (disch := first | omega | (simp only [List.length_append, List.length_cons, List.length_nil]; omega)) [nlS, addL, q, e4, arrD]
  exact exD_rt (w1 := ⟨[some (.g 1), some (.tup ds), some (.lst os), none, some (.int k), some (.lst L5), none], [], g4⟩) (d := y) ((exB_step s1).trans ((exB_step s2).trans ((exB_step s3).trans ((exB_step s4).trans ((exB_step s5).trans (exB_rt s6)))))) (rs_ok y (hy.ret hd ho))
end
def tl5 : List Fz.D := [.non, .lst [], .int 0, .str "", .dic [] []]
/-- a bent row of no items -/
theorem bent0 {m : Nat} (h : 12 < m) {os : List Fz.D} (o0 : 0 < os.length) (ol : os.length ≤ 20) (ho : okRets os = true) {g : List (List Fz.D)} (hg : Pot g) : ∃ y g', F m 12 [.g 1, .tup [], .lst os] g = .ok (y, g') ∧ Pot g' ∧ y ∈ os.map (fun e => Fz.D.tup [e]) ++ tl5 := by
  rw [F12 h]
  have eqn := fun {w : Wd} => eq_nilTk (k := 40) (n := 1) (ds := []) trivial (by decide) (w := w)
  have eqn : ∀ {w : Wd}, cmF .eq (.tup []) (.tup []) w = some true := eqn
  have rm : okRets (os.map (fun e => Fz.D.tup [e])) = true := okRets_all fun d hd => by
    obtain ⟨e, he, rfl⟩ := List.mem_map.mp hd
    show (okRet e && true) = true
    rw [Rw.okRets_mem ho e he]
    rfl
  have lm : (os.map (fun e => Fz.D.tup [e]) ++ tl5).length = os.length + 5 := by simp [tl5]
  have rl' : okRets (os.map (fun e => Fz.D.tup [e]) ++ tl5) = true := okRets_all fun d hd => by
    rcases List.mem_append.mp hd with hd | hd
    · exact Rw.okRets_mem rm d hd
    · simp [tl5] at hd
      rcases hd with rfl | rfl | rfl | rfl | rfl <;> rfl
  obtain ⟨y, g', e, p, my⟩ := one19 (n := 12) (by decide) hg _ (by omega) (by omega) rl'
  refine ⟨y, g', ?_, p, my⟩
  have c : ∀ σ, σ = [some (.g 1), some (.tup []), some (.lst os), none, none, none, none] → coL (asg (.nm 3)) (evC ⟨F 12, C⟩ .no) (evE ⟨F 12, C⟩ e12_0) (fun _ => true) [3] σ os ⟨σ, [], g⟩ [] = .ok (os.map (fun e => Fz.D.tup [e]), ⟨σ, [], g⟩) := by
    intro σ hσ
    have := coL_mp (bind := asg (.nm 3)) (test := evC ⟨F 12, C⟩ .no) (elt := evE ⟨F 12, C⟩ e12_0) (ok := fun _ => true) (own := [3]) (σ := σ) (m := []) (g := g) (fun e : Fz.D => e) (fun e => Fz.D.tup [e]) os [] (le_mx (by simp; omega)) (fun e he r acc ha => by
      subst hσ
      rw [coL_cons]
      simp [e12_0, ntS, ha])
    rw [List.map_id'] at this
    rw [this]
    rfl
  have c := c _ rfl
  have ry : okRet y = true := Rw.okRets_mem rl' y my
  have nl1 : ∀ w, newL 0 (os.map (fun e => Fz.D.tup [e])) w = .ok (.lst (os.map (fun e => Fz.D.tup [e])), w) := fun w => nlS (by rw [List.length_map]; omega)
  have nl2 : ∀ w, newL 0 tl5 w = .ok (.lst tl5, w) := fun w => nlS (by decide)
  have nl0 : ∀ w, newL 0 [] w = .ok (.lst [], w) := fun w => nlS (by simp)
  have ev1 : evE ⟨F 12, C⟩ (.op .add 0 (.co 0 (.nm 3) (.seq (.v 2)) .no e12_0 [3]) (.lst 0 (.cons (.k .non) (.cons (.lst 0 .nil) (.cons (.k (.int 0)) (.cons (.k (.str "")) (.cons (.k (.dic [] [])) .nil))))))) ⟨[some (.g 1), some (.tup []), some (.lst os), none, none, none, none], [], g⟩ = .ok (.lst (os.map (fun e => Fz.D.tup [e]) ++ tl5), ⟨[some (.g 1), some (.tup []), some (.lst os), none, none, none, none], [], g⟩) := by
    have c' : coL (asg (.nm 3)) (evC ⟨F 12, C⟩ .no) (evE ⟨F 12, C⟩ e12_0) ((srcOf (.lst os)).ok os) [3] [some (.g 1), some (.tup []), some (.lst os), none, none, none, none] os ⟨[some (.g 1), some (.tup []), some (.lst os), none, none, none, none], [], g⟩ [] = _ := c
    simp only [evE_op, evE_co, evI_seq, evE_v, List.getElem?_cons_succ, List.getElem?_cons_zero, R.bd_ok, seq_lst, R.of_some]
    rw [c']
    simp only [R.bd_ok, nl1, evE_lst, evEs_cons, evEs_nil, evE_k, nl0]
    rw [show ([.non, .lst [], .int 0, .str "", .dic [] []] : List Fz.D) = tl5 from rfl, nl2]
    simp only [R.bd_ok, addL]
    exact nlS (by omega)
  have s1 : exS ⟨F 12, C⟩ (.ite (.cm .eq (.v 1) (.tup .nil)) [ .ret (.call 9 none (.cons (.v 0) (.cons (.op .add 0 (.co 0 (.nm 3) (.seq (.v 2)) .no e12_0 [3]) (.lst 0 (.cons (.k .non) (.cons (.lst 0 .nil) (.cons (.k (.int 0)) (.cons (.k (.str "")) (.cons (.k (.dic [] [])) .nil))))))) .nil)) .nil)] []) ⟨[some (.g 1), some (.tup []), some (.lst os), none, none, none, none], [], g⟩ = .ok (.rt y, ⟨[some (.g 1), some (.tup []), some (.lst os), none, none, none, none], [], g'⟩) := by
    rw [exS_ite]
    have t : evT ⟨F 12, C⟩ (.cm .eq (.v 1) (.tup .nil)) ⟨[some (.g 1), some (.tup []), some (.lst os), none, none, none, none], [], g⟩ = .ok (true, ⟨[some (.g 1), some (.tup []), some (.lst os), none, none, none, none], [], g⟩) := by simp [eqn]
    rw [t]
    simp only [R.bd_ok, if_true]
    refine exB_rt ?_
    have q : ∀ ρ φ, rsL ρ φ (os.map (fun e => Fz.D.tup [e]) ++ tl5) = some (os.map (fun e => Fz.D.tup [e]) ++ tl5) := fun ρ φ => rsL_ok _ rl'
    generalize os.map (fun e => Fz.D.tup [e]) ++ tl5 = LL at *
    simp only [exS_ret, evE_call, evEs_cons, evEs_nil, evE_v, List.getElem?_cons_succ, List.getElem?_cons_zero, R.bd_ok]
    rw [ev1]
    simp [q, e, arrD]
  exact exD_rt (P := ⟨F 12, C⟩) (n := 7) (body := b12) (ds := [.g 1, .tup [], .lst os]) (g := g) (d := y) (w1 := ⟨[some (.g 1), some (.tup []), some (.lst os), none, none, none, none], [], g'⟩) (exB_rt s1) (rs_ok y ry)
end K01

namespace K01
open PySem Fz Rw
open LA (Vc Red clr scl redF Gd)
/-- a small value without dicts -/
structure Iv (c k : Nat) (d : Fz.D) : Prop where
  pl : Pl 40 k d
  ret : okRet d = true
  sz : szB 40 d ≤ c
theorem Iv.ie {c k : Nat} {d : Fz.D} (h : Iv c k d) : Ie c k d := ⟨Pe_of h.pl, h.ret, h.sz⟩
theorem Iv.mono {c k c' k' : Nat} {d : Fz.D} (h : Iv c k d) (h1 : c ≤ c') (h2 : k ≤ k') : Iv c' k' d := ⟨Pl_mono h.pl h2, h.ret, Nat.le_trans h.sz h1⟩
theorem szBs_iv {c k : Nat} {ds : List Fz.D} (h : ∀ d ∈ ds, Iv c k d) {L : Nat} (hl : ds.length ≤ L) : szBs 40 ds ≤ L * (c + 2) :=
  Nat.le_trans (szBs_le fun d hd => (h d hd).sz) (Nat.mul_le_mul_right _ hl)
theorem Iv.rets {c k : Nat} {ds : List Fz.D} (h : ∀ d ∈ ds, Iv c k d) : okRets ds = true := okRets_all fun d hd => (h d hd).ret
theorem Iv.pls {c k : Nat} {ds : List Fz.D} (h : ∀ d ∈ ds, Iv c k d) : Pls 40 k ds := Pls_all fun d hd => (h d hd).pl
theorem Iv.tup {c k L : Nat} {ds : List Fz.D} (h : ∀ d ∈ ds, Iv c k d) (hl : ds.length ≤ L) : Iv (L * (c + 2) + 3) (k + 1) (.tup ds) :=
  ⟨Pl_tup.mpr (Iv.pls h), Iv.rets h, by show szBs 40 ds + 3 ≤ _; have := szBs_iv h hl; omega⟩
theorem Iv.lst {c k L : Nat} {ds : List Fz.D} (h : ∀ d ∈ ds, Iv c k d) (hl : ds.length ≤ L) : Iv (L * (c + 2) + 3) (k + 1) (.lst ds) :=
  ⟨Pl_lst.mpr (Iv.pls h), Iv.rets h, by show szBs 40 ds + 3 ≤ _; have := szBs_iv h hl; omega⟩
theorem Iv.int {k : Nat} {i : Int} (h : -10 ^ 40 < i ∧ i < 10 ^ 40) : Iv 41 k (.int i) := by
  refine ⟨?_, rfl, Nat.le_refl _⟩
  refine Pl_int.mpr ?_
  have e : ((10 : Nat) ^ 40 : Int) = (10 : Int) ^ 40 := rfl
  omega
theorem Iv.non {k : Nat} : Iv 5 k .non := ⟨trivial, rfl, by decide⟩
theorem Iv.bl {k : Nat} {b : Bool} : Iv 5 k (.bl b) := ⟨trivial, rfl, by show 5 ≤ 5; decide⟩
theorem Iv.str1 {k : Nat} : Iv 5 k (.str "1") := ⟨Sg.ok (Sg.str _), rfl, by show (reprText "1").length ≤ 5; decide +kernel⟩
theorem Iv.str0 {k : Nat} : Iv 5 k (.str "") := ⟨Sg.ok (Sg.str _), rfl, by show (reprText "").length ≤ 5; decide +kernel⟩
/-- what is asked of: a tuple, a list of small values; something else -/
def Tv (L c k : Nat) (d : Fz.D) : Prop := (∃ es, (d = .tup es ∨ d = .lst es) ∧ es.length ≤ L ∧ ∀ e ∈ es, Iv c k e) ∨ d = .non ∨ d = .int 0 ∨ d = .str "" ∨ d = .dic [] []
theorem Tv.ie {L c k : Nat} {d : Fz.D} (h : Tv L c k d) : Ie (L * (c + 2) + 50) (k + 1) d := by
  rcases h with ⟨es, e, hl, hm⟩ | rfl | rfl | rfl | rfl
  · rcases e with rfl | rfl
    · exact (Iv.tup hm hl).ie.mono (by omega) (by omega)
    · exact (Iv.lst hm hl).ie.mono (by omega) (by omega)
  · exact (Iv.non (k := k)).ie.mono (by omega) (by omega)
  · exact (Iv.int (k := k) (by omega)).ie.mono (by omega) (by omega)
  · exact (Iv.str0 (k := k)).ie.mono (by omega) (by omega)
  · exact (Ie.emp (k := k)).mono (by omega) (by omega)
theorem Tv.mono {L c k L' c' k' : Nat} {d : Fz.D} (h : Tv L c k d) (h0 : L ≤ L') (h1 : c ≤ c') (h2 : k ≤ k') : Tv L' c' k' d := by
  rcases h with ⟨es, e, hl, hm⟩ | h
  · exact .inl ⟨es, e, by omega, fun e he => (hm e he).mono h1 h2⟩
  · exact .inr h
/-- a bent row, of any length -/
theorem bend {m : Nat} (h : 12 < m) {L c k : Nat} {ds os : List Fz.D} (hd : ∀ d ∈ ds, Iv c k d) (ho : ∀ d ∈ os, Iv c k d) (h1 : 1 ≤ L) (hl : ds.length ≤ L) (hL : L ≤ 12) (hk : k ≤ 50) (o0 : 0 < os.length) (ol : os.length ≤ 20)
    {g : List (List Fz.D)} (hg : Pot g) : ∃ y g', F m 12 [.g 1, .tup ds, .lst os] g = .ok (y, g') ∧ Pot g' ∧ Tv (L + 1) (L * (c + 2) + 3) (k + 1) y := by
  have cc : c ≤ L * (c + 2) + 3 := by
    have := Nat.mul_le_mul_right (c + 2) h1
    omega
  by_cases z : ds = []
  · subst z
    obtain ⟨y, g', e, p, my⟩ := bent0 h o0 ol (Iv.rets ho) hg
    refine ⟨y, g', e, p, ?_⟩
    rcases List.mem_append.mp my with my | my
    · obtain ⟨e0, he, rfl⟩ := List.mem_map.mp my
      exact .inl ⟨[e0], .inl rfl, by simp, fun x hx => by rw [List.mem_singleton.mp hx]; exact (ho e0 he).mono cc (by omega)⟩
    · simp [tl5] at my
      rcases my with rfl | rfl | rfl | rfl | rfl
      · exact .inr (.inl rfl)
      · exact .inl ⟨[], .inr rfl, by simp, fun x hx => nomatch hx⟩
      · exact .inr (.inr (.inl rfl))
      · exact .inr (.inr (.inr (.inl rfl)))
      · exact .inr (.inr (.inr (.inr rfl)))
  · obtain ⟨y, g', e, p, by_⟩ := bent14 (List.length_pos_iff.mpr z) (by omega) o0 ol (Iv.rets hd) (Iv.rets ho) h hk (Iv.pls hd) hg
    refine ⟨y, g', e, p, ?_⟩
    rcases by_ with ⟨es, e, hle, hm⟩ | rfl | rfl
    · exact .inl ⟨es, e, by omega, fun x hx => by
        rcases hm x hx with h | h
        · exact (hd x h).mono cc (by omega)
        · exact (ho x h).mono cc (by omega)⟩
    · exact .inr (.inl rfl)
    · exact .inl ⟨[.tup ds], .inl rfl, by simp, fun x hx => by rw [List.mem_singleton.mp hx]; exact Iv.tup hd hl⟩
/-- one's beginning, another one's end -/
theorem splice {m : Nat} (h : 11 < m) {L c k : Nat} (hL : L ≤ 100) {a b : Fz.D} (ha : Tv L c k a) (hb : Tv L c k b) {g : List (List Fz.D)} (hg : Pot g) : ∃ y g', F m 11 [.g 1, a, b] g = .ok (y, g') ∧ Pot g' ∧ Tv (2 * L) c k y := by
  rw [F11 h]
  have ta := fun w => ty_tup (w := w) ha.ie.pe ha.ie.ret
  have tb := fun w => ty_tup (w := w) hb.ie.pe hb.ie.ret
  by_cases q : isT a = true ∧ isT b = true
  · obtain ⟨qa, qb⟩ := q
    obtain ⟨es, rfl, la, ma⟩ : ∃ es, a = .tup es ∧ es.length ≤ L ∧ ∀ e ∈ es, Iv c k e := by
      rcases ha with ⟨es, e, hl, hm⟩ | rfl | rfl | rfl | rfl
      · rcases e with rfl | rfl
        · exact ⟨es, rfl, hl, hm⟩
        · cases qa
      · cases qa
      · cases qa
      · cases qa
      · cases qa
    obtain ⟨fs, rfl, lb, mb⟩ : ∃ es, b = .tup es ∧ es.length ≤ L ∧ ∀ e ∈ es, Iv c k e := by
      rcases hb with ⟨es, e, hl, hm⟩ | rfl | rfl | rfl | rfl
      · rcases e with rfl | rfl
        · exact ⟨es, rfl, hl, hm⟩
        · cases qb
      · cases qb
      · cases qb
      · cases qb
      · cases qb
    obtain ⟨j, g', e, p, hj⟩ := of18 (n := 11) (by decide) hg (m := (es.length : Int) + 1) (by omega) (by omega)
    have c1 : cut es none (some (j : Int)) = es.take j := cut_to
    have c2 : cut fs (some (j : Int)) none = fs.drop j := cut_from
    have hr : okRet (.tup (es.take j ++ fs.drop j)) = true := okRets_all fun d hd => by
      rcases List.mem_append.mp hd with hd | hd
      · exact (ma d (List.mem_of_mem_take hd)).ret
      · exact (mb d (List.mem_of_mem_drop hd)).ret
    refine ⟨.tup (es.take j ++ fs.drop j), g', ?_, p, .inl ⟨_, .inl rfl, ?_, ?_⟩⟩
    · have s1 : exS ⟨F 11, C⟩ (.ite (.or (.no (.isi (.v 1) .tup)) (.no (.isi (.v 2) .tup))) [.ret (.v 1)] []) ⟨[some (.g 1), some (.tup es), some (.tup fs), none], [], g⟩ = .ok (.nx, ⟨[some (.g 1), some (.tup es), some (.tup fs), none], [], g⟩) := by
        simp [ta, tb]
      have s2 : exS ⟨F 11, C⟩ (.set (.nm 3) (.call 8 none (.cons (.v 0) (.cons (.op .add 0 (.bi .len 0 (.cons (.v 1) .nil)) (.k (.int 1))) .nil)) .nil)) ⟨[some (.g 1), some (.tup es), some (.tup fs), none], [], g⟩ = .ok (.nx, ⟨[some (.g 1), some (.tup es), some (.tup fs), some (.int j)], [], g'⟩) := by
        simp [len_tup, e, arrD]
      have s3 : exS ⟨F 11, C⟩ (.ret (.op .add 0 (.sl 0 (.v 1) .no (.so (.v 3))) (.sl 0 (.v 2) (.so (.v 3)) .no))) ⟨[some (.g 1), some (.tup es), some (.tup fs), some (.int j)], [], g'⟩ = .ok (.rt (.tup (es.take j ++ fs.drop j)), ⟨[some (.g 1), some (.tup es), some (.tup fs), some (.int j)], [], g'⟩) := by
        have n1 : ∀ w, newT (es.take j) w = .ok (.tup (es.take j), w) := fun w => ntS (by rw [List.length_take]; omega)
        have n2 : ∀ w, newT (fs.drop j) w = .ok (.tup (fs.drop j), w) := fun w => ntS (by rw [List.length_drop]; omega)
        have n3 : ∀ w, newT (es.take j ++ fs.drop j) w = .ok (.tup (es.take j ++ fs.drop j), w) := fun w => ntS (by rw [List.length_append, List.length_take, List.length_drop]; omega)
        simp [c1, c2, n1, n2, n3]
      exact exD_rt (P := ⟨F 11, C⟩) (n := 4) (body := b11) (ds := [.g 1, .tup es, .tup fs]) (g := g) (d := .tup (es.take j ++ fs.drop j)) (w1 := ⟨[some (.g 1), some (.tup es), some (.tup fs), some (.int j)], [], g'⟩) ((exB_step s1).trans ((exB_step s2).trans (exB_rt s3))) (rs_ok _ hr)
    · rw [List.length_append, List.length_take, List.length_drop]; omega
    · intro d hd
      rcases List.mem_append.mp hd with hd | hd
      · exact ma d (List.mem_of_mem_take hd)
      · exact mb d (List.mem_of_mem_drop hd)
  · refine ⟨a, g, ?_, hg, ha.mono (by omega) (Nat.le_refl _) (Nat.le_refl _)⟩
    have s1 : exS ⟨F 11, C⟩ (.ite (.or (.no (.isi (.v 1) .tup)) (.no (.isi (.v 2) .tup))) [.ret (.v 1)] []) ⟨[some (.g 1), some a, some b, none], [], g⟩ = .ok (.rt a, ⟨[some (.g 1), some a, some b, none], [], g⟩) := by
      cases qa : isT a with
      | false => simp [ta, qa]
      | true =>
        have qb : isT b = false := by
          cases qb : isT b with
          | false => rfl
          | true => exact absurd ⟨qa, qb⟩ q
        simp [ta, tb, qa, qb]
    exact exD_rt (P := ⟨F 11, C⟩) (n := 4) (body := b11) (ds := [.g 1, a, b]) (g := g) (d := a) (w1 := ⟨[some (.g 1), some a, some b, none], [], g⟩) (exB_rt s1) (rs_ok _ ha.ie.ret)
end K01

namespace K01
open PySem Fz Rw
open LA (Vc Red clr scl redF Gd)
def UU : Fz.D := .lst [.str "unfit", .bl true]
theorem nl2' {a b : Fz.D} {w : Wd} : newL 0 [a, b] w = .ok (.lst [a, b], w) := nlS (show 2 ≤ 1000 by decide)
theorem told_x {m : Nat} (h : 18 < m) {p : Int} {n : Nat} (hn : n ≤ 100) {v : Vc} (hk : hdN n v = none) (b : Bool) (g : List (List Fz.D)) : F m 18 [.int p, rw_ n v, .bl b] g = .ok (UU, g) := by
  have e6 := point_x (m := 18) (by decide) (p := p) hn hk g
  rw [F18 h]
  have hx : rsB ⟨F 18, C⟩ [ .ret (.ite (.v 2) (.call 6 (some [1, 0]) .nil (.cons (.v 1) (.cons (.v 0) .nil))) (.call 6 none (.cons (.v 0) (.cons (.v 1) .nil)) .nil))]
      ⟨[some (.int p), some (rw_ n v), some (.bl b), none], [], g⟩ = some ((("Unfit" : Str), ([] : List Fz.D), (⟨[some (.int p), some (rw_ n v), some (.bl b), none], [], g⟩ : Wd)) : Xd) := by
    refine rsB_hit ?_
    cases b <;> simp [e6, arrD, arr]
  have s1 := exS_tr_x (c := "Unfit") (a := some 3) (its := [.str "unfit", .isi]) hx
  have hd : hdl "Unfit" (some 3) [.str "unfit", .isi] ((("Unfit" : Str), ([] : List Fz.D), (⟨[some (.int p), some (rw_ n v), some (.bl b), none], [], g⟩ : Wd)) : Xd) = .ok (.rt UU, ⟨[some (.int p), some (rw_ n v), some (.bl b), none], [], g⟩) := by
    show (if ("Unfit" : Str) = "Unfit" ∧ _ then _ else _) = _
    rw [if_pos ⟨rfl, rfl⟩]
    show (newL 0 [.str "unfit", .bl true] _).bd _ = _
    rw [nl2']
    rfl
  rw [hd] at s1
  exact exD_rt (P := ⟨F 18, C⟩) (n := 4) (body := b18) (ds := [.int p, rw_ n v, .bl b]) (g := g) (d := UU) (exB_rt (r := []) s1) (rs_ok _ rfl)
theorem told_ok {m : Nat} (h : 18 < m) {p : Int} {n : Nat} {v : Vc} {g : List (List Fz.D)} {u : Vc} (e6 : F 18 6 [.int p, rw_ n v] g = .ok (rw_ n u, g)) (b : Bool) : F m 18 [.int p, rw_ n v, .bl b] g = .ok (rw_ n u, g) := by
  rw [F18 h]
  have s1 : exS ⟨F 18, C⟩ (.ret (.ite (.v 2) (.call 6 (some [1, 0]) .nil (.cons (.v 1) (.cons (.v 0) .nil))) (.call 6 none (.cons (.v 0) (.cons (.v 1) .nil)) .nil))) ⟨[some (.int p), some (rw_ n v), some (.bl b), none], [], g⟩ = .ok (.rt (rw_ n u), ⟨[some (.int p), some (rw_ n v), some (.bl b), none], [], g⟩) := by
    cases b <;> simp [e6, arrD, arr]
  have s2 : rsS ⟨F 18, C⟩ (.ret (.ite (.v 2) (.call 6 (some [1, 0]) .nil (.cons (.v 1) (.cons (.v 0) .nil))) (.call 6 none (.cons (.v 0) (.cons (.v 1) .nil)) .nil))) ⟨[some (.int p), some (rw_ n v), some (.bl b), none], [], g⟩ = none := by
    cases b <;> simp [e6, arrD, arr]
  exact exD_rt (P := ⟨F 18, C⟩) (n := 4) (body := b18) (ds := [.int p, rw_ n v, .bl b]) (g := g) (d := rw_ n u) (exB_rt (r := []) (exS_tr_ok (rsB_end s2 s1) (exB_rt s1))) (rs_ok _ (rw_ret _ _))
theorem intD_rl {n : Nat} {f : Vc} : intD (rl n f) = some ((List.range n).map f) := by
  rw [rl_map]
  generalize List.range n = l
  induction l with
  | nil => rfl
  | cons x r ih => show (intD (r.map fun j => Fz.D.int (f j))).map _ = _; rw [ih]; rfl
theorem max_hd {n : Nat} (h1 : 1 ≤ n) {p : Int} {f : Vc} (hf : Red p n f) : (0 < maxL ((List.range n).map f)) ↔ ∃ k, hdN n f = some k := by
  have ne : (List.range n).map f ≠ [] := fun e => by
    have := congrArg List.length e
    rw [List.length_map, List.length_range] at this
    simp at this
    omega
  obtain ⟨m1, m2⟩ := maxL_spec _ ne
  constructor
  · intro h
    obtain ⟨i, hi, e⟩ := List.mem_map.mp m1
    cases z : hdN n f with
    | some k => exact ⟨k, rfl⟩
    | none =>
      have := hdN_none.mp z i (List.mem_range.mp hi)
      omega
  · rintro ⟨k, hk⟩
    obtain ⟨k1, k2, _⟩ := hdN_some.mp hk
    have h0 := (hf k k1).1
    have h2 := m2 _ (List.mem_map.mpr ⟨k, List.mem_range.mpr k1, rfl⟩)
    omega
/-- one value asked -/
theorem val_ok {sc : List Int} {x2 : Fz.D} {n : Nat} (hn : n ≤ 6) {c k : Nat} {v : Fz.D} (hv : Ie c k v) (hc : c ≤ 50000) (hk : k ≤ 50) {p : Int} {g : List (List Fz.D)} {a5 a6 a7 a8 a9 a10 a12 : Option Fz.D} :
    exB ⟨F 19, C⟩ b19_0 ⟨[some (.sc (sc.map Fz.D.int)), some (.g 1), some x2, some (.int p), some (.int n), a5, a6, a7, a8, a9, a10, none, a12, none, some v, none, none, none, none], [], g⟩ =
      .ok (.nx, ⟨[some (.sc (sc.map Fz.D.int)), some (.g 1), some x2, some (.int p), some (.int n), a5, a6, a7, a8, a9, a10, none, a12, none, some v, none, some (.str (pd (.lst [v])).shown), some (rowF p n v), some (.lst [rowF p n v, rowF p n v, .str (pd (.lst [v])).shown])], [], g⟩) := by
  have e1 := err_ok (m := 19) (by decide) hv (p := p) (n := n) g
  have e17 := flt_ok (m := 19) (by decide) hv (p := p) (n := n) (by omega) g
  have i1 : Ie (c + 5) (k + 1) (.lst [v]) := (Ie.lst (c := c) (k := k) (L := 1) (fun d hd => by rw [List.mem_singleton.mp hd]; exact hv) (by simp)).mono (by omega) (Nat.le_refl _)
  have r1 := fun {w : Wd} => i1.repr (md := 0) (w := w) (by omega) (by omega)
  have nl1 : ∀ w, newL 0 [v] w = .ok (.lst [v], w) := fun w => nlS (show 1 ≤ 1000 by decide)
  have iF : Ie 70 1 (rowF p n v) := rowF_ie (by omega)
  have rsF : ∀ (ρ : Nat → Option Fz.D) (φ : Bool), Fz.rs ρ φ (rowF p n v) = some (rowF p n v) := fun ρ φ => rs_ok _ iF.ret
  have rsV : ∀ (ρ : Nat → Option Fz.D) (φ : Bool), Fz.rs ρ φ v = some v := fun ρ φ => rs_ok _ hv.ret
  have iS : Ie 500060 1 (.str (pd (.lst [v])).shown) := (Ie.shown (m := 1) i1).mono (by omega) (Nat.le_refl _)
  have i3 : Ie (500060 + 150) 2 (.lst [rowF p n v, rowF p n v, .str (pd (.lst [v])).shown]) := by
    refine ⟨⟨by decide, iF.pe, iF.pe, iS.pe, trivial⟩, okRets_all fun d hd => ?_, ?_⟩
    · simp at hd
      rcases hd with rfl | rfl
      · exact iF.ret
      · exact iS.ret
    · show szB 40 (rowF p n v) + 2 + (szB 40 (rowF p n v) + 2 + (szB 40 (.str (pd (.lst [v])).shown) + 2 + 0)) + 3 ≤ _
      have := iF.sz
      have := iS.sz
      omega
  have r3 := fun {w : Wd} => i3.repr (md := 0) (w := w) (by decide) (by decide)
  generalize (pd (.lst [v])).shown = S at *
  generalize rowF p n v = R at *
  have nl3 : ∀ w, newL 0 [R, R, .str S] w = .ok (.lst [R, R, .str S], w) := fun w => nlS (show 3 ≤ 1000 by decide)
  have s1 : exS ⟨F 19, C⟩ (.set (.tu [.nm 16, .nm 17]) (.tup (.cons (.bi .repr 0 (.cons (.lst 0 (.cons (.v 14) .nil)) .nil)) (.cons (.call 17 none (.cons (.v 3) (.cons (.v 4) (.cons (.v 14) .nil))) .nil) .nil)))) ⟨[some (.sc (sc.map Fz.D.int)), some (.g 1), some x2, some (.int p), some (.int n), a5, a6, a7, a8, a9, a10, none, a12, none, some v, none, none, none, none], [], g⟩ =
      .ok (.nx, ⟨[some (.sc (sc.map Fz.D.int)), some (.g 1), some x2, some (.int p), some (.int n), a5, a6, a7, a8, a9, a10, none, a12, none, some v, none, some (.str S), some R, none], [], g⟩) := by
    simp [nl1, r1, e17, rsV, arrD]
  have s2 : exS ⟨F 19, C⟩ (.set (.nm 18) (.lst 0 (.cons (.call 1 none (.cons (.v 3) (.cons (.v 4) (.cons (.v 14) .nil))) .nil) (.cons (.call 1 (some [2, 1, 0]) .nil (.cons (.v 14) (.cons (.v 4) (.cons (.v 3) .nil)))) (.cons (.bi .repr 0 (.cons (.lst 0 (.cons (.v 14) .nil)) .nil)) .nil))))) ⟨[some (.sc (sc.map Fz.D.int)), some (.g 1), some x2, some (.int p), some (.int n), a5, a6, a7, a8, a9, a10, none, a12, none, some v, none, some (.str S), some R, none], [], g⟩ =
      .ok (.nx, ⟨[some (.sc (sc.map Fz.D.int)), some (.g 1), some x2, some (.int p), some (.int n), a5, a6, a7, a8, a9, a10, none, a12, none, some v, none, some (.str S), some R, some (.lst [R, R, .str S])], [], g⟩) := by
    simp [nl1, r1, e1, rsV, arrD, nl3]
  have s3 : exS ⟨F 19, C⟩ (.ite (.cm .ne (.bi .repr 0 (.cons (.v 18) .nil)) (.bi .repr 0 (.cons (.lst 0 (.cons (.v 17) (.cons (.v 17) (.cons (.v 16) .nil)))) .nil))) [ .ret (.k (.bl false))] []) ⟨[some (.sc (sc.map Fz.D.int)), some (.g 1), some x2, some (.int p), some (.int n), a5, a6, a7, a8, a9, a10, none, a12, none, some v, none, some (.str S), some R, some (.lst [R, R, .str S])], [], g⟩ =
      .ok (.nx, ⟨[some (.sc (sc.map Fz.D.int)), some (.g 1), some x2, some (.int p), some (.int n), a5, a6, a7, a8, a9, a10, none, a12, none, some v, none, some (.str S), some R, some (.lst [R, R, .str S])], [], g⟩) := by
    simp [nl3, r3]
  unfold b19_0
  rw [exB_step s1, exB_step s2, exB_step s3]
  rfl
/-- one row's point asked -/
theorem own_ok {sc : List Int} {x2 : Fz.D} {p : Int} (hp : Pp p) {n : Nat} (h1 : 1 ≤ n) (hn : n ≤ 6) {v : Vc} (hv : Red p n v) {g : List (List Fz.D)} {a5 a6 a7 a8 a9 a10 a12 a17 : Option Fz.D} :
    ∃ d, exB ⟨F 19, C⟩ b19_1 ⟨[some (.sc (sc.map Fz.D.int)), some (.g 1), some x2, some (.int p), some (.int n), a5, a6, a7, a8, a9, a10, none, a12, some (rw_ n v), none, none, none, a17, none], [], g⟩ =
      .ok (.nx, ⟨[some (.sc (sc.map Fz.D.int)), some (.g 1), some x2, some (.int p), some (.int n), a5, a6, a7, a8, a9, a10, none, a12, some (rw_ n v), none, none, none, some d, none], [], g⟩) := by
  have lo := hp.lo
  have hi := hp.hi
  have ne : (List.range n).map v ≠ [] := fun e => by
    have := congrArg List.length e
    rw [List.length_map, List.length_range] at this
    simp at this
    omega
  have mx : ∀ w : Wd, biF .max 0 [rw_ n v] w = .ok (.int (maxL ((List.range n).map v)), w) := fun w => by
    rw [bq_max, rw_seq, Option.bind_some, intD_rl, R.of_some, R.bd_ok]
    have : ((List.range n).map v).isEmpty = false := by simpa using ne
    rw [this]
    rfl
  have s1 : exS ⟨F 19, C⟩ (.set (.nm 17) (.lst 0 (.cons (.k (.str "unfit")) (.cons (.k (.bl true)) .nil)))) ⟨[some (.sc (sc.map Fz.D.int)), some (.g 1), some x2, some (.int p), some (.int n), a5, a6, a7, a8, a9, a10, none, a12, some (rw_ n v), none, none, none, a17, none], [], g⟩ =
      .ok (.nx, ⟨[some (.sc (sc.map Fz.D.int)), some (.g 1), some x2, some (.int p), some (.int n), a5, a6, a7, a8, a9, a10, none, a12, some (rw_ n v), none, none, none, some UU, none], [], g⟩) := by
    simp [nl2']
    rfl
  have fin : ∀ (d : Fz.D), Ie 300 1 d → (∀ b, F 19 18 [.int p, rw_ n v, .bl b] g = .ok (d, g)) → exS ⟨F 19, C⟩ (.ite (.cm .ne (.bi .repr 0 (.cons (.lst 0 (.cons (.call 18 none (.cons (.v 3) (.cons (.v 13) (.cons (.k (.bl false)) .nil))) .nil) (.cons (.call 18 none (.cons (.v 3) (.cons (.v 13) (.cons (.k (.bl true)) .nil))) .nil) .nil))) .nil)) (.bi .repr 0 (.cons (.lst 0 (.cons (.v 17) (.cons (.v 17) .nil))) .nil))) [ .ret (.k (.bl false))] []) ⟨[some (.sc (sc.map Fz.D.int)), some (.g 1), some x2, some (.int p), some (.int n), a5, a6, a7, a8, a9, a10, none, a12, some (rw_ n v), none, none, none, some d, none], [], g⟩ =
      .ok (.nx, ⟨[some (.sc (sc.map Fz.D.int)), some (.g 1), some x2, some (.int p), some (.int n), a5, a6, a7, a8, a9, a10, none, a12, some (rw_ n v), none, none, none, some d, none], [], g⟩) := by
    intro d hd e
    have i2 : Ie 700 2 (.lst [d, d]) := (Ie.lst (c := 300) (k := 1) (L := 2) (fun x hx => by
      simp at hx
      rw [hx]
      exact hd) (by simp)).mono (by decide) (by decide)
    have r2 := fun {w : Wd} => i2.repr (md := 0) (w := w) (by decide) (by decide)
    simp [e, arrD, nl2', r2]
  cases hk : hdN n v with
  | none =>
    have z : ¬ 0 < maxL ((List.range n).map v) := fun z => by
      obtain ⟨k, e⟩ := (max_hd h1 hv).mp z
      rw [hk] at e
      cases e
    refine ⟨UU, ?_⟩
    have s2 : ∀ X, exS ⟨F 19, C⟩ (.ite (.cm .gt (.bi .max 0 (.cons (.v 13) .nil)) (.k (.int 0))) X []) ⟨[some (.sc (sc.map Fz.D.int)), some (.g 1), some x2, some (.int p), some (.int n), a5, a6, a7, a8, a9, a10, none, a12, some (rw_ n v), none, none, none, some UU, none], [], g⟩ =
      .ok (.nx, ⟨[some (.sc (sc.map Fz.D.int)), some (.g 1), some x2, some (.int p), some (.int n), a5, a6, a7, a8, a9, a10, none, a12, some (rw_ n v), none, none, none, some UU, none], [], g⟩) := fun X => by
      rw [exS_ite]
      have t : evT ⟨F 19, C⟩ (.cm .gt (.bi .max 0 (.cons (.v 13) .nil)) (.k (.int 0))) ⟨[some (.sc (sc.map Fz.D.int)), some (.g 1), some x2, some (.int p), some (.int n), a5, a6, a7, a8, a9, a10, none, a12, some (rw_ n v), none, none, none, some UU, none], [], g⟩ = .ok (false, ⟨[some (.sc (sc.map Fz.D.int)), some (.g 1), some x2, some (.int p), some (.int n), a5, a6, a7, a8, a9, a10, none, a12, some (rw_ n v), none, none, none, some UU, none], [], g⟩) := by simp [mx, z, -bq_max]
      rw [t]
      simp
    have iU : Ie 300 1 UU := ⟨⟨by decide, show PyData.strOk _ = true by decide +kernel, trivial, trivial⟩, rfl, by show (reprText "unfit").length + 2 + (5 + 2 + 0) + 3 ≤ 300; decide +kernel⟩
    have s3 := fin UU iU fun b => told_x (m := 19) (by decide) (p := p) (by omega) hk b g
    unfold b19_1
    rw [exB_step s1, exB_step (s2 _), exB_step s3]
    rfl
  | some k =>
    have z : 0 < maxL ((List.range n).map v) := (max_hd h1 hv).mpr ⟨k, hk⟩
    obtain ⟨k1, _, _⟩ := hdN_some.mp hk
    obtain ⟨c, hc, e6, e13⟩ := point_ok hp (n := n) (by omega) hv hk
    have e14 := headL_ok (m := 19) (by decide) (n := n) (by omega) hk g
    have e13 := e13 19 g (by decide)
    have e16 := lsum_ok (m := 19) (by decide) (p := p) (by omega) (n := n) (by omega) (t := c) (by omega) (fun _ => 0) v g
    have eq : (fun j => (0 + c * v j) % p) = scl p c v := by funext j; rw [Int.zero_add]; rfl
    rw [eq] at e16
    have zz := fun {w : Wd} => zeros (md := 0) (n := n) h1 (by omega) (w := w)
    have gk : (rl n v)[k]? = some (.int (v k)) := rl_get k1
    have s2 : exS ⟨F 19, C⟩ (.ite (.cm .gt (.bi .max 0 (.cons (.v 13) .nil)) (.k (.int 0))) [
    .set (.nm 17) (.call 16 none (.cons (.v 3) (.cons (.op .mul 0 (.tup (.cons (.k (.int 0)) .nil)) (.v 4)) (.cons (.v 13) (.cons (.call 13 none (.cons (.ix (.v 13) (.call 14 none (.cons (.v 13) .nil) .nil)) (.cons (.op .sub 0 (.v 3) (.k (.int 2))) (.cons (.v 3) .nil))) .nil) .nil)))) .nil)] []) ⟨[some (.sc (sc.map Fz.D.int)), some (.g 1), some x2, some (.int p), some (.int n), a5, a6, a7, a8, a9, a10, none, a12, some (rw_ n v), none, none, none, some UU, none], [], g⟩ =
      .ok (.nx, ⟨[some (.sc (sc.map Fz.D.int)), some (.g 1), some x2, some (.int p), some (.int n), a5, a6, a7, a8, a9, a10, none, a12, some (rw_ n v), none, none, none, some (rw_ n (scl p c v)), none], [], g⟩) := by
      rw [exS_ite]
      have t : evT ⟨F 19, C⟩ (.cm .gt (.bi .max 0 (.cons (.v 13) .nil)) (.k (.int 0))) ⟨[some (.sc (sc.map Fz.D.int)), some (.g 1), some x2, some (.int p), some (.int n), a5, a6, a7, a8, a9, a10, none, a12, some (rw_ n v), none, none, none, some UU, none], [], g⟩ = .ok (true, ⟨[some (.sc (sc.map Fz.D.int)), some (.g 1), some x2, some (.int p), some (.int n), a5, a6, a7, a8, a9, a10, none, a12, some (rw_ n v), none, none, none, some UU, none], [], g⟩) := by simp [mx, z, -bq_max]
      rw [t]
      simp [e14, ix_nat k1, gk, e13, zz, e16, arrD]
    have rs1 : Red p n (scl p c v) := fun j _ => ⟨Int.emod_nonneg _ (by omega), Int.emod_lt_of_pos _ (by omega)⟩
    have iR : Ie 300 1 (rw_ n (scl p c v)) := (Iv.tup (c := 41) (k := 0) (L := 6) (ds := rl n (scl p c v)) (fun d hd => by
      obtain ⟨i, hi2, rfl⟩ := List.mem_map.mp hd
      have := rs1 i (List.mem_range.mp hi2)
      exact Iv.int (by omega)) (by rw [rl_len]; exact hn)).ie.mono (by decide) (by decide)
    have s3 := fin _ iR fun b => told_ok (m := 19) (by decide) (e6 18 g (by decide)) b
    refine ⟨rw_ n (scl p c v), ?_⟩
    unfold b19_1
    rw [exB_step s1, exB_step s2, exB_step s3]
    rfl
end K01

namespace K01
open PySem Fz Rw
open LA (Vc Red clr scl redF Gd)

theorem turn {sc : List Int} {x2 : Fz.D} {g : List (List Fz.D)} (hg : Pot g) : ∃ (σ : List (Option Fz.D)) (g' : List (List Fz.D)), Pot g' ∧ exB ⟨F 19, C⟩ b19_2 ⟨[some (.sc (sc.map Fz.D.int)), some (.g 1), some x2, none, none, none, none, none, none, none, none, none, none, none, none, none, none, none, none], [], g⟩ = .ok (.nx, ⟨σ, [], g'⟩) ∧ wipeD σ [2, 3, 4, 5, 6, 7, 8, 9, 10, 12, 13, 14, 16, 17, 18] = [some (.sc (sc.map Fz.D.int)), some (.g 1), none, none, none, none, none, none, none, none, none, none, none, none, none, none, none, none, none] := by
  obtain ⟨pd0, g1, e1, p1, hpd⟩ := one19 (n := 19) (by decide) hg [.int 2, .int 3, .int 5, .int 7] (by decide) (by decide) rfl
  obtain ⟨p, rfl, hp⟩ : ∃ p : Int, pd0 = .int p ∧ Pp p := by
    simp only [List.mem_cons, List.not_mem_nil, or_false] at hpd
    rcases hpd with rfl | rfl | rfl | rfl
    · exact ⟨2, rfl, .inl rfl⟩
    · exact ⟨3, rfl, .inr (.inl rfl)⟩
    · exact ⟨5, rfl, .inr (.inr (.inl rfl))⟩
    · exact ⟨7, rfl, .inr (.inr (.inr rfl))⟩
  obtain ⟨r0, g2, e2, p2, b2⟩ := of18 (n := 19) (by decide) p1 (m := 6) (by decide) (by decide)
  obtain ⟨n, hn'⟩ : ∃ n : Nat, n = 1 + r0 := ⟨_, rfl⟩
  have hn : n ≤ 6 := by omega
  have h1 : 1 ≤ n := by omega
  have lo := hp.lo
  have hi := hp.hi
  obtain ⟨f, g3, e3, p3, hf⟩ := row26 (m := 19) (by decide) p2 hp (n := n) (by omega)
  obtain ⟨f2, g4, e4, p4, hf2⟩ := row26 (m := 19) (by decide) p3 hp (n := n) (by omega)
  obtain ⟨r, g5, e5, p5, b5⟩ := of18 (n := 19) (by decide) p4 (m := p) (by omega) (by omega)

  have s0 : exS ⟨F 19, C⟩ (.set (.tu [.nm 3, .nm 4]) (.tup (.cons (.call 9 none (.cons (.v 1) (.cons (.lst 0 (.cons (.k (.int 2)) (.cons (.k (.int 3)) (.cons (.k (.int 5)) (.cons (.k (.int 7)) .nil))))) .nil)) .nil) (.cons (.op .add 0 (.k (.int 1)) (.call 8 none (.cons (.v 1) (.cons (.k (.int 6)) .nil)) .nil)) .nil)))) ⟨[some (.sc (sc.map Fz.D.int)), some (.g 1), some x2, none, none, none, none, none, none, none, none, none, none, none, none, none, none, none, none], [], g⟩ = .ok (.nx, ⟨[some (.sc (sc.map Fz.D.int)), some (.g 1), some x2, some (.int p), some (.int n), none, none, none, none, none, none, none, none, none, none, none, none, none, none], [], g2⟩) := by
    have : (1 : Int) + r0 = n := by omega
    simp [nl4, e1, e2, this, arrD]
  have s1 : exS ⟨F 19, C⟩ (.set (.tu [.nm 5, .nm 6, .nm 7]) (.tup (.cons (.call 15 none (.cons (.v 1) (.cons (.v 3) (.cons (.v 4) .nil))) .nil) (.cons (.call 15 none (.cons (.v 1) (.cons (.v 3) (.cons (.v 4) .nil))) .nil) (.cons (.call 8 none (.cons (.v 1) (.cons (.v 3) .nil)) .nil) .nil))))) ⟨[some (.sc (sc.map Fz.D.int)), some (.g 1), some x2, some (.int p), some (.int n), none, none, none, none, none, none, none, none, none, none, none, none, none, none], [], g2⟩ = .ok (.nx, ⟨[some (.sc (sc.map Fz.D.int)), some (.g 1), some x2, some (.int p), some (.int n), some (rw_ n f), some (rw_ n f2), some (.int r), none, none, none, none, none, none, none, none, none, none, none], [], g5⟩) := by
    simp [e3, e4, e5, arrD]
  have iF : ∀ {f : Vc}, Red p n f → Iv 261 1 (rw_ n f) := fun {f} hf => (Iv.tup (c := 41) (k := 0) (L := 6) (ds := rl n f) (fun d hd => by
      obtain ⟨i, hi2, rfl⟩ := List.mem_map.mp hd
      have := hf i (List.mem_range.mp hi2)
      exact Iv.int (by omega)) (by rw [rl_len]; exact hn)).mono (by decide) (by decide)
  have nl2 : ∀ {a b : Fz.D} {w : Wd}, newL 0 [a, b] w = .ok (.lst [a, b], w) := fun {a b w} => nlS (show 2 ≤ 1000 by decide)
  have i2 : ∀ {f h : Vc}, Red p n f → Red p n h → Ie 600 2 (.lst [rw_ n f, rw_ n h]) := fun {f h} hf hh => (Iv.lst (c := 261) (k := 1) (L := 2) (fun d hd => by
      rcases List.mem_cons.mp hd with rfl | hd
      · exact iF hf
      · rw [List.mem_singleton.mp hd]
        exact iF hh) (by simp)).ie.mono (by decide) (by decide)
  have rr2 : ∀ {f h : Vc} {w : Wd}, Red p n f → Red p n h → biF .repr 0 [.lst [rw_ n f, rw_ n h]] w = .ok (.str (pd (.lst [rw_ n f, rw_ n h])).shown, w) := fun {f h w} hf hh => (i2 hf hh).repr (by decide) (by decide)
  have rr := fun {w : Wd} => rr2 (w := w) hf hf2
  have s2 : exS ⟨F 19, C⟩ (.set (.nm 8) (.bi .repr 0 (.cons (.lst 0 (.cons (.v 5) (.cons (.v 6) .nil))) .nil))) ⟨[some (.sc (sc.map Fz.D.int)), some (.g 1), some x2, some (.int p), some (.int n), some (rw_ n f), some (rw_ n f2), some (.int r), none, none, none, none, none, none, none, none, none, none, none], [], g5⟩ = .ok (.nx, ⟨[some (.sc (sc.map Fz.D.int)), some (.g 1), some x2, some (.int p), some (.int n), some (rw_ n f), some (rw_ n f2), some (.int r), some (.str (pd (.lst [rw_ n f, rw_ n f2])).shown), none, none, none, none, none, none, none, none, none, none], [], g5⟩) := by
    simp [nl2, rr]
  generalize hos : ([.int 0, .int 1, .int (p - 1), .int p, .int (-1), .bl true, .bl false, .non, .str "1", .tup [.int 1], .int 1000000000000000000000000000000] : List Fz.D) = os
  have ito : ∀ d ∈ os, Iv 60 1 d := by
    rw [← hos]
    have t1 : Iv 60 1 (.tup [.int 1]) := (Iv.tup (c := 41) (k := 0) (L := 1) (mm_cons (Iv.int (by omega)) mm_nil) (by decide)).mono (by decide) (by decide)
    have ii : ∀ {i : Int}, -10 ^ 40 < i ∧ i < 10 ^ 40 → Iv 60 1 (.int i) := fun h => (Iv.int (k := 1) h).mono (by decide) (Nat.le_refl _)
    exact mm_cons (ii (by omega)) (mm_cons (ii (by omega)) (mm_cons (ii (by omega)) (mm_cons (ii (by omega)) (mm_cons (ii (by omega)) (mm_cons (Iv.bl.mono (by decide) (Nat.le_refl _)) (mm_cons (Iv.bl.mono (by decide) (Nat.le_refl _)) (mm_cons (Iv.non.mono (by decide) (Nat.le_refl _)) (mm_cons (Iv.str1.mono (by decide) (Nat.le_refl _)) (mm_cons t1 (mm_cons (ii (by decide)) mm_nil))))))))))
  have lo11 : os.length = 11 := by rw [← hos]; rfl
  have ro : okRets os = true := Iv.rets ito
  have qo : ∀ ρ φ, rsL ρ φ os = some os := fun ρ φ => rsL_ok os ro
  have pw : ∀ w, opF .pow 0 (.int 10) (.int 30) w = .ok (.int 1000000000000000000000000000000, w) := fun w => rfl
  have nl11 : ∀ w, newL 0 [.int 0, .int 1, .int (p - 1), .int p, .int (-1), .bl true, .bl false, .non, .str "1", .tup [.int 1], .int 1000000000000000000000000000000] w = .ok (.lst [.int 0, .int 1, .int (p - 1), .int p, .int (-1), .bl true, .bl false, .non, .str "1", .tup [.int 1], .int 1000000000000000000000000000000], w) := fun w => nlS (show 11 ≤ 1000 by decide)
  have itr : ∀ d ∈ rl n f, Iv 60 1 d := fun d hd => by
    obtain ⟨i, hi2, rfl⟩ := List.mem_map.mp hd
    have := hf i (List.mem_range.mp hi2)
    exact (Iv.int (k := 1) (by omega)).mono (by decide) (Nat.le_refl _)
  have s3 : exS ⟨F 19, C⟩ (.set (.nm 9) (.lst 0 (.cons (.k (.int 0)) (.cons (.k (.int 1)) (.cons (.op .sub 0 (.v 3) (.k (.int 1))) (.cons (.v 3) (.cons (.neg (.k (.int 1))) (.cons (.k (.bl true)) (.cons (.k (.bl false)) (.cons (.k .non) (.cons (.k (.str "1")) (.cons (.tup (.cons (.k (.int 1)) .nil)) (.cons (.op .pow 0 (.k (.int 10)) (.k (.int 30))) .nil))))))))))))) ⟨[some (.sc (sc.map Fz.D.int)), some (.g 1), some x2, some (.int p), some (.int n), some (rw_ n f), some (rw_ n f2), some (.int r), some (.str (pd (.lst [rw_ n f, rw_ n f2])).shown), none, none, none, none, none, none, none, none, none, none], [], g5⟩ = .ok (.nx, ⟨[some (.sc (sc.map Fz.D.int)), some (.g 1), some x2, some (.int p), some (.int n), some (rw_ n f), some (rw_ n f2), some (.int r), some (.str (pd (.lst [rw_ n f, rw_ n f2])).shown), some (.lst os), none, none, none, none, none, none, none, none, none], [], g5⟩) := by
    rw [← hos]
    simp [pw, nl11]
  obtain ⟨bs, g6, lb, qb, p6, eb⟩ := coL_draw (P := ⟨F 19, C⟩) (e := e19_0) (t := 11) (ok := fun _ => true) (own := [11]) (σ := [some (.sc (sc.map Fz.D.int)), some (.g 1), some x2, some (.int p), some (.int n), some (rw_ n f), some (rw_ n f2), some (.int r), some (.str (pd (.lst [rw_ n f, rw_ n f2])).shown), some (.lst os), none, none, none, none, none, none, none, none, none]) (m := []) (Tv 7 375 2) Pot (fun _ => rfl) ((List.range 5).map fun j : Nat => .int j) [] g5 p5 (fun _ h => nomatch h) (by decide) (fun x hx g hg => by
      obtain ⟨y, g', e, p', hy⟩ := bend (m := 19) (by decide) (L := 6) (c := 60) (k := 1) itr ito (by decide) (by rw [rl_len]; exact hn) (by decide) (by decide) (by omega) (by omega) hg
      have e : F 19 12 [.g 1, rw_ n f, .lst os] g = .ok (y, g') := e
      refine ⟨y, ([some (.sc (sc.map Fz.D.int)), some (.g 1), some x2, some (.int p), some (.int n), some (rw_ n f), some (rw_ n f2), some (.int r), some (.str (pd (.lst [rw_ n f, rw_ n f2])).shown), some (.lst os), none, some (x), none, none, none, none, none, none, none] : List (Option Fz.D)), g', ?_, p', hy⟩
      show evE ⟨F 19, C⟩ e19_0 ⟨[some (.sc (sc.map Fz.D.int)), some (.g 1), some x2, some (.int p), some (.int n), some (rw_ n f), some (rw_ n f2), some (.int r), some (.str (pd (.lst [rw_ n f, rw_ n f2])).shown), some (.lst os), none, some (x), none, none, none, none, none, none, none], [], g⟩ = _
      simp [e19_0, e, qo, arrD])
  have lb : bs.length = 5 := lb
  have rb : okRets bs = true := okRets_all fun d hd => (qb d hd).ie.ret
  have r5 : rngF [.int 5] = some ((List.range 5).map fun t : Nat => Fz.D.int t) := rng_n (n := 5) (by decide)
  have nlb : ∀ w, newL 0 bs w = .ok (.lst bs, w) := fun w => nlS (by omega)
  have s4 : exS ⟨F 19, C⟩ (.set (.nm 10) (.co 0 (.nm 11) (.rng (.cons (.k (.int 5)) .nil)) .no e19_0 [11])) ⟨[some (.sc (sc.map Fz.D.int)), some (.g 1), some x2, some (.int p), some (.int n), some (rw_ n f), some (rw_ n f2), some (.int r), some (.str (pd (.lst [rw_ n f, rw_ n f2])).shown), some (.lst os), none, none, none, none, none, none, none, none, none], [], g5⟩ = .ok (.nx, ⟨[some (.sc (sc.map Fz.D.int)), some (.g 1), some x2, some (.int p), some (.int n), some (rw_ n f), some (rw_ n f2), some (.int r), some (.str (pd (.lst [rw_ n f, rw_ n f2])).shown), some (.lst os), some (.lst bs), none, none, none, none, none, none, none, none], [], g6⟩) := by
    simp only [exS_set, evE_co, evI_rng, evEs_cons, evEs_nil, evE_k, R.bd_ok, r5, R.of_some]
    have e' : coL (asg (.nm 11)) (evC ⟨F 19, C⟩ .no) (evE ⟨F 19, C⟩ e19_0) (fun _ => true) [11] [some (.sc (sc.map Fz.D.int)), some (.g 1), some x2, some (.int p), some (.int n), some (rw_ n f), some (rw_ n f2), some (.int r), some (.str (pd (.lst [rw_ n f, rw_ n f2])).shown), some (.lst os), none, none, none, none, none, none, none, none, none] ((List.range 5).map fun t : Nat => Fz.D.int t) ⟨[some (.sc (sc.map Fz.D.int)), some (.g 1), some x2, some (.int p), some (.int n), some (rw_ n f), some (rw_ n f2), some (.int r), some (.str (pd (.lst [rw_ n f, rw_ n f2])).shown), some (.lst os), none, none, none, none, none, none, none, none, none], [], g5⟩ [] = _ := eb
    rw [e']
    simp [nlb]
  generalize hV1 : ([rw_ n f, .lst (rl n f), .tup (rl n f ++ [.int 0]), .tup ((rl n f).drop 1), .non, .tup [], .int 0, .tup (List.replicate n .non), .tup (List.replicate n (.int p)), .lst [rw_ n f], .tup [rw_ n f]] : List Fz.D) = V1
  have iV1 : ∀ d ∈ V1, Tv 14 375 2 d := by
    rw [← hV1]
    have t : ∀ {es : List Fz.D}, es.length ≤ 14 → (∀ e ∈ es, Iv 375 2 e) → Tv 14 375 2 (.tup es) := fun h h2 => .inl ⟨_, .inl rfl, h, h2⟩
    have l : ∀ {es : List Fz.D}, es.length ≤ 14 → (∀ e ∈ es, Iv 375 2 e) → Tv 14 375 2 (.lst es) := fun h h2 => .inl ⟨_, .inr rfl, h, h2⟩
    have ir : ∀ d ∈ rl n f, Iv 375 2 d := fun d hd => (itr d hd).mono (by decide) (by decide)
    have i0 : Iv 375 2 (.int 0) := (Iv.int (k := 0) (by omega)).mono (by decide) (by decide)
    refine mm_cons (t (by rw [rl_len]; omega) ir) (mm_cons (l (by rw [rl_len]; omega) ir) (mm_cons (t (by rw [List.length_append, rl_len, List.length_singleton]; omega) (mm_app ir (mm_cons i0 mm_nil))) (mm_cons (t (by rw [List.length_drop, rl_len]; omega) fun d hd => ir d (List.mem_of_mem_drop hd)) (mm_cons (.inr (.inl rfl)) (mm_cons (t (Nat.zero_le _) mm_nil) (mm_cons (.inr (.inr (.inl rfl))) (mm_cons (t (by rw [List.length_replicate]; omega) fun d hd => ?_) (mm_cons (t (by rw [List.length_replicate]; omega) fun d hd => ?_) (mm_cons (l (by simp) (mm_cons ((iF hf).mono (by decide) (by decide)) mm_nil)) (mm_cons (t (by simp) (mm_cons ((iF hf).mono (by decide) (by decide)) mm_nil)) mm_nil))))))))))
    · rw [List.eq_of_mem_replicate hd]
      exact (Iv.non (k := 0)).mono (by decide) (by decide)
    · rw [List.eq_of_mem_replicate hd]
      exact (Iv.int (k := 0) (by omega)).mono (by decide) (by decide)
  have lV1 : V1.length = 11 := by rw [← hV1]; rfl
  generalize hvs : V1 ++ bs = vs
  have ivs : ∀ d ∈ vs, Tv 14 375 2 d := by
    rw [← hvs]
    exact mm_app iV1 fun d hd => (qb d hd).mono (by decide) (Nat.le_refl _) (Nat.le_refl _)
  have lvs : vs.length = 16 := by rw [← hvs, List.length_append, lV1, lb]
  have nT1 : ∀ w, newT (rl n f ++ [.int 0]) w = .ok (.tup (rl n f ++ [.int 0]), w) := fun w => ntS (by rw [List.length_append, rl_len, List.length_singleton]; omega)
  have ad : ∀ w, opF .add 0 (rw_ n f) (.tup [.int 0]) w = .ok (.tup (rl n f ++ [.int 0]), w) := fun w => nT1 w
  have nT2 : ∀ w, newT ((rl n f).drop 1) w = .ok (.tup ((rl n f).drop 1), w) := fun w => ntS (by rw [List.length_drop, rl_len]; omega)
  have nL1 : ∀ w, newL 0 (rl n f) w = .ok (.lst (rl n f), w) := fun w => nlS (by rw [rl_len]; omega)
  have nL2 : ∀ w, newL 0 [rw_ n f] w = .ok (.lst [rw_ n f], w) := fun w => nlS (show 1 ≤ 1000 by decide)
  have cu1 : cut (rl n f) (some 1) none = (rl n f).drop 1 := cut_from (k := 1)
  have nL11 : ∀ w, newL 0 [rw_ n f, .lst (rl n f), .tup (rl n f ++ [.int 0]), .tup ((rl n f).drop 1), .non, .tup [], .int 0, .tup (List.replicate n .non), .tup (List.replicate n (.int p)), .lst [rw_ n f], .tup [rw_ n f]] w = .ok (.lst V1, w) := fun w => by rw [hV1]; exact nlS (by omega)
  have nlv : ∀ w, newL 0 (V1 ++ bs) w = .ok (.lst (V1 ++ bs), w) := fun w => by rw [hvs]; exact nlS (by omega)
  have s5 : exS ⟨F 19, C⟩ (.set (.nm 12) (.op .add 0 (.lst 0 (.cons (.v 5) (.cons (.bi .list 0 (.cons (.v 5) .nil)) (.cons (.op .add 0 (.v 5) (.tup (.cons (.k (.int 0)) .nil))) (.cons (.sl 0 (.v 5) (.so (.k (.int 1))) .no) (.cons (.k .non) (.cons (.tup .nil) (.cons (.k (.int 0)) (.cons (.op .mul 0 (.tup (.cons (.k .non) .nil)) (.v 4)) (.cons (.op .mul 0 (.tup (.cons (.v 3) .nil)) (.v 4)) (.cons (.lst 0 (.cons (.v 5) .nil)) (.cons (.tup (.cons (.v 5) .nil)) .nil)))))))))))) (.v 10))) ⟨[some (.sc (sc.map Fz.D.int)), some (.g 1), some x2, some (.int p), some (.int n), some (rw_ n f), some (rw_ n f2), some (.int r), some (.str (pd (.lst [rw_ n f, rw_ n f2])).shown), some (.lst os), some (.lst bs), none, none, none, none, none, none, none, none], [], g6⟩ = .ok (.nx, ⟨[some (.sc (sc.map Fz.D.int)), some (.g 1), some x2, some (.int p), some (.int n), some (rw_ n f), some (rw_ n f2), some (.int r), some (.str (pd (.lst [rw_ n f, rw_ n f2])).shown), some (.lst os), some (.lst bs), none, some (.lst vs), none, none, none, none, none, none], [], g6⟩) := by
    rw [← hvs]
    simp [-List.drop_one, ad, nT1, nT2, nL1, nL2, nL11, cu1, zerosG (md := 0) h1 (show n ≤ 1000 by omega), nlv, addL]
  obtain ⟨cs, g7, lc, qc, p7, ec⟩ := coL_drawIf (bind := asg (.nm 13)) (test := evC ⟨F 19, C⟩ c19_1) (elt := evE ⟨F 19, C⟩ e19_1) (ok := fun _ => true) (own := [13]) (σ := [some (.sc (sc.map Fz.D.int)), some (.g 1), some x2, some (.int p), some (.int n), some (rw_ n f), some (rw_ n f2), some (.int r), some (.str (pd (.lst [rw_ n f, rw_ n f2])).shown), some (.lst os), some (.lst bs), none, some (.lst vs), none, none, none, none, none, none]) (m := []) (Tv 14 2642 3) Pot (fun _ => rfl) bs [] g6 p6 (fun _ h => nomatch h) (by simp; rw [lb]; decide) (fun x hx g hg => by
      refine ⟨⟨[some (.sc (sc.map Fz.D.int)), some (.g 1), some x2, some (.int p), some (.int n), some (rw_ n f), some (rw_ n f2), some (.int r), some (.str (pd (.lst [rw_ n f, rw_ n f2])).shown), some (.lst os), some (.lst bs), none, some (.lst vs), some (x), none, none, none, none, none], [], g⟩, rfl, ?_⟩
      have tx := fun w => ty_tup (w := w) (qb x hx).ie.pe (qb x hx).ie.ret
      have rx : ∀ (ρ : Nat → Option Fz.D) (φ : Bool), Fz.rs ρ φ x = some x := fun ρ φ => rs_ok x (qb x hx).ie.ret
      cases q : isT x with
      | false =>
        exact .inl ⟨[some (.sc (sc.map Fz.D.int)), some (.g 1), some x2, some (.int p), some (.int n), some (rw_ n f), some (rw_ n f2), some (.int r), some (.str (pd (.lst [rw_ n f, rw_ n f2])).shown), some (.lst os), some (.lst bs), none, some (.lst vs), some (x), none, none, none, none, none], g, by simp [c19_1, tx, q], hg⟩
      | true =>
        obtain ⟨es, rfl, hle, hm⟩ : ∃ es, x = .tup es ∧ es.length ≤ 7 ∧ ∀ e ∈ es, Iv 375 2 e := by
          rcases qb x hx with ⟨es, e, hl, hm⟩ | rfl | rfl | rfl | rfl
          · rcases e with rfl | rfl
            · exact ⟨es, rfl, hl, hm⟩
            · cases q
          · cases q
          · cases q
          · cases q
          · cases q
        obtain ⟨y, g', e, p', hy⟩ := bend (m := 19) (by decide) (L := 7) (c := 375) (k := 2) hm (fun d hd => (ito d hd).mono (by decide) (by decide)) (by decide) hle (by decide) (by decide) (by omega) (by omega) hg
        have re : ∀ (ρ : Nat → Option Fz.D) (φ : Bool), Fz.rsL ρ φ es = some es := fun ρ φ => rsL_ok es (Iv.rets hm)
        refine .inr ⟨⟨[some (.sc (sc.map Fz.D.int)), some (.g 1), some x2, some (.int p), some (.int n), some (rw_ n f), some (rw_ n f2), some (.int r), some (.str (pd (.lst [rw_ n f, rw_ n f2])).shown), some (.lst os), some (.lst bs), none, some (.lst vs), some (.tup es), none, none, none, none, none], [], g⟩, y, [some (.sc (sc.map Fz.D.int)), some (.g 1), some x2, some (.int p), some (.int n), some (rw_ n f), some (rw_ n f2), some (.int r), some (.str (pd (.lst [rw_ n f, rw_ n f2])).shown), some (.lst os), some (.lst bs), none, some (.lst vs), some (.tup es), none, none, none, none, none], g', by simp [c19_1, tx, q], ?_, p', hy.mono (by decide) (by decide) (by decide)⟩
        simp [e19_1, e, qo, re, arrD])
  have lc : cs.length ≤ 5 := by simpa [lb] using lc
  generalize hus : vs ++ cs = us
  have ius : ∀ d ∈ us, Tv 14 2642 3 d := by
    rw [← hus]
    exact mm_app (fun d hd => (ivs d hd).mono (Nat.le_refl _) (by decide) (by decide)) qc
  have lus : us.length ≤ 21 := by rw [← hus, List.length_append, lvs]; omega
  have nlc : ∀ w, newL 0 cs w = .ok (.lst cs, w) := fun w => nlS (by omega)
  have nlu : ∀ w, newL 0 (vs ++ cs) w = .ok (.lst (vs ++ cs), w) := fun w => by rw [hus]; exact nlS (by omega)
  have s6 : exS ⟨F 19, C⟩ (.set (.nm 12) (.op .add 0 (.v 12) (.co 0 (.nm 13) (.seq (.v 10)) c19_1 e19_1 [13]))) ⟨[some (.sc (sc.map Fz.D.int)), some (.g 1), some x2, some (.int p), some (.int n), some (rw_ n f), some (rw_ n f2), some (.int r), some (.str (pd (.lst [rw_ n f, rw_ n f2])).shown), some (.lst os), some (.lst bs), none, some (.lst vs), none, none, none, none, none, none], [], g6⟩ = .ok (.nx, ⟨[some (.sc (sc.map Fz.D.int)), some (.g 1), some x2, some (.int p), some (.int n), some (rw_ n f), some (rw_ n f2), some (.int r), some (.str (pd (.lst [rw_ n f, rw_ n f2])).shown), some (.lst os), some (.lst bs), none, some (.lst us), none, none, none, none, none, none], [], g7⟩) := by
    rw [← hus]
    have e' : coL (asg (.nm 13)) (evC ⟨F 19, C⟩ c19_1) (evE ⟨F 19, C⟩ e19_1) (Src.ok (srcOf (.lst bs)) bs) [13] [some (.sc (sc.map Fz.D.int)), some (.g 1), some x2, some (.int p), some (.int n), some (rw_ n f), some (rw_ n f2), some (.int r), some (.str (pd (.lst [rw_ n f, rw_ n f2])).shown), some (.lst os), some (.lst bs), none, some (.lst vs), none, none, none, none, none, none] bs ⟨[some (.sc (sc.map Fz.D.int)), some (.g 1), some x2, some (.int p), some (.int n), some (rw_ n f), some (rw_ n f2), some (.int r), some (.str (pd (.lst [rw_ n f, rw_ n f2])).shown), some (.lst os), some (.lst bs), none, some (.lst vs), none, none, none, none, none, none], [], g6⟩ [] = _ := ec
    simp only [exS_set, evE_op, evE_co, evI_seq, evE_v, List.getElem?_cons_succ, List.getElem?_cons_zero, R.bd_ok, seq_lst, R.of_some]
    rw [e']
    simp [nlc, nlu, addL]
  have r3 : rngF [.int 3] = some ((List.range 3).map fun t : Nat => Fz.D.int t) := rng_n (n := 3) (by decide)
  obtain ⟨zs, g8, lz, qz, p8, ez0⟩ := coL_draw (P := ⟨F 19, C⟩) (e := e19_2) (t := 15) (ok := fun _ => true) (own := [15]) (σ := [some (.sc (sc.map Fz.D.int)), some (.g 1), some x2, some (.int p), some (.int n), some (rw_ n f), some (rw_ n f2), some (.int r), some (.str (pd (.lst [rw_ n f, rw_ n f2])).shown), some (.lst os), some (.lst bs), none, some (.lst us), none, none, none, none, none, none]) (m := []) (Tv 14 2642 3) Pot (fun _ => rfl) ((List.range 3).map fun j : Nat => .int j) [] g7 p7 (fun _ h => nomatch h) (by decide) (fun x hx g hg => by
      obtain ⟨j, hj, rfl⟩ := List.mem_map.mp hx
      have hj := List.mem_range.mp hj
      have j1 : j < bs.length := by omega
      have j2 : j + 2 < bs.length := by omega
      have a1 : bs[j]? = some bs[j] := List.getElem?_eq_getElem j1
      have a2 : bs[j + 2]? = some bs[j + 2] := List.getElem?_eq_getElem j2
      have m1 := qb _ (List.getElem_mem j1)
      have m2 := qb _ (List.getElem_mem j2)
      have x1 : ∀ (ρ : Nat → Option Fz.D) (φ : Bool), Fz.rs ρ φ bs[j] = some bs[j] := fun ρ φ => rs_ok _ m1.ie.ret
      have x2' : ∀ (ρ : Nat → Option Fz.D) (φ : Bool), Fz.rs ρ φ bs[j + 2] = some bs[j + 2] := fun ρ φ => rs_ok _ m2.ie.ret
      have i1 : ixI bs.length (j : Int) = some j := ix_nat j1
      have i2 : ixI bs.length ((j : Int) + 2) = some (j + 2) := ix_nat j2
      obtain ⟨y, g', e, p', hy⟩ := splice (m := 19) (by decide) (by decide) m1 m2 hg
      generalize bs[j] = d1 at *
      generalize bs[j + 2] = d2 at *
      refine ⟨y, ([some (.sc (sc.map Fz.D.int)), some (.g 1), some x2, some (.int p), some (.int n), some (rw_ n f), some (rw_ n f2), some (.int r), some (.str (pd (.lst [rw_ n f, rw_ n f2])).shown), some (.lst os), some (.lst bs), none, some (.lst us), none, none, some (.int j), none, none, none] : List (Option Fz.D)), g', ?_, p', hy.mono (Nat.le_refl _) (by decide) (by decide)⟩
      show evE ⟨F 19, C⟩ e19_2 ⟨[some (.sc (sc.map Fz.D.int)), some (.g 1), some x2, some (.int p), some (.int n), some (rw_ n f), some (rw_ n f2), some (.int r), some (.str (pd (.lst [rw_ n f, rw_ n f2])).shown), some (.lst os), some (.lst bs), none, some (.lst us), none, none, some (.int j), none, none, none], [], g⟩ = _
      simp [e19_2, i1, i2, a1, a2, x1, x2', e, arrD])
  have lz : zs.length = 3 := lz
  generalize hts : us ++ zs = ts
  have its : ∀ d ∈ ts, Tv 14 2642 3 d := by
    rw [← hts]
    exact mm_app ius qz
  have lts : ts.length ≤ 24 := by rw [← hts, List.length_append]; omega
  have nlz : ∀ w, newL 0 zs w = .ok (.lst zs, w) := fun w => nlS (by omega)
  have nlt : ∀ w, newL 0 (us ++ zs) w = .ok (.lst ts, w) := fun w => by rw [hts]; exact nlS (by omega)
  have ez : evE ⟨F 19, C⟩ (.op .add 0 (.v 12) (.co 0 (.nm 15) (.rng (.cons (.k (.int 3)) .nil)) .no e19_2 [15])) ⟨[some (.sc (sc.map Fz.D.int)), some (.g 1), some x2, some (.int p), some (.int n), some (rw_ n f), some (rw_ n f2), some (.int r), some (.str (pd (.lst [rw_ n f, rw_ n f2])).shown), some (.lst os), some (.lst bs), none, some (.lst us), none, none, none, none, none, none], [], g7⟩ = .ok (.lst ts, ⟨[some (.sc (sc.map Fz.D.int)), some (.g 1), some x2, some (.int p), some (.int n), some (rw_ n f), some (rw_ n f2), some (.int r), some (.str (pd (.lst [rw_ n f, rw_ n f2])).shown), some (.lst os), some (.lst bs), none, some (.lst us), none, none, none, none, none, none], [], g8⟩) := by
    have e' : coL (asg (.nm 15)) (evC ⟨F 19, C⟩ .no) (evE ⟨F 19, C⟩ e19_2) (fun _ => true) [15] [some (.sc (sc.map Fz.D.int)), some (.g 1), some x2, some (.int p), some (.int n), some (rw_ n f), some (rw_ n f2), some (.int r), some (.str (pd (.lst [rw_ n f, rw_ n f2])).shown), some (.lst os), some (.lst bs), none, some (.lst us), none, none, none, none, none, none] ((List.range 3).map fun t : Nat => Fz.D.int t) ⟨[some (.sc (sc.map Fz.D.int)), some (.g 1), some x2, some (.int p), some (.int n), some (rw_ n f), some (rw_ n f2), some (.int r), some (.str (pd (.lst [rw_ n f, rw_ n f2])).shown), some (.lst os), some (.lst bs), none, some (.lst us), none, none, none, none, none, none], [], g7⟩ [] = _ := ez0
    simp only [evE_op, evE_v, List.getElem?_cons_succ, List.getElem?_cons_zero, R.bd_ok, R.of_some, evE_co, evI_rng, evEs_cons, evEs_nil, evE_k, r3]
    rw [e']
    simp [nlz, addL, nlt]
  have el : forL (asg (.nm 14)) (exB ⟨F 19, C⟩ b19_0) (postF [14, 16, 17, 18] false 0) (fun _ => true) ts ⟨[some (.sc (sc.map Fz.D.int)), some (.g 1), some x2, some (.int p), some (.int n), some (rw_ n f), some (rw_ n f2), some (.int r), some (.str (pd (.lst [rw_ n f, rw_ n f2])).shown), some (.lst os), some (.lst bs), none, some (.lst us), none, none, none, none, none, none], [], g8⟩ = .ok (.nx, ⟨[some (.sc (sc.map Fz.D.int)), some (.g 1), some x2, some (.int p), some (.int n), some (rw_ n f), some (rw_ n f2), some (.int r), some (.str (pd (.lst [rw_ n f, rw_ n f2])).shown), some (.lst os), some (.lst bs), none, some (.lst us), none, none, none, none, none, none], [], g8⟩) := by
    obtain ⟨w, hw, e⟩ := forL_mem (bind := asg (.nm 14)) (body := exB ⟨F 19, C⟩ b19_0) (post := postF [14, 16, 17, 18] false 0) (ok := fun _ => true) (fun w => w = ⟨[some (.sc (sc.map Fz.D.int)), some (.g 1), some x2, some (.int p), some (.int n), some (rw_ n f), some (rw_ n f2), some (.int r), some (.str (pd (.lst [rw_ n f, rw_ n f2])).shown), some (.lst os), some (.lst bs), none, some (.lst us), none, none, none, none, none, none], [], g8⟩) ts ⟨[some (.sc (sc.map Fz.D.int)), some (.g 1), some x2, some (.int p), some (.int n), some (rw_ n f), some (rw_ n f2), some (.int r), some (.str (pd (.lst [rw_ n f, rw_ n f2])).shown), some (.lst os), some (.lst bs), none, some (.lst us), none, none, none, none, none, none], [], g8⟩ (by
      rintro v hv w rest rfl
      refine ⟨_, rfl, ?_⟩
      have b := val_ok (sc := sc) (x2 := x2) hn (its v hv).ie (by decide) (by decide) (p := p) (g := g8) (a5 := some (rw_ n f)) (a6 := some (rw_ n f2)) (a7 := some (.int r)) (a8 := some (.str (pd (.lst [rw_ n f, rw_ n f2])).shown)) (a9 := some (.lst os)) (a10 := some (.lst bs)) (a12 := some (.lst us))
      rw [forL_cons]
      show (R.of (some (⟨[some (.sc (sc.map Fz.D.int)), some (.g 1), some x2, some (.int p), some (.int n), some (rw_ n f), some (rw_ n f2), some (.int r), some (.str (pd (.lst [rw_ n f, rw_ n f2])).shown), some (.lst os), some (.lst bs), none, some (.lst us), none, some (v), none, none, none, none], [], g8⟩ : Wd))).bd _ = _
      simp only [R.of_some, R.bd_ok, b, postF]
      rfl) rfl
    rw [hw] at e
    exact e
  have s7 : exS ⟨F 19, C⟩ (.for (.nm 14) (.seq (.op .add 0 (.v 12) (.co 0 (.nm 15) (.rng (.cons (.k (.int 3)) .nil)) .no e19_2 [15]))) b19_0 [14, 16, 17, 18] false) ⟨[some (.sc (sc.map Fz.D.int)), some (.g 1), some x2, some (.int p), some (.int n), some (rw_ n f), some (rw_ n f2), some (.int r), some (.str (pd (.lst [rw_ n f, rw_ n f2])).shown), some (.lst os), some (.lst bs), none, some (.lst us), none, none, none, none, none, none], [], g7⟩ = .ok (.nx, ⟨[some (.sc (sc.map Fz.D.int)), some (.g 1), some x2, some (.int p), some (.int n), some (rw_ n f), some (rw_ n f2), some (.int r), some (.str (pd (.lst [rw_ n f, rw_ n f2])).shown), some (.lst os), some (.lst bs), none, some (.lst us), none, none, none, none, none, none], [], g8⟩) := by
    rw [exS_for, evI_seq, ez]
    simp only [R.bd_ok, seq_lst, R.of_some]
    exact el
  have es1 := lsum_ok (m := 19) (by decide) (p := p) (by omega) (n := n) (by omega) (t := 1) (by omega) f f2 g8
  have es2 := sum_ok (m := 19) (by decide) (p := p) (by omega) (n := n) (by omega) f f2 g8
  have esq : (fun j => (f j + 1 * f2 j) % p) = fun j => (f j + f2 j) % p := by funext j; rw [Int.one_mul]
  have rs1 : Red p n fun j => (f j + f2 j) % p := fun j _ => ⟨Int.emod_nonneg _ (by omega), Int.emod_lt_of_pos _ (by omega)⟩
  have s8 : exS ⟨F 19, C⟩ (.set (.nm 17) (.call 16 none (.cons (.v 3) (.cons (.v 5) (.cons (.v 6) (.cons (.k (.int 1)) .nil)))) .nil)) ⟨[some (.sc (sc.map Fz.D.int)), some (.g 1), some x2, some (.int p), some (.int n), some (rw_ n f), some (rw_ n f2), some (.int r), some (.str (pd (.lst [rw_ n f, rw_ n f2])).shown), some (.lst os), some (.lst bs), none, some (.lst us), none, none, none, none, none, none], [], g8⟩ = .ok (.nx, ⟨[some (.sc (sc.map Fz.D.int)), some (.g 1), some x2, some (.int p), some (.int n), some (rw_ n f), some (rw_ n f2), some (.int r), some (.str (pd (.lst [rw_ n f, rw_ n f2])).shown), some (.lst os), some (.lst bs), none, some (.lst us), none, none, none, none, some (rw_ n fun j => (f j + 1 * f2 j) % p), none], [], g8⟩) := by
    simp [es1, arrD]
  have s9 : exS ⟨F 19, C⟩ (.ite (.cm .ne (.bi .repr 0 (.cons (.lst 0 (.cons (.call 2 none (.cons (.v 3) (.cons (.v 5) (.cons (.v 6) .nil))) .nil) (.cons (.call 2 (some [2, 1, 0]) .nil (.cons (.v 6) (.cons (.v 5) (.cons (.v 3) .nil)))) .nil))) .nil)) (.bi .repr 0 (.cons (.lst 0 (.cons (.v 17) (.cons (.v 17) .nil))) .nil))) [ .ret (.k (.bl false))] []) ⟨[some (.sc (sc.map Fz.D.int)), some (.g 1), some x2, some (.int p), some (.int n), some (rw_ n f), some (rw_ n f2), some (.int r), some (.str (pd (.lst [rw_ n f, rw_ n f2])).shown), some (.lst os), some (.lst bs), none, some (.lst us), none, none, none, none, some (rw_ n fun j => (f j + 1 * f2 j) % p), none], [], g8⟩ = .ok (.nx, ⟨[some (.sc (sc.map Fz.D.int)), some (.g 1), some x2, some (.int p), some (.int n), some (rw_ n f), some (rw_ n f2), some (.int r), some (.str (pd (.lst [rw_ n f, rw_ n f2])).shown), some (.lst os), some (.lst bs), none, some (.lst us), none, none, none, none, some (rw_ n fun j => (f j + 1 * f2 j) % p), none], [], g8⟩) := by
    rw [esq]
    have r1 := fun {w : Wd} => rr2 (w := w) rs1 rs1
    simp [es2, arrD, nl2, r1]
  have br : (0 : Int) ≤ (r : Int) ∧ (r : Int) < p := ⟨by omega, b5⟩
  have et1 := lsum_ok (m := 19) (by decide) (p := p) (by omega) (n := n) (by omega) (t := (r : Int)) (by omega) (fun _ => 0) f g8
  have et2 := times_ok (m := 19) (by decide) (p := p) (by omega) (n := n) (by omega) (t := (r : Int)) (by omega) f g8
  have etq : (fun j => (0 + (r : Int) * f j) % p) = scl p (r : Int) f := by funext j; rw [Int.zero_add]; rfl
  have rt1 : Red p n (scl p (r : Int) f) := fun j _ => ⟨Int.emod_nonneg _ (by omega), Int.emod_lt_of_pos _ (by omega)⟩
  have s10 : exS ⟨F 19, C⟩ (.set (.nm 17) (.call 16 none (.cons (.v 3) (.cons (.op .mul 0 (.tup (.cons (.k (.int 0)) .nil)) (.v 4)) (.cons (.v 5) (.cons (.v 7) .nil)))) .nil)) ⟨[some (.sc (sc.map Fz.D.int)), some (.g 1), some x2, some (.int p), some (.int n), some (rw_ n f), some (rw_ n f2), some (.int r), some (.str (pd (.lst [rw_ n f, rw_ n f2])).shown), some (.lst os), some (.lst bs), none, some (.lst us), none, none, none, none, some (rw_ n fun j => (f j + 1 * f2 j) % p), none], [], g8⟩ = .ok (.nx, ⟨[some (.sc (sc.map Fz.D.int)), some (.g 1), some x2, some (.int p), some (.int n), some (rw_ n f), some (rw_ n f2), some (.int r), some (.str (pd (.lst [rw_ n f, rw_ n f2])).shown), some (.lst os), some (.lst bs), none, some (.lst us), none, none, none, none, some (rw_ n fun j => (0 + (r : Int) * f j) % p), none], [], g8⟩) := by
    have z0 := fun {w : Wd} => zeros (md := 0) (n := n) h1 (by omega) (w := w)
    simp [z0, et1, arrD]
  have s11 : exS ⟨F 19, C⟩ (.ite (.cm .ne (.bi .repr 0 (.cons (.lst 0 (.cons (.call 3 none (.cons (.v 3) (.cons (.v 7) (.cons (.v 5) .nil))) .nil) (.cons (.call 3 (some [2, 1, 0]) .nil (.cons (.v 5) (.cons (.v 7) (.cons (.v 3) .nil)))) .nil))) .nil)) (.bi .repr 0 (.cons (.lst 0 (.cons (.v 17) (.cons (.v 17) .nil))) .nil))) [ .ret (.k (.bl false))] []) ⟨[some (.sc (sc.map Fz.D.int)), some (.g 1), some x2, some (.int p), some (.int n), some (rw_ n f), some (rw_ n f2), some (.int r), some (.str (pd (.lst [rw_ n f, rw_ n f2])).shown), some (.lst os), some (.lst bs), none, some (.lst us), none, none, none, none, some (rw_ n fun j => (0 + (r : Int) * f j) % p), none], [], g8⟩ = .ok (.nx, ⟨[some (.sc (sc.map Fz.D.int)), some (.g 1), some x2, some (.int p), some (.int n), some (rw_ n f), some (rw_ n f2), some (.int r), some (.str (pd (.lst [rw_ n f, rw_ n f2])).shown), some (.lst os), some (.lst bs), none, some (.lst us), none, none, none, none, some (rw_ n fun j => (0 + (r : Int) * f j) % p), none], [], g8⟩) := by
    rw [etq]
    have r1 := fun {w : Wd} => rr2 (w := w) rt1 rt1
    simp [et2, arrD, nl2, r1]
  have r0f : Red p n fun _ => 0 := fun _ _ => ⟨Int.le_refl 0, show (0 : Int) < p by omega⟩
  have own := fun (v : Vc) (hv : Red p n v) (a17 : Option Fz.D) => own_ok (sc := sc) (x2 := x2) hp (n := n) h1 hn hv (g := g8) (a5 := some (rw_ n f)) (a6 := some (rw_ n f2)) (a7 := some (.int r)) (a8 := some (.str (pd (.lst [rw_ n f, rw_ n f2])).shown)) (a9 := some (.lst os)) (a10 := some (.lst bs)) (a12 := some (.lst us)) (a17 := a17)
  have el2 : ∀ a17 : Option Fz.D, forL (asg (.nm 13)) (exB ⟨F 19, C⟩ b19_1) (postF [13, 17] false 0) (fun _ => true) [rw_ n f, rw_ n fun _ => 0, rw_ n f2] ⟨[some (.sc (sc.map Fz.D.int)), some (.g 1), some x2, some (.int p), some (.int n), some (rw_ n f), some (rw_ n f2), some (.int r), some (.str (pd (.lst [rw_ n f, rw_ n f2])).shown), some (.lst os), some (.lst bs), none, some (.lst us), none, none, none, none, a17, none], [], g8⟩ = .ok (.nx, ⟨[some (.sc (sc.map Fz.D.int)), some (.g 1), some x2, some (.int p), some (.int n), some (rw_ n f), some (rw_ n f2), some (.int r), some (.str (pd (.lst [rw_ n f, rw_ n f2])).shown), some (.lst os), some (.lst bs), none, some (.lst us), none, none, none, none, none, none], [], g8⟩) := by
    intro a17
    obtain ⟨d1, o1⟩ := own f hf a17
    obtain ⟨d2, o2⟩ := own (fun _ => 0) r0f none
    obtain ⟨d3, o3⟩ := own f2 hf2 none
    rw [forL_cons]
    show (R.of (some (⟨[some (.sc (sc.map Fz.D.int)), some (.g 1), some x2, some (.int p), some (.int n), some (rw_ n f), some (rw_ n f2), some (.int r), some (.str (pd (.lst [rw_ n f, rw_ n f2])).shown), some (.lst os), some (.lst bs), none, some (.lst us), some (rw_ n (f)), none, none, none, a17, none], [], g8⟩ : Wd))).bd _ = _
    rw [R.of_some, R.bd_ok, o1]
    show forL _ _ _ _ _ (⟨[some (.sc (sc.map Fz.D.int)), some (.g 1), some x2, some (.int p), some (.int n), some (rw_ n f), some (rw_ n f2), some (.int r), some (.str (pd (.lst [rw_ n f, rw_ n f2])).shown), some (.lst os), some (.lst bs), none, some (.lst us), none, none, none, none, none, none], [], g8⟩ : Wd) = _
    rw [forL_cons]
    show (R.of (some (⟨[some (.sc (sc.map Fz.D.int)), some (.g 1), some x2, some (.int p), some (.int n), some (rw_ n f), some (rw_ n f2), some (.int r), some (.str (pd (.lst [rw_ n f, rw_ n f2])).shown), some (.lst os), some (.lst bs), none, some (.lst us), some (rw_ n (fun _ => 0)), none, none, none, none, none], [], g8⟩ : Wd))).bd _ = _
    rw [R.of_some, R.bd_ok, o2]
    show forL _ _ _ _ _ (⟨[some (.sc (sc.map Fz.D.int)), some (.g 1), some x2, some (.int p), some (.int n), some (rw_ n f), some (rw_ n f2), some (.int r), some (.str (pd (.lst [rw_ n f, rw_ n f2])).shown), some (.lst os), some (.lst bs), none, some (.lst us), none, none, none, none, none, none], [], g8⟩ : Wd) = _
    rw [forL_cons]
    show (R.of (some (⟨[some (.sc (sc.map Fz.D.int)), some (.g 1), some x2, some (.int p), some (.int n), some (rw_ n f), some (rw_ n f2), some (.int r), some (.str (pd (.lst [rw_ n f, rw_ n f2])).shown), some (.lst os), some (.lst bs), none, some (.lst us), some (rw_ n (f2)), none, none, none, none, none], [], g8⟩ : Wd))).bd _ = _
    rw [R.of_some, R.bd_ok, o3]
    show forL _ _ _ _ _ (⟨[some (.sc (sc.map Fz.D.int)), some (.g 1), some x2, some (.int p), some (.int n), some (rw_ n f), some (rw_ n f2), some (.int r), some (.str (pd (.lst [rw_ n f, rw_ n f2])).shown), some (.lst os), some (.lst bs), none, some (.lst us), none, none, none, none, none, none], [], g8⟩ : Wd) = _
    rfl
  have s12 : exS ⟨F 19, C⟩ (.for (.nm 13) (.seq (.tup (.cons (.v 5) (.cons (.op .mul 0 (.tup (.cons (.k (.int 0)) .nil)) (.v 4)) (.cons (.v 6) .nil))))) b19_1 [13, 17] false) ⟨[some (.sc (sc.map Fz.D.int)), some (.g 1), some x2, some (.int p), some (.int n), some (rw_ n f), some (rw_ n f2), some (.int r), some (.str (pd (.lst [rw_ n f, rw_ n f2])).shown), some (.lst os), some (.lst bs), none, some (.lst us), none, none, none, none, some (rw_ n fun j => (0 + (r : Int) * f j) % p), none], [], g8⟩ = .ok (.nx, ⟨[some (.sc (sc.map Fz.D.int)), some (.g 1), some x2, some (.int p), some (.int n), some (rw_ n f), some (rw_ n f2), some (.int r), some (.str (pd (.lst [rw_ n f, rw_ n f2])).shown), some (.lst os), some (.lst bs), none, some (.lst us), none, none, none, none, none, none], [], g8⟩) := by
    have z0 := fun {w : Wd} => zeros (md := 0) (n := n) h1 (by omega) (w := w)
    simp [-exS_for, z0]
    rw [exS_for]
    simp [z0]
    exact el2 _
  have s13 : exS ⟨F 19, C⟩ (.ite (.cm .ne (.bi .repr 0 (.cons (.lst 0 (.cons (.v 5) (.cons (.v 6) .nil))) .nil)) (.v 8)) [ .ret (.k (.bl false))] []) ⟨[some (.sc (sc.map Fz.D.int)), some (.g 1), some x2, some (.int p), some (.int n), some (rw_ n f), some (rw_ n f2), some (.int r), some (.str (pd (.lst [rw_ n f, rw_ n f2])).shown), some (.lst os), some (.lst bs), none, some (.lst us), none, none, none, none, none, none], [], g8⟩ = .ok (.nx, ⟨[some (.sc (sc.map Fz.D.int)), some (.g 1), some x2, some (.int p), some (.int n), some (rw_ n f), some (rw_ n f2), some (.int r), some (.str (pd (.lst [rw_ n f, rw_ n f2])).shown), some (.lst os), some (.lst bs), none, some (.lst us), none, none, none, none, none, none], [], g8⟩) := by
    simp [nl2, rr]
  refine ⟨[some (.sc (sc.map Fz.D.int)), some (.g 1), some x2, some (.int p), some (.int n), some (rw_ n f), some (rw_ n f2), some (.int r), some (.str (pd (.lst [rw_ n f, rw_ n f2])).shown), some (.lst os), some (.lst bs), none, some (.lst us), none, none, none, none, none, none], g8, p8, ?_, rfl⟩
  unfold b19_2
  rw [exB_step s0, exB_step s1, exB_step s2, exB_step s3, exB_step s4, exB_step s5, exB_step s6, exB_step s7, exB_step s8, exB_step s9, exB_step s10, exB_step s11, exB_step s12, exB_step s13]
  rfl
end K01

namespace K01
open PySem Fz Rw
theorem main : ∀ ns : List Int, ns.length ≤ 63 → ∃ g', F 20 19 [.sc (ns.map Fz.D.int)] [] = .ok (.bl true, g') := by
  intro ns hn
  obtain ⟨g0, e0, p0⟩ := pot_ok (P := ⟨F 7, C⟩) (s0 := 17539) (s1 := 73) (by decide) hn
  have e0 : F 19 7 [.sc (ns.map Fz.D.int)] [] = .ok (.g 1, g0) := by rw [F7 (by decide)]; exact e0
  obtain ⟨w, ⟨g, rfl, p⟩, e⟩ := forL_mem (bind := asg (.nm 2)) (body := exB ⟨F 19, C⟩ b19_2) (post := postF [2, 3, 4, 5, 6, 7, 8, 9, 10, 12, 13, 14, 16, 17, 18] false 0) (ok := fun _ => true)
    (fun w => ∃ g, w = ⟨[some (.sc (ns.map Fz.D.int)), some (.g 1), none, none, none, none, none, none, none, none, none, none, none, none, none, none, none, none, none], [], g⟩ ∧ Pot g) ((List.range 4).map fun j : Nat => .int j) ⟨[some (.sc (ns.map Fz.D.int)), some (.g 1), none, none, none, none, none, none, none, none, none, none, none, none, none, none, none, none, none], [], g0⟩ (by
      rintro x _ w rest ⟨g, rfl, p⟩
      obtain ⟨σ, g', p', e, hσ⟩ := turn (sc := ns) (x2 := x) p
      refine ⟨_, ⟨g', rfl, p'⟩, ?_⟩
      rw [forL_cons]
      show (R.of (some (⟨[some (.sc (ns.map Fz.D.int)), some (.g 1), some x, none, none, none, none, none, none, none, none, none, none, none, none, none, none, none, none], [], g⟩ : Wd))).bd _ = _
      simp only [R.of_some, R.bd_ok, e, postF, hσ]
      rfl) ⟨g0, rfl, p0⟩
  have r4 : rngF [.int 4] = some ((List.range 4).map fun t : Nat => Fz.D.int t) := rng_n (n := 4) (by decide)
  have s1 : exS ⟨F 19, C⟩ (.set (.nm 1) (.call 7 none (.cons (.v 0) .nil) .nil)) ⟨[some (.sc (ns.map Fz.D.int)), none, none, none, none, none, none, none, none, none, none, none, none, none, none, none, none, none, none], [], []⟩ = .ok (.nx, ⟨[some (.sc (ns.map Fz.D.int)), some (.g 1), none, none, none, none, none, none, none, none, none, none, none, none, none, none, none, none, none], [], g0⟩) := by
    simp [e0, arrD]
  have s2 : exS ⟨F 19, C⟩ (.for (.nm 2) (.rng (.cons (.k (.int 4)) .nil)) b19_2 [2, 3, 4, 5, 6, 7, 8, 9, 10, 12, 13, 14, 16, 17, 18] false) ⟨[some (.sc (ns.map Fz.D.int)), some (.g 1), none, none, none, none, none, none, none, none, none, none, none, none, none, none, none, none, none], [], g0⟩ = .ok (.nx, ⟨[some (.sc (ns.map Fz.D.int)), some (.g 1), none, none, none, none, none, none, none, none, none, none, none, none, none, none, none, none, none], [], g⟩) := by
    rw [exS_for]
    simp only [evI_rng, evEs_cons, evEs_nil, evE_k, R.bd_ok, r4, R.of_some]
    exact e
  refine ⟨g, ?_⟩
  rw [F19 (by decide)]
  unfold b19
  refine exD_rt (w1 := ⟨[some (.sc (ns.map Fz.D.int)), some (.g 1), none, none, none, none, none, none, none, none, none, none, none, none, none, none, none, none, none], [], g⟩) (d := .bl true) ((exB_step s1).trans ((exB_step s2).trans ?_)) rfl
  simp
end K01

/-! the head of k01 (printed by wip/gen.py) -/
namespace K01
open PySem PySem.Spec PyProof.Rows L2 Fz
theorem ck : ckAll (tbOf ds fre cns bnd (ers.map fun t => (t.c, t.f)) "SpaceError") 0 ds sts = true := by decide +kernel
theorem bn0 (kV doc pm : Value) (an : Option Addr) (cdv ct : Value) : ∀ (us ws zs : List Value), us.length = 1 → ws.length = 0 → arrD (none : Option (List Nat)) (us ++ ws) = some zs → bindArgs (PySem.W.fnOf (stName (topS 4)) (stName (topS 4)) (defArgs (topS 4)) (defBody (topS 4)) (defScope (topS 4)) .none kV doc pm an cdv ct) ⟨us, ([] : List Str).zip ws⟩ = pure (d0.ps.zip zs)
  | [_], [], _, _, _, e => by cases e; rfl
theorem bn1 (kV doc pm : Value) (an : Option Addr) (cdv ct : Value) : ∀ (us ws zs : List Value), us.length = 0 → ws.length = 3 → arrD (some [2, 1, 0]) (us ++ ws) = some zs → bindArgs (PySem.W.fnOf (stName (topS 5)) (stName (topS 5)) (defArgs (topS 5)) (defBody (topS 5)) (defScope (topS 5)) .none kV doc pm an cdv ct) ⟨us, (["value", "n", "p"] : List Str).zip ws⟩ = pure (d1.ps.zip zs)
  | [], [_, _, _], _, _, _, e => by cases e; rfl
theorem bn2 (kV doc pm : Value) (an : Option Addr) (cdv ct : Value) : ∀ (us ws zs : List Value), us.length = 3 → ws.length = 0 → arrD (none : Option (List Nat)) (us ++ ws) = some zs → bindArgs (PySem.W.fnOf (stName (topS 5)) (stName (topS 5)) (defArgs (topS 5)) (defBody (topS 5)) (defScope (topS 5)) .none kV doc pm an cdv ct) ⟨us, ([] : List Str).zip ws⟩ = pure (d1.ps.zip zs)
  | [_, _, _], [], _, _, _, e => by cases e; rfl
theorem bn3 (kV doc pm : Value) (an : Option Addr) (cdv ct : Value) : ∀ (us ws zs : List Value), us.length = 3 → ws.length = 0 → arrD (none : Option (List Nat)) (us ++ ws) = some zs → bindArgs (PySem.W.fnOf (stName (topS 15)) (stName (topS 15)) (defArgs (topS 15)) (defBody (topS 15)) (defScope (topS 15)) .none kV doc pm an cdv ct) ⟨us, ([] : List Str).zip ws⟩ = pure (d10.ps.zip zs)
  | [_, _, _], [], _, _, _, e => by cases e; rfl
theorem bn4 (kV doc pm : Value) (an : Option Addr) (cdv ct : Value) : ∀ (us ws zs : List Value), us.length = 3 → ws.length = 0 → arrD (none : Option (List Nat)) (us ++ ws) = some zs → bindArgs (PySem.W.fnOf (stName (topS 16)) (stName (topS 16)) (defArgs (topS 16)) (defBody (topS 16)) (defScope (topS 16)) .none kV doc pm an cdv ct) ⟨us, ([] : List Str).zip ws⟩ = pure (d11.ps.zip zs)
  | [_, _, _], [], _, _, _, e => by cases e; rfl
theorem bn5 (kV doc pm : Value) (an : Option Addr) (cdv ct : Value) : ∀ (us ws zs : List Value), us.length = 3 → ws.length = 0 → arrD (none : Option (List Nat)) (us ++ ws) = some zs → bindArgs (PySem.W.fnOf (stName (topS 17)) (stName (topS 17)) (defArgs (topS 17)) (defBody (topS 17)) (defScope (topS 17)) .none kV doc pm an cdv ct) ⟨us, ([] : List Str).zip ws⟩ = pure (d12.ps.zip zs)
  | [_, _, _], [], _, _, _, e => by cases e; rfl
theorem bn6 (kV doc pm : Value) (an : Option Addr) (cdv ct : Value) : ∀ (us ws zs : List Value), us.length = 3 → ws.length = 0 → arrD (none : Option (List Nat)) (us ++ ws) = some zs → bindArgs (PySem.W.fnOf (stName (topS 18)) (stName (topS 18)) (defArgs (topS 18)) (defBody (topS 18)) (defScope (topS 18)) .none kV doc pm an cdv ct) ⟨us, ([] : List Str).zip ws⟩ = pure (d13.ps.zip zs)
  | [_, _, _], [], _, _, _, e => by cases e; rfl
theorem bn7 (kV doc pm : Value) (an : Option Addr) (cdv ct : Value) : ∀ (us ws zs : List Value), us.length = 1 → ws.length = 0 → arrD (none : Option (List Nat)) (us ++ ws) = some zs → bindArgs (PySem.W.fnOf (stName (topS 19)) (stName (topS 19)) (defArgs (topS 19)) (defBody (topS 19)) (defScope (topS 19)) .none kV doc pm an cdv ct) ⟨us, ([] : List Str).zip ws⟩ = pure (d14.ps.zip zs)
  | [_], [], _, _, _, e => by cases e; rfl
theorem bn8 (kV doc pm : Value) (an : Option Addr) (cdv ct : Value) : ∀ (us ws zs : List Value), us.length = 3 → ws.length = 0 → arrD (none : Option (List Nat)) (us ++ ws) = some zs → bindArgs (PySem.W.fnOf (stName (topS 20)) (stName (topS 20)) (defArgs (topS 20)) (defBody (topS 20)) (defScope (topS 20)) .none kV doc pm an cdv ct) ⟨us, ([] : List Str).zip ws⟩ = pure (d15.ps.zip zs)
  | [_, _, _], [], _, _, _, e => by cases e; rfl
theorem bn9 (kV doc pm : Value) (an : Option Addr) (cdv ct : Value) : ∀ (us ws zs : List Value), us.length = 4 → ws.length = 0 → arrD (none : Option (List Nat)) (us ++ ws) = some zs → bindArgs (PySem.W.fnOf (stName (topS 21)) (stName (topS 21)) (defArgs (topS 21)) (defBody (topS 21)) (defScope (topS 21)) .none kV doc pm an cdv ct) ⟨us, ([] : List Str).zip ws⟩ = pure (d16.ps.zip zs)
  | [_, _, _, _], [], _, _, _, e => by cases e; rfl
theorem bn10 (kV doc pm : Value) (an : Option Addr) (cdv ct : Value) : ∀ (us ws zs : List Value), us.length = 3 → ws.length = 0 → arrD (none : Option (List Nat)) (us ++ ws) = some zs → bindArgs (PySem.W.fnOf (stName (topS 22)) (stName (topS 22)) (defArgs (topS 22)) (defBody (topS 22)) (defScope (topS 22)) .none kV doc pm an cdv ct) ⟨us, ([] : List Str).zip ws⟩ = pure (d17.ps.zip zs)
  | [_, _, _], [], _, _, _, e => by cases e; rfl
theorem bn11 (kV doc pm : Value) (an : Option Addr) (cdv ct : Value) : ∀ (us ws zs : List Value), us.length = 3 → ws.length = 0 → arrD (none : Option (List Nat)) (us ++ ws) = some zs → bindArgs (PySem.W.fnOf (stName (topS 23)) (stName (topS 23)) (defArgs (topS 23)) (defBody (topS 23)) (defScope (topS 23)) .none kV doc pm an cdv ct) ⟨us, ([] : List Str).zip ws⟩ = pure (d18.ps.zip zs)
  | [_, _, _], [], _, _, _, e => by cases e; rfl
theorem bn12 (kV doc pm : Value) (an : Option Addr) (cdv ct : Value) : ∀ (us ws zs : List Value), us.length = 0 → ws.length = 3 → arrD (some [2, 1, 0]) (us ++ ws) = some zs → bindArgs (PySem.W.fnOf (stName (topS 6)) (stName (topS 6)) (defArgs (topS 6)) (defBody (topS 6)) (defScope (topS 6)) .none kV doc pm an cdv ct) ⟨us, (["other_row", "row", "p"] : List Str).zip ws⟩ = pure (d2.ps.zip zs)
  | [], [_, _, _], _, _, _, e => by cases e; rfl
theorem bn13 (kV doc pm : Value) (an : Option Addr) (cdv ct : Value) : ∀ (us ws zs : List Value), us.length = 3 → ws.length = 0 → arrD (none : Option (List Nat)) (us ++ ws) = some zs → bindArgs (PySem.W.fnOf (stName (topS 6)) (stName (topS 6)) (defArgs (topS 6)) (defBody (topS 6)) (defScope (topS 6)) .none kV doc pm an cdv ct) ⟨us, ([] : List Str).zip ws⟩ = pure (d2.ps.zip zs)
  | [_, _, _], [], _, _, _, e => by cases e; rfl
theorem bn14 (kV doc pm : Value) (an : Option Addr) (cdv ct : Value) : ∀ (us ws zs : List Value), us.length = 0 → ws.length = 3 → arrD (some [2, 1, 0]) (us ++ ws) = some zs → bindArgs (PySem.W.fnOf (stName (topS 7)) (stName (topS 7)) (defArgs (topS 7)) (defBody (topS 7)) (defScope (topS 7)) .none kV doc pm an cdv ct) ⟨us, (["row", "number", "p"] : List Str).zip ws⟩ = pure (d3.ps.zip zs)
  | [], [_, _, _], _, _, _, e => by cases e; rfl
theorem bn15 (kV doc pm : Value) (an : Option Addr) (cdv ct : Value) : ∀ (us ws zs : List Value), us.length = 3 → ws.length = 0 → arrD (none : Option (List Nat)) (us ++ ws) = some zs → bindArgs (PySem.W.fnOf (stName (topS 7)) (stName (topS 7)) (defArgs (topS 7)) (defBody (topS 7)) (defScope (topS 7)) .none kV doc pm an cdv ct) ⟨us, ([] : List Str).zip ws⟩ = pure (d3.ps.zip zs)
  | [_, _, _], [], _, _, _, e => by cases e; rfl
theorem bn16 (kV doc pm : Value) (an : Option Addr) (cdv ct : Value) : ∀ (us ws zs : List Value), us.length = 2 → ws.length = 0 → arrD (none : Option (List Nat)) (us ++ ws) = some zs → bindArgs (PySem.W.fnOf (stName (topS 8)) (stName (topS 8)) (defArgs (topS 8)) (defBody (topS 8)) (defScope (topS 8)) .none kV doc pm an cdv ct) ⟨us, ([] : List Str).zip ws⟩ = pure (d4.ps.zip zs)
  | [_, _], [], _, _, _, e => by cases e; rfl
theorem bn17 (kV doc pm : Value) (an : Option Addr) (cdv ct : Value) : ∀ (us ws zs : List Value), us.length = 1 → ws.length = 0 → arrD (none : Option (List Nat)) (us ++ ws) = some zs → bindArgs (PySem.W.fnOf (stName (topS 9)) (stName (topS 9)) (defArgs (topS 9)) (defBody (topS 9)) (defScope (topS 9)) .none kV doc pm an cdv ct) ⟨us, ([] : List Str).zip ws⟩ = pure (d5.ps.zip zs)
  | [_], [], _, _, _, e => by cases e; rfl
theorem bn18 (kV doc pm : Value) (an : Option Addr) (cdv ct : Value) : ∀ (us ws zs : List Value), us.length = 0 → ws.length = 2 → arrD (some [1, 0]) (us ++ ws) = some zs → bindArgs (PySem.W.fnOf (stName (topS 10)) (stName (topS 10)) (defArgs (topS 10)) (defBody (topS 10)) (defScope (topS 10)) .none kV doc pm an cdv ct) ⟨us, (["row", "p"] : List Str).zip ws⟩ = pure (d6.ps.zip zs)
  | [], [_, _], _, _, _, e => by cases e; rfl
theorem bn19 (kV doc pm : Value) (an : Option Addr) (cdv ct : Value) : ∀ (us ws zs : List Value), us.length = 2 → ws.length = 0 → arrD (none : Option (List Nat)) (us ++ ws) = some zs → bindArgs (PySem.W.fnOf (stName (topS 10)) (stName (topS 10)) (defArgs (topS 10)) (defBody (topS 10)) (defScope (topS 10)) .none kV doc pm an cdv ct) ⟨us, ([] : List Str).zip ws⟩ = pure (d6.ps.zip zs)
  | [_, _], [], _, _, _, e => by cases e; rfl
theorem bn20 (kV doc pm : Value) (an : Option Addr) (cdv ct : Value) : ∀ (us ws zs : List Value), us.length = 1 → ws.length = 0 → arrD (none : Option (List Nat)) (us ++ ws) = some zs → bindArgs (PySem.W.fnOf (stName (topS 12)) (stName (topS 12)) (defArgs (topS 12)) (defBody (topS 12)) (defScope (topS 12)) .none kV doc pm an cdv ct) ⟨us, ([] : List Str).zip ws⟩ = pure (d7.ps.zip zs)
  | [_], [], _, _, _, e => by cases e; rfl
theorem bn21 (kV doc pm : Value) (an : Option Addr) (cdv ct : Value) : ∀ (us ws zs : List Value), us.length = 2 → ws.length = 0 → arrD (none : Option (List Nat)) (us ++ ws) = some zs → bindArgs (PySem.W.fnOf (stName (topS 13)) (stName (topS 13)) (defArgs (topS 13)) (defBody (topS 13)) (defScope (topS 13)) .none kV doc pm an cdv ct) ⟨us, ([] : List Str).zip ws⟩ = pure (d8.ps.zip zs)
  | [_, _], [], _, _, _, e => by cases e; rfl
theorem bn22 (kV doc pm : Value) (an : Option Addr) (cdv ct : Value) : ∀ (us ws zs : List Value), us.length = 2 → ws.length = 0 → arrD (none : Option (List Nat)) (us ++ ws) = some zs → bindArgs (PySem.W.fnOf (stName (topS 14)) (stName (topS 14)) (defArgs (topS 14)) (defBody (topS 14)) (defScope (topS 14)) .none kV doc pm an cdv ct) ⟨us, ([] : List Str).zip ws⟩ = pure (d9.ps.zip zs)
  | [_, _], [], _, _, _, e => by cases e; rfl
theorem bnds : BindsAll ds sts bnd := by
  intro b hb d st h1 h2
  have hb : b ∈ ([((0, 1, [], none) : Nat × Nat × List Str × Option (List Nat)), ((1, 0, ["value", "n", "p"], some [2, 1, 0]) : Nat × Nat × List Str × Option (List Nat)), ((1, 3, [], none) : Nat × Nat × List Str × Option (List Nat)), ((10, 3, [], none) : Nat × Nat × List Str × Option (List Nat)), ((11, 3, [], none) : Nat × Nat × List Str × Option (List Nat)), ((12, 3, [], none) : Nat × Nat × List Str × Option (List Nat)), ((13, 3, [], none) : Nat × Nat × List Str × Option (List Nat)), ((14, 1, [], none) : Nat × Nat × List Str × Option (List Nat)), ((15, 3, [], none) : Nat × Nat × List Str × Option (List Nat)), ((16, 4, [], none) : Nat × Nat × List Str × Option (List Nat)), ((17, 3, [], none) : Nat × Nat × List Str × Option (List Nat)), ((18, 3, [], none) : Nat × Nat × List Str × Option (List Nat)), ((2, 0, ["other_row", "row", "p"], some [2, 1, 0]) : Nat × Nat × List Str × Option (List Nat)), ((2, 3, [], none) : Nat × Nat × List Str × Option (List Nat)), ((3, 0, ["row", "number", "p"], some [2, 1, 0]) : Nat × Nat × List Str × Option (List Nat)), ((3, 3, [], none) : Nat × Nat × List Str × Option (List Nat)), ((4, 2, [], none) : Nat × Nat × List Str × Option (List Nat)), ((5, 1, [], none) : Nat × Nat × List Str × Option (List Nat)), ((6, 0, ["row", "p"], some [1, 0]) : Nat × Nat × List Str × Option (List Nat)), ((6, 2, [], none) : Nat × Nat × List Str × Option (List Nat)), ((7, 1, [], none) : Nat × Nat × List Str × Option (List Nat)), ((8, 2, [], none) : Nat × Nat × List Str × Option (List Nat)), ((9, 2, [], none) : Nat × Nat × List Str × Option (List Nat))] : List (Nat × Nat × List Str × Option (List Nat))) := hb
  simp only [List.mem_cons, List.not_mem_nil, or_false] at hb
  rcases hb with rfl | rfl | rfl | rfl | rfl | rfl | rfl | rfl | rfl | rfl | rfl | rfl | rfl | rfl | rfl | rfl | rfl | rfl | rfl | rfl | rfl | rfl | rfl
  · cases h1; cases h2; exact fun kV doc pm an cdv ct us ws zs l1 l2 e => bn0 kV doc pm an cdv ct us ws zs l1 l2 e
  · cases h1; cases h2; exact fun kV doc pm an cdv ct us ws zs l1 l2 e => bn1 kV doc pm an cdv ct us ws zs l1 l2 e
  · cases h1; cases h2; exact fun kV doc pm an cdv ct us ws zs l1 l2 e => bn2 kV doc pm an cdv ct us ws zs l1 l2 e
  · cases h1; cases h2; exact fun kV doc pm an cdv ct us ws zs l1 l2 e => bn3 kV doc pm an cdv ct us ws zs l1 l2 e
  · cases h1; cases h2; exact fun kV doc pm an cdv ct us ws zs l1 l2 e => bn4 kV doc pm an cdv ct us ws zs l1 l2 e
  · cases h1; cases h2; exact fun kV doc pm an cdv ct us ws zs l1 l2 e => bn5 kV doc pm an cdv ct us ws zs l1 l2 e
  · cases h1; cases h2; exact fun kV doc pm an cdv ct us ws zs l1 l2 e => bn6 kV doc pm an cdv ct us ws zs l1 l2 e
  · cases h1; cases h2; exact fun kV doc pm an cdv ct us ws zs l1 l2 e => bn7 kV doc pm an cdv ct us ws zs l1 l2 e
  · cases h1; cases h2; exact fun kV doc pm an cdv ct us ws zs l1 l2 e => bn8 kV doc pm an cdv ct us ws zs l1 l2 e
  · cases h1; cases h2; exact fun kV doc pm an cdv ct us ws zs l1 l2 e => bn9 kV doc pm an cdv ct us ws zs l1 l2 e
  · cases h1; cases h2; exact fun kV doc pm an cdv ct us ws zs l1 l2 e => bn10 kV doc pm an cdv ct us ws zs l1 l2 e
  · cases h1; cases h2; exact fun kV doc pm an cdv ct us ws zs l1 l2 e => bn11 kV doc pm an cdv ct us ws zs l1 l2 e
  · cases h1; cases h2; exact fun kV doc pm an cdv ct us ws zs l1 l2 e => bn12 kV doc pm an cdv ct us ws zs l1 l2 e
  · cases h1; cases h2; exact fun kV doc pm an cdv ct us ws zs l1 l2 e => bn13 kV doc pm an cdv ct us ws zs l1 l2 e
  · cases h1; cases h2; exact fun kV doc pm an cdv ct us ws zs l1 l2 e => bn14 kV doc pm an cdv ct us ws zs l1 l2 e
  · cases h1; cases h2; exact fun kV doc pm an cdv ct us ws zs l1 l2 e => bn15 kV doc pm an cdv ct us ws zs l1 l2 e
  · cases h1; cases h2; exact fun kV doc pm an cdv ct us ws zs l1 l2 e => bn16 kV doc pm an cdv ct us ws zs l1 l2 e
  · cases h1; cases h2; exact fun kV doc pm an cdv ct us ws zs l1 l2 e => bn17 kV doc pm an cdv ct us ws zs l1 l2 e
  · cases h1; cases h2; exact fun kV doc pm an cdv ct us ws zs l1 l2 e => bn18 kV doc pm an cdv ct us ws zs l1 l2 e
  · cases h1; cases h2; exact fun kV doc pm an cdv ct us ws zs l1 l2 e => bn19 kV doc pm an cdv ct us ws zs l1 l2 e
  · cases h1; cases h2; exact fun kV doc pm an cdv ct us ws zs l1 l2 e => bn20 kV doc pm an cdv ct us ws zs l1 l2 e
  · cases h1; cases h2; exact fun kV doc pm an cdv ct us ws zs l1 l2 e => bn21 kV doc pm an cdv ct us ws zs l1 l2 e
  · cases h1; cases h2; exact fun kV doc pm an cdv ct us ws zs l1 l2 e => bn22 kV doc pm an cdv ct us ws zs l1 l2 e
def fn : List He.DefD := sts.map dOf
def fa : List He.Fa := faOf ds fre cns ++ He.Fa.glo "SpaceError" :: ers.map fun t => He.Fa.glo t.c
abbrev Rw : PySem.W.OpenRow := PySem.W.OpenLaw.row PySem.Challenge.rw_formspaces_k01_rows_judged
abbrev pf : Str := (PySem.Challenge.rw_formspaces_k01_rows_judged).prog.main.file
abbrev hk : PySem.W.Hook := Fz.hookX 4 fa fn pf "SpaceError" ers
def ob (s : PySem.W.SharedT) : Fz.AlX := Fz.obsXG 4 fa fn pf "SpaceError" ers (HandSHeadRun.getT s)
theorem ob_eq (s : PySem.W.SharedT) : ob s = hk.obs s.abs := Fz.obsXG_eq (HandSHeadRun.getT_eq s)
theorem sh0 : ErSh (PySem.Challenge.rw_formspaces_k01_rows_judged).prog er0 where
  sh0 := fun _ => ⟨_, _, _, _, _, _, rfl, rfl, by decide +kernel⟩
  sh1 := fun n h => nomatch h
  fl := by decide +kernel
  top := by kernel_rfl
  hks := by kernel_rfl
  hkc := by kernel_rfl
  hse := by kernel_rfl
  hk := by kernel_rfl
  hco := by kernel_rfl
  hge := by kernel_rfl
  hce := by decide +kernel
  db := by decide +kernel
theorem sh : ∀ t ∈ ers, ErSh (PySem.Challenge.rw_formspaces_k01_rows_judged).prog t := fun t ht => by
  rcases List.mem_cons.mp ht with rfl | ht
  · exact sh0
  cases ht
def loose_0 : List Str := ["is_integer", "row_error", "row_sum", "row_times", "turned_back", "head_of", "point_of", "_law_pot", "_law_of", "_law_one", "_law_is_number", "_law_spliced", "_law_bent", "_law_power", "_law_head", "_law_row", "_law_sum", "_law_row_fault", "_law_told", "SpaceError"]
def loose_1 : List Str := ["Unfit"]
def loose : List Str := loose_0 ++ loose_1
theorem run (w : World) : HandSHeadRun.RunEq Rw (PySem.W.view Rw.prog [24]) hk ob 2500 loose w := by
  intro os
  kernel_rfl
end K01
open PySem PySem.W PySem.Calls PyProof.Rows in
theorem PySem.Challenge.cw_formspaces_k01_rows_judged_holds : PySem.Challenge.rw_formspaces_k01_rows_judged.Holds := by
  w_on; o_law
  refine HandSHeadRun.head_any (r := K01.Rw) (q := view K01.Rw.prog [24]) (H := K01.hk) (ob := K01.ob) (M := 2500) (loose := K01.loose) (d := HandSHeadRun.topDef K01.Rw.prog 24) (kwd := []) K01.ob_eq
    (by kernel_rfl) (fun s => by kernel_rfl) K01.run (by kernel_rfl) (by kernel_rfl) (by kernel_rfl) (by rfl) (by first | assumption | decide +kernel) (by decide +kernel) ⟨rfl, rfl, rfl, rfl, rfl, by decide +kernel⟩ ?hw ?hc
  case hw => w_witness2
  case hc =>
    refine Fz.walk_ofG (l := PySem.Challenge.rw_formspaces_k01_rows_judged) (n := 63) (k := 20) (x := "script") (Fl := K01.F 20 19) rfl (by decide) (by kernel_rfl) ⟨rfl, by decide, by decide⟩ ?F (fun ns h => K01.main ns h)
    intro w mg fa h Y G hmg0
    obtain ⟨K, KX, c⟩ := Y
    have hmg : mg ("law" : PySem.Str) = some (.ref fa) := by
      have e : (HandSHeadRun.topDef K01.Rw.prog 24).name = ("law" : PySem.Str) := by kernel_rfl
      rw [← e]
      exact hmg0
    refine ⟨K, ?_⟩
    obtain ⟨fd, F, g, J, _⟩ := Fz.all_okE (P := (PySem.Challenge.rw_formspaces_k01_rows_judged).prog) (w := w) KX G c K01.ck K01.bnds K01.sh 19 K01.d19 rfl
    exact Fz.end_ok (d := K01.d19) ⟨fd, F, g, J, fun _ _ _ _ => trivial⟩ rfl (fun f fd F s u => L2.FunD.bindsA (ps := ["script"]) F (fun _ _ _ _ _ _ us hl => match us, hl with | [_], _ => rfl) s [u] rfl) KX hmg
