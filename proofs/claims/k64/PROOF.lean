import PyProof.Rows.All
import HandS.ForMost
import HandS.Style
import HandS.Flow
import HandS.TupAny
import HandS.Wide
import HandS.Deep
import HandS.SortInts
import HandS.TupSets
import KE.GoesEnum
import HandS.Zip
import PyProof.Rows.ChunkLeaf
import HandS.Conv
import HandS.Defaults
import HandS.More
import HandS.WordsExc
import HandS.Head0
import HandS.Head1
import HandS.Head2
import HandS.HeadEnd
import HandS.HeadHook1
import HandS.HeadHook2
import KE.DataEq
import PyProof.Rows.StrJoinMade
import PySem.Challenge.RW_formspaces_k64_whole_common_points
set_option Elab.async false
set_option linter.all false
set_option maxRecDepth 100000
set_option maxHeartbeats 4000000
/-! Q1: data, own syntax, the pure evaluator. -/
namespace Fz
open PySem

inductive D where
  | non | bl (b : Bool) | int (i : Int) | str (s : Str)
  | tup (ds : List D) | lst (ds : List D) | fl (ds : List D) | sc (ds : List D)
  | ref (k : Nat) | g (k : Nat)
  /-- a dict with texts as keys, never changed -/
  | dic (ks : List Str) (ds : List D)
  deriving Inhabited

inductive R (α : Type) where
  | ok (a : α) | exc (c : Str) (ds : List D) | err

def R.bd {α β : Type} (r : R α) (f : α → R β) : R β := match r with
  | .ok a => f a
  | .exc c ds => .exc c ds
  | .err => .err
@[simp] theorem R.bd_ok {α β : Type} (a : α) (f : α → R β) : (R.ok a).bd f = f a := .trans rfl rfl
@[simp] theorem R.bd_exc {α β : Type} (c ds) (f : α → R β) : (R.exc c ds : R α).bd f = .exc c ds := .trans rfl rfl
@[simp] theorem R.bd_err {α β : Type} (f : α → R β) : (R.err : R α).bd f = .err := .trans rfl rfl
def R.of {α : Type} : Option α → R α
  | some a => .ok a
  | none => .err
@[simp] theorem R.of_some {α : Type} (a : α) : R.of (some a) = .ok a := .trans rfl rfl
@[simp] theorem R.of_none {α : Type} : R.of (none : Option α) = .err := .trans rfl rfl

structure Wd where
  σ : List (Option D)
  m : List (List D)
  g : List (List D)

/-! ### equality of data, by structure -/
mutual
def deq : D → D → Bool
  | .non, .non => true
  | .bl a, .bl b => a == b
  | .int a, .int b => decide (a = b)
  | .str a, .str b => decide (a = b)
  | .tup a, .tup b => deqL a b
  | .lst a, .lst b => deqL a b
  | .fl a, .fl b => deqL a b
  | .sc a, .sc b => deqL a b
  | .ref a, .ref b => a == b
  | .g a, .g b => a == b
  | .dic ks a, .dic js b => decide (ks = js) && deqL a b
  | _, _ => false
def deqL : List D → List D → Bool
  | [], [] => true
  | x :: xs, y :: ys => deq x y && deqL xs ys
  | _, _ => false
end
mutual
theorem deq_refl : ∀ d : D, deq d d = true
  | .non => rfl
  | .bl b => by simp [deq]
  | .int _ => by simp [deq]
  | .str _ => by simp [deq]
  | .tup ds => by simpa [deq] using deqL_refl ds
  | .lst ds => by simpa [deq] using deqL_refl ds
  | .fl ds => by simpa [deq] using deqL_refl ds
  | .sc ds => by simpa [deq] using deqL_refl ds
  | .ref _ => by simp [deq]
  | .g _ => by simp [deq]
  | .dic ks ds => by simpa [deq] using deqL_refl ds
theorem deqL_refl : ∀ ds : List D, deqL ds ds = true
  | [] => rfl
  | x :: xs => by simp [deqL, deq_refl x, deqL_refl xs]
end
mutual
theorem deq_eq : ∀ d e : D, deq d e = true → d = e
  | .non, e, h => by cases e <;> first | rfl | (simp [deq] at h)
  | .bl b, e, h => by cases e <;> simp_all [deq]
  | .int b, e, h => by cases e <;> simp_all [deq]
  | .str b, e, h => by cases e <;> simp_all [deq]
  | .tup ds, e, h => by
    cases e with
    | tup es => rw [deqL_eq ds es (by simpa [deq] using h)]
    | _ => simp [deq] at h
  | .lst ds, e, h => by
    cases e with
    | lst es => rw [deqL_eq ds es (by simpa [deq] using h)]
    | _ => simp [deq] at h
  | .fl ds, e, h => by
    cases e with
    | fl es => rw [deqL_eq ds es (by simpa [deq] using h)]
    | _ => simp [deq] at h
  | .sc ds, e, h => by
    cases e with
    | sc es => rw [deqL_eq ds es (by simpa [deq] using h)]
    | _ => simp [deq] at h
  | .ref k, e, h => by cases e <;> simp_all [deq]
  | .g k, e, h => by cases e <;> simp_all [deq]
  | .dic ks ds, e, h => by
    cases e with
    | dic js es =>
      have h := (Bool.and_eq_true_iff.mp (show (decide (ks = js) && deqL ds es) = true by simpa [deq] using h))
      rw [deqL_eq ds es h.2, of_decide_eq_true h.1]
    | _ => simp [deq] at h
theorem deqL_eq : ∀ ds es : List D, deqL ds es = true → ds = es
  | [], es, h => by cases es <;> simp_all [deqL]
  | x :: xs, es, h => by
    cases es with
    | nil => simp [deqL] at h
    | cons y ys =>
      simp only [deqL, Bool.and_eq_true] at h
      rw [deq_eq x y h.1, deqL_eq xs ys h.2]
end

/-! ### looking at data -/
def Wd.seq (w : Wd) : D → Option (List D)
  | .tup ds => some ds
  | .lst ds => some ds
  | .fl ds => some ds
  | .sc ds => some ds
  | .ref k => w.m[k]?
  | .g k => w.g[k]?
  | _ => none
def isT : D → Bool
  | .tup _ => true
  | _ => false
/-- a list that stands tracked (no tuple, no frozen script) -/
def isL : D → Bool
  | .lst _ => true
  | .fl _ => true
  | .ref _ => true
  | .g _ => true
  | _ => false
/-- a text's, a list's .. truth -/
def Wd.tru (w : Wd) : D → Option Bool
  | .non => some false
  | .bl b => some b
  | .int i => some (i != 0)
  | .str s => if s.length ≤ 1000000 then some (s.length != 0) else none
  | d => (w.seq d).map fun xs => !xs.isEmpty

-- refs turned by ρ; φ: borrowed lists may stand
mutual
def rs (ρ : Nat → Option D) (φ : Bool) : D → Option D
  | .non => some .non
  | .bl b => some (.bl b)
  | .int i => some (.int i)
  | .str s => some (.str s)
  | .tup ds => (rsL ρ φ ds).map D.tup
  | .lst ds => (rsL ρ φ ds).map D.lst
  | .fl ds => if φ then (rsL ρ φ ds).map D.fl else none
  | .sc ds => if φ then (rsL ρ φ ds).map D.sc else none
  | .ref k => ρ k
  | .g k => some (.g k)
  | .dic ks ds => (rsL ρ φ ds).map (D.dic ks)
def rsL (ρ : Nat → Option D) (φ : Bool) : List D → Option (List D)
  | [] => some []
  | x :: xs => (rs ρ φ x).bind fun y => (rsL ρ φ xs).map fun ys => y :: ys
end
/-- refs from L on turned into what they hold -/
def up (mk : List D → D) (L : Nat) (m : List (List D)) (φ : Bool) : Nat → Nat → Option D
  | 0, k => if k < L then some (.ref k) else none
  | n + 1, k => if k < L then some (.ref k) else (m[k]?).bind fun ds => (rsL (up mk L m φ n) φ ds).map mk
def lend (w : Wd) (d : D) : Option D := rs (up D.fl 0 w.m true 4) true d
def give (w : Wd) (d : D) : Option D := rs (up D.lst 0 w.m false 4) false d
def lendL (w : Wd) (ds : List D) : Option (List D) := rsL (up D.fl 0 w.m true 4) true ds
def keep (L : Nat) (m : List (List D)) : Nat → Option D := up D.lst L m true 4
def keepO (L : Nat) (m : List (List D)) : List (Option D) → Option (List (Option D))
  | [] => some []
  | none :: r => (keepO L m r).map fun xs => none :: xs
  | some d :: r => (rs (keep L m) true d).bind fun y => (keepO L m r).map fun xs => some y :: xs
def keepM (L : Nat) (m : List (List D)) : List (List D) → Option (List (List D))
  | [] => some []
  | x :: r => (rsL (keep L m) true x).bind fun y => (keepM L m r).map fun xs => y :: xs
/-- all own lists from L on are frozen -/
def Wd.gc (w : Wd) (L : Nat) : Option Wd :=
  (keepO L w.m w.σ).bind fun σ => (keepM L w.m (w.m.take L)).map fun m => { w with σ := σ, m := m }

-- as the model's data
mutual
def py (ρ γ : Nat → Option PyData) : D → Option PyData
  | .non => some .none
  | .bl b => some (.bool b)
  | .int i => some (.int i)
  | .str s => some (.str s)
  | .tup ds => (pyL ρ γ ds).map PyData.tuple
  | .lst ds => (pyL ρ γ ds).map PyData.list
  | .fl ds => (pyL ρ γ ds).map PyData.list
  | .sc ds => (pyL ρ γ ds).map PyData.list
  | .ref k => ρ k
  | .g k => γ k
  | .dic _ _ => none
def pyL (ρ γ : Nat → Option PyData) : List D → Option (List PyData)
  | [] => some []
  | x :: xs => (py ρ γ x).bind fun y => (pyL ρ γ xs).map fun ys => y :: ys
end
/-- own lists (b: true), shared ones (b: false), nested at most four deep -/
def pyR (w : Wd) : Nat → Bool → Nat → Option PyData
  | 0, _, _ => none
  | n + 1, b, k => ((if b then w.m[k]? else w.g[k]?).bind fun ds => (pyL (pyR w n true) (pyR w n false) ds).map PyData.list)
def Wd.py (w : Wd) (d : D) : Option PyData := Fz.py (pyR w 4 true) (pyR w 4 false) d

/-- what a shared list may hold -/
def gOk : D → Bool
  | .non => true
  | .bl _ => true
  | .int _ => true
  | .str _ => true
  | .g _ => true
  | _ => false
def mxLen : Nat := 1000000
def newL (md : Nat) (xs : List D) (w : Wd) : R (D × Wd) :=
  if xs.length ≤ mxLen then
    match md with
    | 0 => .ok (.lst xs, w)
    | 1 => .ok (.ref w.m.length, { w with m := w.m ++ [xs] })
    | _ => if xs.all gOk then .ok (.g w.g.length, { w with g := w.g ++ [xs] }) else .err
  else .err
def newT (xs : List D) (w : Wd) : R (D × Wd) := if xs.length ≤ mxLen then .ok (.tup xs, w) else .err
/-- a mutable list's items stored anew -/
def Wd.put (w : Wd) (d : D) (xs : List D) : Option Wd := match d with
  | .ref k => if k < w.m.length then some { w with m := w.m.set k xs } else none
  | .g k => if k < w.g.length ∧ xs.all gOk = true then some { w with g := w.g.set k xs } else none
  | _ => none

mutual
def okRet : D → Bool
  | .tup ds => okRets ds
  | .lst ds => okRets ds
  | .fl _ => false
  | .sc _ => false
  | .ref _ => false
  | .dic _ ds => okRets ds
  | _ => true
def okRets : List D → Bool
  | [] => true
  | d :: ds => okRet d && okRets ds
end

/-! ### syntax -/
inductive Op where | add | sub | mul | fdiv | mod | pow | band | bxor | shl
inductive Cm where | eq | ne | lt | le | gt | ge | is | isnot | isin | notin
inductive Bi where | len | abs | int | bool | repr | sum | max | min | tuple | list | sorted | all | any | str | isinst | dict
inductive Me where | append | extend | pop | insert | index | count | remove
inductive Tg where
  | nm (i : Nat)
  | tu (ts : List Tg)
mutual
inductive E where
  | v (i : Nat)
  | k (d : D)
  | gl (i : Nat)
  | op (o : Op) (md : Nat) (a b : E)
  | neg (a : E)
  | no (a : E)
  | an (a b : E)
  | or (a b : E)
  | cm (c : Cm) (a b : E)
  | ch (a : E) (c : Cm) (b : E) (c2 : Cm) (d : E)
  | ite (c a b : E)
  | tup (es : Es)
  | lst (md : Nat) (es : Es)
  | ix (a i : E)
  /-- {k: e, ..}, keys texts -/
  | dis (ks : List Str) (es : Es)
  /-- list(range(..)), tuple(range(..)) -/
  | lrg (tp : Bool) (md : Nat) (es : Es)
  | sl (md : Nat) (a : E) (lo hi : Oe)
  | rev (md : Nat) (a : E)
  | call (f : Nat) (perm : Option (List Nat)) (es ks : Es)
  | bi (b : Bi) (md : Nat) (es : Es)
  | me (m : Me) (o : E) (es : Es)
  | co (md : Nat) (t : Tg) (it : It) (c : Oe) (e : E) (own : List Nat)
inductive Es where
  | nil
  | cons (e : E) (r : Es)
inductive Oe where
  | no
  | so (e : E)
inductive It where
  | seq (e : E)
  | rng (es : Es)
  | enu (e : E)
  | zip (a b : E)
end
inductive S where
  | set (t : Tg) (e : E)
  | put (o i e : E)
  | ex (e : E)
  | ret (e : E)
  | retn
  | brk
  | cnt
  | pas
  | dead
  | ite (c : E) (a b : List S)
  | for (t : Tg) (it : It) (body : List S) (kill : List Nat) (gc : Bool)
  | whl (c : E) (body : List S) (kill : List Nat) (gc : Bool)
inductive Fl where
  | nx | rt (d : D) | bk | ct
end Fz

/-! Q2: the pure evaluator. -/
namespace Fz
open PySem

/-- what the defs are worth, the module's constants -/
structure Pg where
  F : Nat → List D → List (List D) → R (D × List (List D))
  C : List D

def mulOk (i j : Int) : Bool := decide ((-(2 ^ 64) < i ∧ i < 2 ^ 64) ∨ (-(2 ^ 64) < j ∧ j < 2 ^ 64) ∨ (i.natAbs < 2 ^ 400000 ∧ j.natAbs < 2 ^ 400000))
def divOk (i j : Int) : Bool := decide (j ≠ 0) && (decide (j.natAbs < 1073741824) || !Builtin.divisionGoesByPylong i j)
def powOk (i j : Int) : Bool := decide (0 ≤ j ∧ j ≤ 1000000 ∧ i.natAbs < 2 ^ 64)
def opF (o : Op) (md : Nat) (x y : D) (w : Wd) : R (D × Wd) :=
  match o, x, y with
  | .add, .int i, .int j => .ok (.int (i + j), w)
  | .sub, .int i, .int j => .ok (.int (i - j), w)
  | .mul, .int i, .int j => if mulOk i j then .ok (.int (i * j), w) else .err
  | .fdiv, .int i, .int j => if divOk i j then .ok (.int (i.fdiv j), w) else .err
  | .mod, .int i, .int j => if j = 0 then .err else .ok (.int (i.fmod j), w)
  | .pow, .int i, .int j => if powOk i j then .ok (.int (i ^ j.toNat), w) else .err
  | .shl, .int i, .int j => if powOk i j then .ok (.int (i * 2 ^ j.toNat), w) else .err
  | .band, .int i, .int j => .ok (.int (Builtin.bitAnd i j), w)
  | .bxor, .int i, .int j => .ok (.int (Builtin.bitXor i j), w)
  | .add, .str a, .str b => if a.length + b.length ≤ mxLen then .ok (.str (a ++ b), w) else .err
  | .add, .tup a, .tup b => newT (a ++ b) w
  | .add, x, y => if isL x && isL y then (R.of (w.seq x)).bd fun a => (R.of (w.seq y)).bd fun b => newL md (a ++ b) w else .err
  | .mul, x, .int j => if isL x && decide (-(2 ^ 63) ≤ j ∧ j < 2 ^ 63) then (R.of (w.seq x)).bd fun a => if a.length * j.toNat ≤ mxLen then newL md (List.replicate j.toNat a).flatten w else .err else .err
  | _, _, _ => .err

def isFlat : D → Bool
  | .non => true
  | .bl _ => true
  | .int _ => true
  | .str _ => true
  | _ => false
def eqF (x y : D) (w : Wd) : Option Bool := match x, y with
  | .int i, .int j => some (decide (i = j))
  | .str i, .str j => some (decide (i = j))
  | x, y => (w.py x).bind fun a => (w.py y).bind fun b => if SeqAt.shaped a && SeqAt.shaped b then some (PyData.eqv a b) else none
def flatEq : D → D → Bool
  | .non, .non => true
  | .bl a, .bl b => a == b
  | .bl a, .int b => (if a then 1 else 0) == b
  | .int a, .bl b => a == (if b then 1 else 0)
  | .int a, .int b => a == b
  | .str a, .str b => a == b
  | _, _ => false
/-- x among y's items, by their values -/
def inD (x y : D) (w : Wd) : Option Bool := (w.py x).bind fun p => (w.py y).bind fun q => match q with
  | .list ps => if SeqAt.shaped p && SeqAt.shaped q then some (ps.any fun z => PyData.eqv z p) else none
  | .tuple ps => if SeqAt.shaped p && SeqAt.shaped q then some (ps.any fun z => PyData.eqv z p) else none
  | _ => none
def cmF (c : Cm) (x y : D) (w : Wd) : Option Bool := match c, x, y with
  | .eq, x, y => eqF x y w
  | .ne, x, y => (eqF x y w).map fun b => !b
  | .lt, .int i, .int j => some (decide (i < j))
  | .le, .int i, .int j => some (decide (i ≤ j))
  | .gt, .int i, .int j => some (decide (j < i))
  | .ge, .int i, .int j => some (decide (j ≤ i))
  | .is, x, .non => some (match x with | .non => true | _ => false)
  | .isnot, x, .non => some (match x with | .non => false | _ => true)
  | .is, .bl a, .bl b => some (decide (a = b))
  | .isnot, .bl a, .bl b => some (!decide (a = b))
  | .isin, x, y => if isFlat x then (w.seq y).bind fun ys => if ys.all isFlat then some (ys.any fun z => flatEq z x) else none else inD x y w
  | .notin, x, y => if isFlat x then (w.seq y).bind fun ys => if ys.all isFlat then some (!(ys.any fun z => flatEq z x)) else none else (inD x y w).map fun b => !b
  | _, _, _ => none

def stepL (lo c : Int) : Nat → List D
  | 0 => []
  | n + 1 => .int lo :: stepL (lo + c) c n
/-- an index, of any sign -/
def ixI (n : Nat) (i : Int) : Option Nat := if 0 ≤ i then (if i < n then some i.toNat else none) else if -(n : Int) ≤ i then some (i + n).toNat else none
def cut {α : Type} (xs : List α) (lo hi : Option Int) : List α := (xs.drop (HT.sIx xs.length 0 lo)).take (HT.sIx xs.length xs.length hi - HT.sIx xs.length 0 lo)

def intD : List D → Option (List Int)
  | [] => some []
  | .int i :: r => (intD r).map fun is => i :: is
  | _ => none
/-- pairs of a text and something -/
def prsD : List D → Option (List Str × List D)
  | [] => some ([], [])
  | .tup [.str k, d] :: r => (prsD r).map fun p => (k :: p.1, d :: p.2)
  | _ => none
/-- what stands at a key -/
def lkp : List Str → List D → Str → Option D
  | k :: ks, d :: ds, x => if k = x then some d else lkp ks ds x
  | _, _, _ => none
/-- d[k] of a dict -/
def dicL : D → Str → Option D
  | .dic ks ds, k => lkp ks ds k
  | _, _ => none
def boolD : List D → Option (List Bool)
  | [] => some []
  | .bl i :: r => (boolD r).map fun is => i :: is
  | _ => none
mutual
/-- what can be shown: no dict, ints below the limit -/
def canShow : PyData → Bool
  | .none => true
  | .bool _ => true
  | .int i => decide (i.natAbs < 10 ^ 4300)
  | .str _ => true
  | .list ps => canShows ps
  | .tuple ps => canShows ps
  | .dict _ => false
def canShows : List PyData → Bool
  | [] => true
  | p :: ps => canShow p && canShows ps
end
/-- repr of data -/
def reprOk (p : PyData) : Bool := canShow p && decide (p.depth ≤ 60) && decide (p.shown.length ≤ mxLen)
def maxL : List Int → Int
  | [] => 0
  | [x] => x
  | x :: y :: r => let z := maxL (y :: r); if x < z then z else x
def minL : List Int → Int
  | [] => 0
  | [x] => x
  | x :: y :: r => let z := minL (y :: r); if z < x then z else x
/-- x ≤ y, by the first item that differs -/
def lexLe : List Int → List Int → Bool
  | [], _ => true
  | _ :: _, [] => false
  | x :: xs, y :: ys => if x < y then true else if y < x then false else lexLe xs ys
def insT (x : List Int) : List (List Int) → List (List Int)
  | [] => [x]
  | y :: ys => if lexLe x y then x :: y :: ys else y :: insT x ys
def sortT : List (List Int) → List (List Int)
  | [] => []
  | x :: xs => insT x (sortT xs)
def insI (x : Int) : List Int → List Int
  | [] => [x]
  | y :: ys => if x ≤ y then x :: y :: ys else y :: insI x ys
def sortI : List Int → List Int
  | [] => []
  | x :: xs => insI x (sortI xs)
/-- tuples of ints -/
def tupD : List D → Option (List (List Int))
  | [] => some []
  | .tup ds :: r => (intD ds).bind fun ns => (tupD r).map fun xs => ns :: xs
  | _ => none
def tupI (ns : List Int) : D := .tup (ns.map D.int)
/-- tuples of one length, few of them -/
def tupOk : List (List Int) → Bool
  | [] => true
  | x :: xs => decide (1 ≤ x.length ∧ (x :: xs).length < 64) && (x :: xs).all fun y => decide (y.length = x.length) && y.all fun i => decide (0 ≤ i ∧ i < 1000000000)
def biF (b : Bi) (md : Nat) (ds : List D) (w : Wd) : R (D × Wd) := match b, ds with
  | .len, [.str s] => if s.length ≤ mxLen then .ok (.int s.length, w) else .err
  | .len, [d] => (R.of (w.seq d)).bd fun xs => .ok (.int xs.length, w)
  | .abs, [.int i] => .ok (.int (if i < 0 then -i else i), w)
  | .int, [.int i] => .ok (.int i, w)
  | .int, [.bl k] => .ok (.int (if k then 1 else 0), w)
  | .bool, [.int i] => .ok (.bl (i != 0), w)
  | .bool, [.bl k] => .ok (.bl k, w)
  | .repr, [d] => (R.of (w.py d)).bd fun p => if reprOk p then .ok (.str p.shown, w) else .err
  | .sum, [d] => (R.of ((w.seq d).bind intD)).bd fun xs => .ok (.int xs.sum, w)
  | .sorted, [d] => if isT d then .err else (R.of (w.seq d)).bd fun xs => match intD xs with
    | some ns => newL md ((sortI ns).map D.int) w
    | none => (R.of (tupD xs)).bd fun ts => if tupOk ts then newL md ((sortT ts).map tupI) w else .err
  | .dict, [d] => if isT d then .err else (R.of ((w.seq d).bind prsD)).bd fun p => if p.1.Nodup ∧ p.1 ≠ [] ∧ p.1.length ≤ 15 then .ok (.dic p.1 p.2, w) else .err
  | .max, [.int i, .int j] => .ok (.int (if j > i then j else i), w)
  | .min, [.int i, .int j] => .ok (.int (if j < i then j else i), w)
  | .max, [d] => if isT d then .err else (R.of ((w.seq d).bind intD)).bd fun xs => if xs.isEmpty then .err else .ok (.int (maxL xs), w)
  | .min, [d] => if isT d then .err else (R.of ((w.seq d).bind intD)).bd fun xs => if xs.isEmpty then .err else .ok (.int (minL xs), w)
  | .tuple, [d] => (R.of (w.seq d)).bd fun xs => newT xs w
  | .list, [d] => (R.of (w.seq d)).bd fun xs => newL md xs w
  | .all, [d] => if isT d then .err else (R.of ((w.seq d).bind boolD)).bd fun xs => .ok (.bl (xs.all id), w)
  | .any, [d] => if isT d then .err else (R.of ((w.seq d).bind boolD)).bd fun xs => .ok (.bl (xs.any id), w)
  | _, _ => .err
def meF (m : Me) (o : D) (ds : List D) (w : Wd) : R (D × Wd) := match m, ds with
  | .append, [d] => (R.of (w.seq o)).bd fun xs => if xs.length < mxLen then (R.of (w.put o (xs ++ [d]))).bd fun w' => .ok (.non, w') else .err
  | .extend, [d] => if isL d && !deq d o then (R.of (w.seq o)).bd fun xs => (R.of (w.seq d)).bd fun ys => if xs.length + ys.length ≤ mxLen then (R.of (w.put o (xs ++ ys))).bd fun w' => .ok (.non, w') else .err else .err
  | .pop, [] => (R.of (w.seq o)).bd fun xs => (R.of xs[xs.length - 1]?).bd fun y => (R.of (w.put o xs.dropLast)).bd fun w' => .ok (y, w')
  | .pop, [.int i] => (R.of (w.seq o)).bd fun xs => (R.of (ixI xs.length i)).bd fun k => (R.of xs[k]?).bd fun y => (R.of (w.put o (xs.eraseIdx k))).bd fun w' => .ok (y, w')
  | _, _ => .err

def wipeD (σ : List (Option D)) : List Nat → List (Option D)
  | [] => σ
  | v :: vs => (wipeD σ vs).set v none
mutual
def asg : Tg → D → Wd → Option Wd
  | .nm i, d, w => some { w with σ := w.σ.set i (some d) }
  | .tu ts, .tup ds, w => asgL ts ds w
  | .tu _, _, _ => none
def asgL : List Tg → List D → Wd → Option Wd
  | [], [], w => some w
  | t :: ts, d :: ds, w => (asg t d w).bind fun w' => asgL ts ds w'
  | _, _, _ => none
end
/-- what a loop walks: the list stands as it was -/
inductive Src where
  | non | ref (k : Nat) | g (k : Nat)
def Src.ok (s : Src) (xs : List D) (w : Wd) : Bool := match s with
  | .non => true
  | .ref k => (w.m[k]?).any fun ys => deqL ys xs
  | .g k => (w.g[k]?).any fun ys => deqL ys xs
def srcOf : D → Src
  | .ref k => .ref k
  | .g k => .g k
  | _ => .non
def rngL (lo : Int) : Nat → List D
  | 0 => []
  | n + 1 => .int lo :: rngL (lo + 1) n
def rngOk (i : Int) : Bool := decide (-(2 ^ 62) ≤ i ∧ i < 2 ^ 62)
def rngF : List D → Option (List D)
  | [.int j] => if rngOk j then some (rngL 0 j.toNat) else none
  | [.int i, .int j] => if rngOk i && rngOk j then some (rngL i (j - i).toNat) else none
  | [.int i, .int j, .int c] => if decide (c ≠ 0 ∧ c.natAbs < 1073741824) && Builtin.Range.small i j c then some (stepL i c (Builtin.Range.rangeSize i j c).toNat) else none
  | _ => none
def enuL (i : Int) : List D → List D
  | [] => []
  | x :: xs => .tup [.int i, x] :: enuL (i + 1) xs
def zipD : List D → List D → List D
  | x :: xs, y :: ys => .tup [x, y] :: zipD xs ys
  | _, _ => []
/-- what is walked: the items, the lists that must stand still -/
structure Itd where
  xs : List D
  ok : Wd → Bool

def coL (bind : D → Wd → Option Wd) (test : Wd → R (Bool × Wd)) (elt : Wd → R (D × Wd)) (ok : Wd → Bool) (own : List Nat) (σ : List (Option D)) : List D → Wd → List D → R (List D × Wd)
  | [], w, acc => .ok (acc, w)
  | x :: xs, w, acc => (R.of (bind x { w with σ := wipeD σ own })).bd fun w1 => (test w1).bd fun r => if r.1 then
      (elt r.2).bd fun q => if ok { q.2 with σ := σ } && decide (acc.length < mxLen) then coL bind test elt ok own σ xs { q.2 with σ := σ } (acc ++ [q.1]) else .err
    else if ok { r.2 with σ := σ } then coL bind test elt ok own σ xs { r.2 with σ := σ } acc else .err
def forL (bind : D → Wd → Option Wd) (body : Wd → R (Fl × Wd)) (post : Wd → Option Wd) (ok : Wd → Bool) : List D → Wd → R (Fl × Wd)
  | [], w => .ok (.nx, w)
  | x :: xs, w => (R.of (bind x w)).bd fun w1 => (body w1).bd fun r => match r.1 with
    | .bk => .ok (.nx, r.2)
    | .rt d => .ok (.rt d, r.2)
    | _ => (R.of (post r.2)).bd fun w3 => if ok w3 then forL bind body post ok xs w3 else .err
def whlL (test : Wd → R (Bool × Wd)) (body : Wd → R (Fl × Wd)) (post : Wd → Option Wd) : Nat → Wd → R (Fl × Wd)
  | 0, _ => .err
  | n + 1, w => (test w).bd fun r => if r.1 then (body r.2).bd fun q => match q.1 with
      | .bk => .ok (.nx, q.2)
      | .rt d => .ok (.rt d, q.2)
      | _ => (R.of (post q.2)).bd fun w3 => whlL test body post n w3
    else .ok (.nx, r.2)
def postF (kill : List Nat) (gc : Bool) (L : Nat) (w : Wd) : Option Wd :=
  let w1 : Wd := { w with σ := wipeD w.σ kill }
  if gc then w1.gc L else some w1

/-- arguments in the parameters' order -/
def arr {α : Type} (p : List Nat) (xs : List α) : Option (List α) := match p with
  | [] => some []
  | i :: r => (xs[i]?).bind fun x => (arr r xs).map fun ys => x :: ys
def arrD {α : Type} : Option (List Nat) → List α → Option (List α)
  | none, xs => some xs
  | some p, xs => arr p xs
variable (P : Pg)
mutual
def evE : E → Wd → R (D × Wd)
  | .v i, w => match w.σ[i]? with
    | some (some d) => .ok (d, w)
    | _ => .err
  | .k d, w => .ok (d, w)
  | .gl i, w => (R.of P.C[i]?).bd fun d => .ok (d, w)
  | .op o md a b, w => (evE a w).bd fun x => (evE b x.2).bd fun y => opF o md x.1 y.1 y.2
  | .neg a, w => (evE a w).bd fun x => match x.1 with
    | .int i => .ok (.int (-i), x.2)
    | _ => .err
  | .no a, w => (evE a w).bd fun x => (R.of (x.2.tru x.1)).bd fun b => .ok (.bl (!b), x.2)
  | .an a b, w => (evE a w).bd fun x => (R.of (x.2.tru x.1)).bd fun c => if c then evE b x.2 else .ok x
  | .or a b, w => (evE a w).bd fun x => (R.of (x.2.tru x.1)).bd fun c => if c then .ok x else evE b x.2
  | .cm c a b, w => (evE a w).bd fun x => (evE b x.2).bd fun y => (R.of (cmF c x.1 y.1 y.2)).bd fun r => .ok (.bl r, y.2)
  | .ch a c b c2 d, w => (evE a w).bd fun x => (evE b x.2).bd fun y => (R.of (cmF c x.1 y.1 y.2)).bd fun r => if r then
      (evE d y.2).bd fun z => (R.of (cmF c2 y.1 z.1 z.2)).bd fun q => .ok (.bl q, z.2) else .ok (.bl false, y.2)
  | .ite c a b, w => (evE c w).bd fun x => (R.of (x.2.tru x.1)).bd fun r => if r then evE a x.2 else evE b x.2
  | .tup es, w => (evEs es w).bd fun x => newT x.1 x.2
  | .lst md es, w => (evEs es w).bd fun x => newL md x.1 x.2
  | .ix a i, w => (evE a w).bd fun x => (evE i x.2).bd fun y => match y.1 with
    | .int k => (R.of (y.2.seq x.1)).bd fun xs => (R.of ((ixI xs.length k).bind fun j => xs[j]?)).bd fun d => .ok (d, y.2)
    | .str k => (R.of (dicL x.1 k)).bd fun d => .ok (d, y.2)
    | _ => .err
  | .lrg tp md es, w => (evEs es w).bd fun x => (R.of (rngF x.1)).bd fun xs => if tp then newT xs x.2 else newL md xs x.2
  | .dis ks es, w => (evEs es w).bd fun x => if ks.Nodup ∧ ks ≠ [] ∧ ks.length ≤ 15 ∧ ks.length = x.1.length then .ok (.dic ks x.1, x.2) else .err
  | .sl md a lo hi, w => (evE a w).bd fun x => (evO lo x.2).bd fun l => (evO hi l.2).bd fun h => (R.of (h.2.seq x.1)).bd fun xs =>
      if isT x.1 then newT (cut xs l.1 h.1) h.2 else newL md (cut xs l.1 h.1) h.2
  | .rev md a, w => (evE a w).bd fun x => (R.of (x.2.seq x.1)).bd fun xs => if isT x.1 then .err else newL md xs.reverse x.2
  | .call f perm es ks, w => (evEs es w).bd fun x => (evEs ks x.2).bd fun y => (R.of (lendL y.2 (x.1 ++ y.1))).bd fun ds => (R.of (arrD perm ds)).bd fun ds =>
      (P.F f ds y.2.g).bd fun r => .ok (r.1, { y.2 with g := r.2 })
  | .bi b md es, w => (evEs es w).bd fun x => biF b md x.1 x.2
  | .me m o es, w => (evE o w).bd fun x => (evEs es x.2).bd fun y => meF m x.1 y.1 y.2
  | .co md t it c e own, w => (evI it w).bd fun x => (coL (asg t) (evC c) (evE e) x.1.ok own x.2.σ x.1.xs x.2 []).bd fun r => newL md r.1 r.2
def evEs : Es → Wd → R (List D × Wd)
  | .nil, w => .ok ([], w)
  | .cons e r, w => (evE e w).bd fun x => (evEs r x.2).bd fun y => .ok (x.1 :: y.1, y.2)
def evO : Oe → Wd → R (Option Int × Wd)
  | .no, w => .ok (none, w)
  | .so e, w => (evE e w).bd fun x => match x.1 with
    | .int i => .ok (some i, x.2)
    | _ => .err
def evC : Oe → Wd → R (Bool × Wd)
  | .no, w => .ok (true, w)
  | .so e, w => (evE e w).bd fun x => (R.of (x.2.tru x.1)).bd fun b => .ok (b, x.2)
def evI : It → Wd → R (Itd × Wd)
  | .seq e, w => (evE e w).bd fun x => (R.of (x.2.seq x.1)).bd fun xs => .ok (⟨xs, (srcOf x.1).ok xs⟩, x.2)
  | .rng es, w => (evEs es w).bd fun x => (R.of (rngF x.1)).bd fun xs => .ok (⟨xs, fun _ => true⟩, x.2)
  | .enu e, w => (evE e w).bd fun x => (R.of (x.2.seq x.1)).bd fun xs => .ok (⟨enuL 0 xs, (srcOf x.1).ok xs⟩, x.2)
  | .zip a b, w => (evE a w).bd fun x => (evE b x.2).bd fun y => (R.of (y.2.seq x.1)).bd fun xs => (R.of (y.2.seq y.1)).bd fun ys =>
      if isT x.1 == isT y.1 then .ok (⟨zipD xs ys, fun w => (srcOf x.1).ok xs w && (srcOf y.1).ok ys w⟩, y.2) else .err
end
/-- a test: the truth of the value -/
def evT (e : E) (w : Wd) : R (Bool × Wd) := (evE P e w).bd fun x => (R.of (x.2.tru x.1)).bd fun b => .ok (b, x.2)
def fuel : Nat := 1000000000000
mutual
def exS : S → Wd → R (Fl × Wd)
  | .set t e, w => (evE P e w).bd fun x => (R.of (asg t x.1 x.2)).bd fun w' => .ok (.nx, w')
  | .put o i e, w => (evE P e w).bd fun z => (evE P o z.2).bd fun x => (evE P i x.2).bd fun y => match y.1 with
    | .int k => (R.of (y.2.seq x.1)).bd fun xs => (R.of (ixI xs.length k)).bd fun j => (R.of (y.2.put x.1 (xs.set j z.1))).bd fun w' => .ok (.nx, w')
    | _ => .err
  | .ex e, w => (evE P e w).bd fun x => .ok (.nx, x.2)
  | .ret e, w => (evE P e w).bd fun x => .ok (.rt x.1, x.2)
  | .retn, w => .ok (.rt .non, w)
  | .brk, w => .ok (.bk, w)
  | .cnt, w => .ok (.ct, w)
  | .pas, w => .ok (.nx, w)
  | .dead, _ => .err
  | .ite c a b, w => (evT P c w).bd fun x => if x.1 then exB a x.2 else exB b x.2
  | .for t it body kill gc, w => (evI P it w).bd fun x => forL (asg t) (exB body) (postF kill gc x.2.m.length) x.1.ok x.1.xs x.2
  | .whl c body kill gc, w => whlL (evT P c) (exB body) (postF kill gc w.m.length) fuel w
def exB : List S → Wd → R (Fl × Wd)
  | [], w => .ok (.nx, w)
  | s :: r, w => (exS s w).bd fun x => match x.1 with
    | .nx => exB r x.2
    | f => .ok (f, x.2)
end
/-- a def: its parameters in the first slots; its end without a return gives None -/
def exD (n : Nat) (body : List S) (ds : List D) (g : List (List D)) : R (D × List (List D)) :=
  (exB P body ⟨ds.map some ++ List.replicate (n - ds.length) none, [], g⟩).bd fun x => match x.1 with
    | .rt d => (R.of (give x.2 d)).bd fun d' => .ok (d', x.2.g)
    | .nx => .ok (.non, x.2.g)
    | _ => .err
end Fz

/-! Q3: data stand in the heap. -/
namespace Fz
open PySem PySem.Spec PyProof.Rows L2

/-- own lists, shared ones, those that somebody further out may still change -/
structure Ad where
  mu : List Addr
  ga : List Addr
  bad : List Addr
  /-- lists that a comprehension is making -/
  cn : List Addr
/-- locked or written: never changes -/
def SqF (K : PySem.W.Frag) (H : Hp) (a : Addr) (vs : List V) : Prop := (∃ o, H a = some (.frz o (.lst vs))) ∨ SqL K (fun _ => none) a vs
mutual
def RD (K : PySem.W.Frag) (H : Hp) (A : Ad) : D → V → Prop
  | .non, v => v = .non
  | .bl b, v => v = .bl b
  | .int i, v => v = .int i
  | .str s, v => v = .str s
  | .tup ds, v => ∃ a vs, v = .ref a ∧ SqT K H a vs ∧ RDs K H A ds vs
  | .lst ds, v => ∃ a vs, v = .ref a ∧ H a = some (.lst vs) ∧ (a ∉ A.mu ∧ a ∉ A.ga ∧ a ∉ A.cn) ∧ a ∉ A.bad ∧ RDs K H A ds vs
  | .fl ds, v => ∃ a vs, v = .ref a ∧ H a = some (.lst vs) ∧ (a ∉ A.mu ∧ a ∉ A.ga ∧ a ∉ A.cn) ∧ RDs K H A ds vs
  | .sc ds, v => ∃ a vs, v = .ref a ∧ SqF K H a vs ∧ RDs K H A ds vs
  | .ref k, v => ∃ a, A.mu[k]? = some a ∧ v = .ref a
  | .g k, v => ∃ a, A.ga[k]? = some a ∧ v = .ref a
  | .dic ks ds, v => ∃ a kvs, v = .ref a ∧ H a = some (.dK kvs) ∧ (a ∉ A.mu ∧ a ∉ A.ga ∧ a ∉ A.cn) ∧ a ∉ A.bad ∧ (ks ≠ [] ∧ ks.Nodup ∧ kvs.map Prod.fst = ks.map Sum.inr) ∧ RDs K H A ds (kvs.map Prod.snd)
def RDs (K : PySem.W.Frag) (H : Hp) (A : Ad) : List D → List V → Prop
  | [], vs => vs = []
  | d :: ds, vs => ∃ v r, vs = v :: r ∧ RD K H A d v ∧ RDs K H A ds r
end
/-- may not be changed by who stands here -/
def Ad.out (A : Ad) (a : Addr) : Prop := a ∉ A.mu ∧ a ∉ A.ga ∧ a ∉ A.cn
structure Car (A : Ad) (H : Hp) (A' : Ad) (H' : Hp) : Prop where
  kept : ∀ a o, H a = some o → A.out a → H' a = some o ∧ A'.out a
  tup : ∀ a vs, H a = some (.tup vs) → H' a = some (.tup vs)
  frz : ∀ a o u, H a = some (.frz o u) → H' a = some (.frz o u)
  mu : ∀ (k : Nat) (a : Addr), A.mu[k]? = some a → A'.mu[k]? = some a
  ga : ∀ (k : Nat) (a : Addr), A.ga[k]? = some a → A'.ga[k]? = some a
  bad : A'.bad = A.bad
structure Step (A : Ad) (H : Hp) (A' : Ad) (H' : Hp) : Prop extends Car A H A' H' where
  cn : A'.cn = A.cn
  cnk : ∀ a ∈ A.cn, H' a = H a
theorem Car.refl (A : Ad) (H : Hp) : Car A H A H := ⟨fun _ _ h a => ⟨h, a⟩, fun _ _ h => h, fun _ _ _ h => h, fun _ _ h => h, fun _ _ h => h, rfl⟩
theorem Step.refl (A : Ad) (H : Hp) : Step A H A H := ⟨Car.refl A H, rfl, fun _ _ => rfl⟩
theorem Car.trans {A A1 A2 : Ad} {H H1 H2 : Hp} (a : Car A H A1 H1) (b : Car A1 H1 A2 H2) : Car A H A2 H2 :=
  ⟨fun c o h x => let ⟨p, q⟩ := a.kept c o h x; b.kept c o p q, fun c vs h => b.tup c vs (a.tup c vs h), fun c o u h => b.frz c o u (a.frz c o u h),
    fun k c h => b.mu k c (a.mu k c h), fun k c h => b.ga k c (a.ga k c h), b.bad.trans a.bad⟩
theorem Step.trans {A A1 A2 : Ad} {H H1 H2 : Hp} (a : Step A H A1 H1) (b : Step A1 H1 A2 H2) : Step A H A2 H2 :=
  ⟨a.toCar.trans b.toCar, b.cn.trans a.cn, fun c h => (b.cnk c (by rw [a.cn]; exact h)).trans (a.cnk c h)⟩
section
variable {K : PySem.W.Frag} {H H' : Hp} {A A' : Ad}
theorem SqF.sq {a : Addr} {vs : List V} (h : SqF K H a vs) : SqL K H a vs := by
  rcases h with ⟨o, h⟩ | h
  · exact .inl (.inr ⟨o, h⟩)
  · rcases h with (h | ⟨o, h⟩) | h
    · cases h
    · cases h
    · exact .inr h
theorem SqT.step {a : Addr} {vs : List V} (s : Car A H A' H') (h : SqT K H a vs) : SqT K H' a vs := by
  rcases h with (h | ⟨o, h⟩) | h
  · exact .inl (.inl (s.tup _ _ h))
  · exact .inl (.inr ⟨o, s.frz _ _ _ h⟩)
  · exact .inr h
theorem SqF.step {a : Addr} {vs : List V} (s : Car A H A' H') (h : SqF K H a vs) : SqF K H' a vs := by
  rcases h with ⟨o, h⟩ | h
  · exact .inl ⟨o, s.frz _ _ _ h⟩
  · exact .inr h
mutual
theorem RD.step (s : Car A H A' H') : ∀ (d : D) (v : V), RD K H A d v → RD K H' A' d v
  | .non, _, h => h
  | .bl _, _, h => h
  | .int _, _, h => h
  | .str _, _, h => h
  | .tup ds, _, h => by
    obtain ⟨a, vs, e, q, r⟩ := h
    exact ⟨a, vs, e, SqT.step s q, RDs.step s ds vs r⟩
  | .lst ds, _, h => by
    obtain ⟨a, vs, e, q, x, z, r⟩ := h
    obtain ⟨q', x'⟩ := s.kept a _ q x
    exact ⟨a, vs, e, q', x', by rw [s.bad]; exact z, RDs.step s ds vs r⟩
  | .fl ds, _, h => by
    obtain ⟨a, vs, e, q, x, r⟩ := h
    obtain ⟨q', x'⟩ := s.kept a _ q x
    exact ⟨a, vs, e, q', x', RDs.step s ds vs r⟩
  | .sc ds, _, h => by
    obtain ⟨a, vs, e, q, r⟩ := h
    exact ⟨a, vs, e, SqF.step s q, RDs.step s ds vs r⟩
  | .ref k, _, h => by
    obtain ⟨a, e, q⟩ := h
    exact ⟨a, s.mu k a e, q⟩
  | .g k, _, h => by
    obtain ⟨a, e, q⟩ := h
    exact ⟨a, s.ga k a e, q⟩
  | .dic ks ds, _, h => by
    obtain ⟨a, kvs, e, q, x, z, y, r⟩ := h
    obtain ⟨q', x'⟩ := s.kept a _ q x
    exact ⟨a, kvs, e, q', x', by rw [s.bad]; exact z, y, RDs.step s ds _ r⟩
theorem RDs.step (s : Car A H A' H') : ∀ (ds : List D) (vs : List V), RDs K H A ds vs → RDs K H' A' ds vs
  | [], _, h => h
  | d :: ds, _, h => by
    obtain ⟨v, r, e, x, y⟩ := h
    exact ⟨v, r, e, RD.step s d v x, RDs.step s ds r y⟩
end
theorem RDs.length : ∀ {ds : List D} {vs : List V}, RDs K H A ds vs → vs.length = ds.length
  | [], _, h => by rw [show _ = [] from h]; rfl
  | d :: ds, _, h => by
    obtain ⟨v, r, e, x, y⟩ := h
    rw [e, List.length_cons, List.length_cons, RDs.length y]
theorem RDs.get : ∀ {ds : List D} {vs : List V} {k : Nat} {d : D}, RDs K H A ds vs → ds[k]? = some d → ∃ v, vs[k]? = some v ∧ RD K H A d v
  | [], _, _, _, _, e => by simp at e
  | x :: ds, _, 0, _, h, e => by
    obtain ⟨v, r, e', p, q⟩ := h
    subst e'
    have e2 : x = _ := Option.some.inj e
    subst e2
    exact ⟨v, rfl, p⟩
  | x :: ds, _, k + 1, _, h, e => by
    obtain ⟨v, r, e', p, q⟩ := h
    subst e'
    exact RDs.get (k := k) q (by simpa using e)
theorem RDs.append : ∀ {ds es : List D} {vs us : List V}, RDs K H A ds vs → RDs K H A es us → RDs K H A (ds ++ es) (vs ++ us)
  | [], _, _, _, h, q => by rw [show _ = [] from h]; exact q
  | d :: ds, _, _, _, h, q => by
    obtain ⟨v, r, e, x, y⟩ := h
    subst e
    exact ⟨v, r ++ _, rfl, x, RDs.append y q⟩
theorem RDs.drop : ∀ {ds : List D} {vs : List V} (n : Nat), RDs K H A ds vs → RDs K H A (ds.drop n) (vs.drop n)
  | _, _, 0, h => h
  | [], _, n + 1, h => by rw [show _ = [] from h]; exact (rfl : _ = _)
  | d :: ds, _, n + 1, h => by
    obtain ⟨v, r, e, x, y⟩ := h
    subst e
    exact RDs.drop n y
theorem RDs.take : ∀ {ds : List D} {vs : List V} (n : Nat), RDs K H A ds vs → RDs K H A (ds.take n) (vs.take n)
  | _, _, 0, h => (rfl : _ = _)
  | [], _, n + 1, h => by rw [show _ = [] from h]; exact (rfl : _ = _)
  | d :: ds, _, n + 1, h => by
    obtain ⟨v, r, e, x, y⟩ := h
    subst e
    exact ⟨v, _, rfl, x, RDs.take n y⟩
theorem RDs.one {d : D} {v : V} (h : RD K H A d v) : RDs K H A [d] [v] := ⟨v, [], rfl, h, rfl⟩
theorem RDs.reverse : ∀ {ds : List D} {vs : List V}, RDs K H A ds vs → RDs K H A ds.reverse vs.reverse
  | [], _, h => by rw [show _ = [] from h]; exact (rfl : _ = _)
  | d :: ds, _, h => by
    obtain ⟨v, r, e, x, y⟩ := h
    subst e
    rw [List.reverse_cons, List.reverse_cons]
    exact RDs.append (RDs.reverse y) (RDs.one x)
theorem RDs.set : ∀ {ds : List D} {vs : List V} (n : Nat) {d : D} {v : V}, RDs K H A ds vs → RD K H A d v → RDs K H A (ds.set n d) (vs.set n v)
  | [], _, n, _, _, h, q => by rw [show _ = [] from h]; exact (rfl : _ = _)
  | d :: ds, _, 0, _, _, h, q => by
    obtain ⟨v, r, e, x, y⟩ := h
    subst e
    exact ⟨_, r, rfl, q, y⟩
  | d :: ds, _, n + 1, _, _, h, q => by
    obtain ⟨v, r, e, x, y⟩ := h
    subst e
    exact ⟨v, _, rfl, x, RDs.set n y q⟩
theorem RDs.eraseIdx : ∀ {ds : List D} {vs : List V} (n : Nat), RDs K H A ds vs → RDs K H A (ds.eraseIdx n) (vs.eraseIdx n)
  | [], _, n, h => by rw [show _ = [] from h]; exact (rfl : _ = _)
  | d :: ds, _, 0, h => by
    obtain ⟨v, r, e, x, y⟩ := h
    subst e
    exact y
  | d :: ds, _, n + 1, h => by
    obtain ⟨v, r, e, x, y⟩ := h
    subst e
    exact ⟨v, _, rfl, x, RDs.eraseIdx n y⟩
theorem RDs.dropLast {ds : List D} {vs : List V} (h : RDs K H A ds vs) : RDs K H A ds.dropLast vs.dropLast := by
  rw [List.dropLast_eq_take, List.dropLast_eq_take, h.length]
  exact h.take _
theorem RDs.rep : ∀ (n : Nat) {ds : List D} {vs : List V}, RDs K H A ds vs → RDs K H A (List.replicate n ds).flatten (List.replicate n vs).flatten
  | 0, _, _, _ => (rfl : _ = _)
  | n + 1, _, _, h => by
    rw [List.replicate_succ, List.replicate_succ, List.flatten_cons, List.flatten_cons]
    exact RDs.append h (RDs.rep n h)
theorem RDs.cons_iff {d : D} {ds : List D} {v : V} {vs : List V} : RDs K H A (d :: ds) (v :: vs) ↔ RD K H A d v ∧ RDs K H A ds vs := by
  constructor
  · rintro ⟨v', r, e, x, y⟩
    cases e
    exact ⟨x, y⟩
  · rintro ⟨x, y⟩
    exact ⟨v, vs, rfl, x, y⟩
theorem RDs.cutD {ds : List D} {vs : List V} (lo hi : Option Int) (h : RDs K H A ds vs) : RDs K H A (cut ds lo hi) (cutV vs lo hi) := by
  unfold cut cutV
  rw [h.length]
  exact (h.drop _).take _
theorem RDs.ints : ∀ {ds : List D} {vs : List V} {ns : List Int}, RDs K H A ds vs → intD ds = some ns → vs = ns.map V.int
  | [], _, ns, h, e => by
    rw [show _ = [] from h]
    cases e
    rfl
  | d :: ds, _, ns, h, e => by
    obtain ⟨v, r, e', x, y⟩ := h
    subst e'
    cases d with
    | int i =>
      simp only [intD, Option.map_eq_some_iff] at e
      obtain ⟨is, e1, rfl⟩ := e
      rw [RDs.ints y e1, show v = .int i from x]
      rfl
    | _ => simp [intD] at e
theorem RDs.bools : ∀ {ds : List D} {vs : List V} {ns : List Bool}, RDs K H A ds vs → boolD ds = some ns → vs = ns.map V.bl
  | [], _, ns, h, e => by
    rw [show _ = [] from h]
    cases e
    rfl
  | d :: ds, _, ns, h, e => by
    obtain ⟨v, r, e', x, y⟩ := h
    subst e'
    cases d with
    | bl i =>
      simp only [boolD, Option.map_eq_some_iff] at e
      obtain ⟨is, e1, rfl⟩ := e
      rw [RDs.bools y e1, show v = .bl i from x]
      rfl
    | _ => simp [boolD] at e
end

/-! ### mutable lists -/
def RL (K : PySem.W.Frag) (H : Hp) (A : Ad) : List Addr → List (List D) → Prop
  | [], ms => ms = []
  | a :: as, ms => ∃ xs r vs, ms = xs :: r ∧ H a = some (.lst vs) ∧ RDs K H A xs vs ∧ RL K H A as r
section
variable {K : PySem.W.Frag} {H H' : Hp} {A A' : Ad}
theorem RL.length : ∀ {as : List Addr} {ms : List (List D)}, RL K H A as ms → ms.length = as.length
  | [], _, h => by rw [show _ = [] from h]; rfl
  | a :: as, _, h => by
    obtain ⟨xs, r, vs, e, x, y, z⟩ := h
    rw [e, List.length_cons, List.length_cons, RL.length z]
theorem RL.get : ∀ {as : List Addr} {ms : List (List D)} {k : Nat} {a : Addr}, RL K H A as ms → as[k]? = some a → ∃ xs vs, ms[k]? = some xs ∧ H a = some (.lst vs) ∧ RDs K H A xs vs
  | [], _, _, _, _, e => by simp at e
  | a :: as, _, 0, _, h, e => by
    obtain ⟨xs, r, vs, e', x, y, z⟩ := h
    subst e'
    have e2 : a = _ := Option.some.inj e
    subst e2
    exact ⟨xs, vs, rfl, x, y⟩
  | a :: as, _, k + 1, _, h, e => by
    obtain ⟨xs, r, vs, e', x, y, z⟩ := h
    subst e'
    exact RL.get (k := k) z (by simpa using e)
theorem RL.tracked : ∀ {as : List Addr} {ms : List (List D)} {a : Addr}, RL K H A as ms → a ∈ as → ∃ vs, H a = some (.lst vs)
  | [], _, _, _, e => by simp at e
  | b :: as, _, a, h, e => by
    obtain ⟨xs, r, vs, e', x, y, z⟩ := h
    rcases List.mem_cons.mp e with rfl | e
    · exact ⟨vs, x⟩
    · exact RL.tracked z e
/-- the lists at as stand; what they hold is carried over -/
theorem RL.carry (c : ∀ xs vs, RDs K H A xs vs → RDs K H' A' xs vs) : ∀ {as : List Addr} {ms : List (List D)}, (∀ a ∈ as, ∀ vs, H a = some (.lst vs) → H' a = some (.lst vs)) → RL K H A as ms → RL K H' A' as ms
  | [], _, _, h => h
  | a :: as, _, k, h => by
    obtain ⟨xs, r, vs, e, x, y, z⟩ := h
    exact ⟨xs, r, vs, e, k a List.mem_cons_self vs x, c _ _ y, RL.carry c (fun b hb => k b (List.mem_cons_of_mem _ hb)) z⟩
theorem RL.append : ∀ {as bs : List Addr} {ms ns : List (List D)}, RL K H A as ms → RL K H A bs ns → RL K H A (as ++ bs) (ms ++ ns)
  | [], _, _, _, h, q => by rw [show _ = [] from h]; exact q
  | a :: as, _, _, _, h, q => by
    obtain ⟨xs, r, vs, e, x, y, z⟩ := h
    subst e
    exact ⟨xs, r ++ _, vs, rfl, x, y, RL.append z q⟩
/-- one list is stored anew -/
theorem RL.store {a : Addr} {vs : List V} {xs : List D} (c : ∀ xs vs, RDs K H A xs vs → RDs K (upd H a (.lst vs)) A xs vs) (cx : ∀ ys us, RDs K H A ys us → RDs K (upd H a (.lst vs)) A ys us) (hx : RDs K H A xs vs) :
    ∀ {as : List Addr} {ms : List (List D)} {k : Nat}, as.Nodup → RL K H A as ms → as[k]? = some a → RL K (upd H a (.lst vs)) A as (ms.set k xs)
  | [], _, _, _, _, e => by simp at e
  | b :: as, _, 0, nd, h, e => by
    obtain ⟨ys, r, us, e', x, y, z⟩ := h
    subst e'
    have e2 : b = a := Option.some.inj e
    subst e2
    refine ⟨xs, r, vs, rfl, upd_same, cx _ _ hx, RL.carry cx (fun c hc ws q => ?_) z⟩
    rw [upd_ne (show c ≠ b from fun z => (List.nodup_cons.mp nd).1 (z ▸ hc))]
    exact q
  | b :: as, _, k + 1, nd, h, e => by
    obtain ⟨ys, r, us, e', x, y, z⟩ := h
    subst e'
    have e2 : as[k]? = some a := by simpa using e
    have hm : a ∈ as := List.mem_of_getElem? e2
    refine ⟨ys, _, us, rfl, ?_, cx _ _ y, RL.store c cx hx (List.nodup_cons.mp nd).2 z e2⟩
    rw [upd_ne (show b ≠ a from fun z => (List.nodup_cons.mp nd).1 (z.symm ▸ hm))]
    exact x
end

/-- the evaluator's state and the slots with their heap -/
structure Sim (K : PySem.W.Frag) (H : Hp) (A : Ad) (w : Wd) (σ : L2.St) : Prop where
  loc : ∀ (i : Nat) (d : D), w.σ[i]? = some (some d) → ∃ v, σ[i]? = some (some v) ∧ RD K H A d v
  len : w.σ.length = σ.length
  mu : RL K H A A.mu w.m
  ga : RL K H A A.ga w.g
  nd : A.mu.Nodup
  ndg : A.ga.Nodup
  dj : ∀ a ∈ A.mu, a ∉ A.ga ∧ a ∉ A.bad
  djg : ∀ a ∈ A.bad, a ∉ A.ga
  bt : ∀ a ∈ A.bad, ∃ o, H a = some o
  cnt : ∀ a ∈ A.cn, ∃ vs, H a = some (.lst vs)
  cnd : ∀ a ∈ A.cn, a ∉ A.mu ∧ a ∉ A.ga ∧ a ∉ A.bad
  gk : ∀ xs ∈ w.g, xs.all gOk = true
section
variable {K : PySem.W.Frag} {H H' : Hp} {A A' : Ad} {w : Wd} {σ : L2.St}
theorem Sim.fresh (S : Sim K H A w σ) {p : Addr} (hp : H p = none) : A.out p ∧ p ∉ A.bad := by
  refine ⟨⟨fun h => ?_, fun h => ?_, fun h => ?_⟩, fun h => ?_⟩
  · obtain ⟨vs, e⟩ := S.mu.tracked h
    rw [hp] at e
    cases e
  · obtain ⟨vs, e⟩ := S.ga.tracked h
    rw [hp] at e
    cases e
  · obtain ⟨vs, e⟩ := S.cnt p h
    rw [hp] at e
    cases e
  · obtain ⟨o, e⟩ := S.bt p h
    rw [hp] at e
    cases e
/-- what a value's sequence is -/
theorem Sim.seq (S : Sim K H A w σ) {d : D} {v : V} {xs : List D} (r : RD K H A d v) (e : w.seq d = some xs) :
    ∃ a vs, v = .ref a ∧ RDs K H A xs vs ∧ ((isT d = true ∧ SqT K H a vs) ∨ (isT d = false ∧ SqL K H a vs)) := by
  cases d with
  | tup ds =>
    obtain ⟨a, vs, rfl, q, h⟩ := r
    cases e
    exact ⟨a, vs, rfl, h, .inl ⟨rfl, q⟩⟩
  | lst ds =>
    obtain ⟨a, vs, rfl, q, _, _, h⟩ := r
    cases e
    exact ⟨a, vs, rfl, h, .inr ⟨rfl, SqL.of q⟩⟩
  | fl ds =>
    obtain ⟨a, vs, rfl, q, _, h⟩ := r
    cases e
    exact ⟨a, vs, rfl, h, .inr ⟨rfl, SqL.of q⟩⟩
  | sc ds =>
    obtain ⟨a, vs, rfl, q, h⟩ := r
    cases e
    exact ⟨a, vs, rfl, h, .inr ⟨rfl, q.sq⟩⟩
  | ref k =>
    obtain ⟨a, q, rfl⟩ := r
    obtain ⟨ys, vs, e1, e2, e3⟩ := S.mu.get q
    have e' : w.m[k]? = some xs := e
    rw [e1] at e'
    cases e'
    exact ⟨a, vs, rfl, e3, .inr ⟨rfl, SqL.of e2⟩⟩
  | g k =>
    obtain ⟨a, q, rfl⟩ := r
    obtain ⟨ys, vs, e1, e2, e3⟩ := S.ga.get q
    have e' : w.g[k]? = some xs := e
    rw [e1] at e'
    cases e'
    exact ⟨a, vs, rfl, e3, .inr ⟨rfl, SqL.of e2⟩⟩
  | _ => cases e
/-- a tracked list -/
theorem Sim.lst (S : Sim K H A w σ) {d : D} {v : V} {xs : List D} (r : RD K H A d v) (l : isL d = true) (e : w.seq d = some xs) :
    ∃ a vs, v = .ref a ∧ RDs K H A xs vs ∧ H a = some (.lst vs) := by
  cases d with
  | lst ds =>
    obtain ⟨a, vs, rfl, q, _, _, h⟩ := r
    cases e
    exact ⟨a, vs, rfl, h, q⟩
  | fl ds =>
    obtain ⟨a, vs, rfl, q, _, h⟩ := r
    cases e
    exact ⟨a, vs, rfl, h, q⟩
  | ref k =>
    obtain ⟨a, q, rfl⟩ := r
    obtain ⟨ys, vs, e1, e2, e3⟩ := S.mu.get q
    have e' : w.m[k]? = some xs := e
    rw [e1] at e'
    cases e'
    exact ⟨a, vs, rfl, e3, e2⟩
  | g k =>
    obtain ⟨a, q, rfl⟩ := r
    obtain ⟨ys, vs, e1, e2, e3⟩ := S.ga.get q
    have e' : w.g[k]? = some xs := e
    rw [e1] at e'
    cases e'
    exact ⟨a, vs, rfl, e3, e2⟩
  | _ => cases l
theorem upd_some {p a : Addr} {o u : HO} (hp : H p = none) (h : H a = some u) : upd H p o a = some u := by
  rw [upd_ne (ne_of_none h hp)]
  exact h
/-- a new object that is no own list -/
theorem Step.new {p : Addr} {o : HO} (hp : H p = none) (hc : p ∉ A.cn) : Step A H A (upd H p o) :=
  ⟨⟨fun a u h x => ⟨upd_some hp h, x⟩, fun a vs h => upd_some hp h, fun a o u h => upd_some hp h, fun _ _ h => h, fun _ _ h => h, rfl⟩, rfl, fun a h => upd_ne (fun z => hc (z ▸ h))⟩
/-- the state is carried over a step that changes no own list -/
theorem Sim.carry (S : Sim K H A w σ) (s : Step A H A H') (k : ∀ a vs, H a = some (.lst vs) → H' a = some (.lst vs)) : Sim K H' A w σ where
  loc := fun i d e => let ⟨v, e1, r⟩ := S.loc i d e; ⟨v, e1, r.step s.toCar d v⟩
  len := S.len
  mu := RL.carry (fun xs vs h => h.step s.toCar) (fun a _ vs h => k a vs h) S.mu
  ga := RL.carry (fun xs vs h => h.step s.toCar) (fun a _ vs h => k a vs h) S.ga
  nd := S.nd
  ndg := S.ndg
  dj := S.dj
  djg := S.djg
  bt := fun a h => let ⟨o, e⟩ := S.bt a h; ⟨o, (s.kept a o e ⟨fun z => (S.dj a z).2 h, S.djg a h, fun z => (S.cnd a z).2.2 h⟩).1⟩
  cnt := fun a h => let ⟨vs, e⟩ := S.cnt a h; ⟨vs, k a vs e⟩
  cnd := S.cnd
  gk := S.gk
theorem Sim.new (S : Sim K H A w σ) {p : Addr} {o : HO} (hp : H p = none) : Sim K (upd H p o) A w σ := S.carry (Step.new hp (S.fresh hp).1.2.2) fun a vs h => upd_some hp h
theorem nodup_snoc {l : List Addr} {p : Addr} (h : l.Nodup) (hp : p ∉ l) : (l ++ [p]).Nodup := by
  rw [List.nodup_append]
  refine ⟨h, by simp, fun a ha b hb => ?_⟩
  have e : b = p := by simpa using hb
  subst e
  exact fun z => hp (z ▸ ha)
theorem not_snoc {l : List Addr} {p a : Addr} (h : a ∉ l) (hp : a ≠ p) : a ∉ l ++ [p] := fun z => by
  rcases List.mem_append.mp z with z | z
  · exact h z
  · exact hp (by simpa using z)
theorem get_snoc {α : Type} {l : List α} {k : Nat} {a x : α} (h : l[k]? = some a) : (l ++ [x])[k]? = some a := by
  obtain ⟨hk, e⟩ := List.getElem?_eq_some_iff.mp h
  rw [List.getElem?_append_left hk]
  exact h
/-- a new list, as it is asked for -/
theorem newL_ok {md : Nat} {xs : List D} {vs : List V} {d : D} {w' : Wd} (e : newL md xs w = .ok (d, w')) (S : Sim K H A w σ) (r : RDs K H A xs vs) :
    vs.length ≤ sizeLine ∧ ∀ p, H p = none → ∃ A', Step A H A' (upd H p (.lst vs)) ∧ Sim K (upd H p (.lst vs)) A' w' σ ∧ RD K (upd H p (.lst vs)) A' d (.ref p) := by
  unfold newL at e
  by_cases hl : xs.length ≤ mxLen
  · rw [if_pos hl] at e
    refine ⟨Nat.le_trans (by rw [r.length]; exact hl) (by decide), fun p hp => ?_⟩
    obtain ⟨⟨f1, f2, f4⟩, f3⟩ := S.fresh hp
    have s0 : Step A H A (upd H p (.lst vs)) := Step.new hp f4
    have S0 := S.new (o := .lst vs) hp
    match md, e with
    | 0, e =>
      cases e
      exact ⟨A, s0, S0, p, vs, rfl, upd_same, ⟨f1, f2, f4⟩, f3, r.step s0.toCar⟩
    | 1, e =>
      cases e
      have s1 : Step A H { A with mu := A.mu ++ [p] } (upd H p (.lst vs)) := ⟨⟨fun a u h x => ⟨upd_some hp h, not_snoc x.1 (fun e => by subst e; rw [hp] at h; cases h), x.2⟩, s0.tup, s0.frz, fun k a h => get_snoc h, fun _ _ h => h, rfl⟩, rfl, s0.cnk⟩
      refine ⟨_, s1, ⟨fun i d e => let ⟨v, e1, r⟩ := S.loc i d e; ⟨v, e1, r.step s1.toCar d v⟩, S.len, ?_, RL.carry (fun xs vs h => h.step s1.toCar) (fun a _ vs h => upd_some hp h) S.ga, nodup_snoc S.nd f1, S.ndg, fun a ha => ?_, S.djg, S0.bt, S0.cnt,
        fun a ha => ⟨not_snoc (S.cnd a ha).1 (fun e => f4 (e ▸ ha)), (S.cnd a ha).2⟩, S.gk⟩, p, ?_, rfl⟩
      · exact RL.append (RL.carry (fun xs vs h => h.step s1.toCar) (fun a _ vs h => upd_some hp h) S.mu) ⟨xs, [], vs, rfl, upd_same, r.step s1.toCar, rfl⟩
      · rcases List.mem_append.mp ha with z | z
        · exact S.dj a z
        · have e : a = p := by simpa using z
          subst e
          exact ⟨f2, f3⟩
      · show (A.mu ++ [p])[w.m.length]? = some p
        rw [S.mu.length]
        simp
    | n + 2, e =>
      have e : (if xs.all gOk then R.ok (D.g w.g.length, { w with g := w.g ++ [xs] }) else R.err) = .ok (d, w') := e
      split at e
      case isFalse => cases e
      rename_i hg
      cases e
      have s1 : Step A H { A with ga := A.ga ++ [p] } (upd H p (.lst vs)) := ⟨⟨fun a u h x => ⟨upd_some hp h, x.1, not_snoc x.2.1 (fun e => by subst e; rw [hp] at h; cases h), x.2.2⟩, s0.tup, s0.frz, fun _ _ h => h, fun k a h => get_snoc h, rfl⟩, rfl, s0.cnk⟩
      refine ⟨_, s1, ⟨fun i d e => let ⟨v, e1, r⟩ := S.loc i d e; ⟨v, e1, r.step s1.toCar d v⟩, S.len, RL.carry (fun xs vs h => h.step s1.toCar) (fun a _ vs h => upd_some hp h) S.mu, ?_, S.nd, nodup_snoc S.ndg f2, fun a ha => ⟨fun z => ?_, (S.dj a ha).2⟩, fun a ha z => ?_, S0.bt, S0.cnt,
        fun a ha => ⟨(S.cnd a ha).1, not_snoc (S.cnd a ha).2.1 (fun e => f4 (e ▸ ha)), (S.cnd a ha).2.2⟩, fun ys hy => (List.mem_append.mp hy).elim (S.gk ys) fun z => (by simpa using z : ys = xs) ▸ hg⟩, p, ?_, rfl⟩
      · exact RL.append (RL.carry (fun xs vs h => h.step s1.toCar) (fun a _ vs h => upd_some hp h) S.ga) ⟨xs, [], vs, rfl, upd_same, r.step s1.toCar, rfl⟩
      · rcases List.mem_append.mp z with z | z
        · exact (S.dj a ha).1 z
        · have e : a = p := by simpa using z
          subst e
          exact f1 ha
      · rcases List.mem_append.mp z with z | z
        · exact S.djg a ha z
        · have e : a = p := by simpa using z
          subst e
          exact f3 ha
      · show (A.ga ++ [p])[w.g.length]? = some p
        rw [S.ga.length]
        simp
  · rw [if_neg hl] at e
    cases e
theorem newT_ok {xs : List D} {vs : List V} {d : D} {w' : Wd} (e : newT xs w = .ok (d, w')) (r : RDs K H A xs vs) :
    w' = w ∧ d = .tup xs ∧ vs.length ≤ sizeLine := by
  unfold newT at e
  by_cases hl : xs.length ≤ mxLen
  · rw [if_pos hl] at e
    cases e
    exact ⟨rfl, rfl, Nat.le_trans (by rw [r.length]; exact hl) (by decide)⟩
  · rw [if_neg hl] at e
    cases e
theorem RD.newT {p : Addr} {xs : List D} {vs : List V} (hp : H p = none) (hc : p ∉ A.cn) (r : RDs K H A xs vs) : RD K (upd H p (.tup vs)) A (.tup xs) (.ref p) :=
  ⟨p, vs, rfl, .inl (.inl upd_same), r.step (Step.new hp hc).toCar⟩
/-- an own list is changed -/
theorem Car.store {a : Addr} {us vs : List V} (ha : a ∈ A.mu ∨ a ∈ A.ga ∨ a ∈ A.cn) (h : H a = some (.lst us)) : Car A H A (upd H a (.lst vs)) := by
  refine ⟨fun b o q x => ⟨?_, x⟩, fun b ws q => ?_, fun b o u q => ?_, fun _ _ q => q, fun _ _ q => q, rfl⟩
  · rw [upd_ne (fun z => by subst z; rcases ha with z | z | z; exact x.1 z; exact x.2.1 z; exact x.2.2 z)]
    exact q
  · rw [upd_ne (ne_of q h (fun z => by cases z))]
    exact q
  · rw [upd_ne (ne_of q h (fun z => by cases z))]
    exact q
theorem Step.store {a : Addr} {us vs : List V} (ha : a ∈ A.mu ∨ a ∈ A.ga) (h : H a = some (.lst us)) (hc : ∀ b ∈ A.cn, b ∉ A.mu ∧ b ∉ A.ga) : Step A H A (upd H a (.lst vs)) :=
  ⟨Car.store (ha.elim (fun z => .inl z) fun z => .inr (.inl z)) h, rfl, fun b hb => upd_ne (fun z => by subst z; rcases ha with z | z; exact (hc _ hb).1 z; exact (hc _ hb).2 z)⟩
theorem put_ok {d : D} {v : V} {xs : List D} {w' : Wd} (e : w.put d xs = some w') (S : Sim K H A w σ) (r : RD K H A d v) :
    ∃ a us ys, v = .ref a ∧ H a = some (.lst us) ∧ w.seq d = some ys ∧ RDs K H A ys us ∧ ∀ vs, RDs K H A xs vs → Step A H A (upd H a (.lst vs)) ∧ Sim K (upd H a (.lst vs)) A w' σ := by
  cases d with
  | ref k =>
    unfold Wd.put at e
    obtain ⟨a, q, rfl⟩ := r
    obtain ⟨ys, us, e1, e2, e3⟩ := S.mu.get q
    have hm := List.mem_of_getElem? q
    by_cases hk : k < w.m.length
    · simp only [if_pos hk, Option.some.injEq] at e
      subst e
      refine ⟨a, us, ys, rfl, e2, e1, e3, fun vs hx => ?_⟩
      have s : Step A H A (upd H a (.lst vs)) := Step.store (.inl hm) e2 (fun b hb => ⟨(S.cnd b hb).1, (S.cnd b hb).2.1⟩)
      refine ⟨s, ⟨fun i d e => let ⟨v, e1, r⟩ := S.loc i d e; ⟨v, e1, r.step s.toCar d v⟩, S.len, RL.store (fun _ _ h => ?_) (fun _ _ h => h.step s.toCar) hx S.nd S.mu q, RL.carry (fun xs vs h => h.step s.toCar) (fun b hb ws h => ?_) S.ga, S.nd, S.ndg, S.dj, S.djg, fun b hb => ?_, fun b hb => ?_, S.cnd, S.gk⟩⟩
      · exact h.step (Car.store (.inl hm) e2)
      · rw [upd_ne (fun z => by subst z; exact (S.dj _ hm).1 hb)]
        exact h
      · obtain ⟨o, h⟩ := S.bt b hb
        refine ⟨o, ?_⟩
        rw [upd_ne (fun z => by subst z; exact (S.dj _ hm).2 hb)]
        exact h
      · obtain ⟨ws, h⟩ := S.cnt b hb
        refine ⟨ws, ?_⟩
        rw [upd_ne (fun z => by subst z; exact (S.cnd _ hb).1 hm)]
        exact h
    · simp only [if_neg hk] at e
      cases e
  | g k =>
    unfold Wd.put at e
    obtain ⟨a, q, rfl⟩ := r
    obtain ⟨ys, us, e1, e2, e3⟩ := S.ga.get q
    have hm := List.mem_of_getElem? q
    by_cases hk : k < w.g.length ∧ xs.all gOk = true
    · simp only [if_pos hk, Option.some.injEq] at e
      subst e
      refine ⟨a, us, ys, rfl, e2, e1, e3, fun vs hx => ?_⟩
      have s : Step A H A (upd H a (.lst vs)) := Step.store (.inr hm) e2 (fun b hb => ⟨(S.cnd b hb).1, (S.cnd b hb).2.1⟩)
      refine ⟨s, ⟨fun i d e => let ⟨v, e1, r⟩ := S.loc i d e; ⟨v, e1, r.step s.toCar d v⟩, S.len, RL.carry (fun xs vs h => h.step s.toCar) (fun b hb ws h => ?_) S.mu, RL.store (fun _ _ h => ?_) (fun _ _ h => h.step s.toCar) hx S.ndg S.ga q, S.nd, S.ndg, S.dj, S.djg, fun b hb => ?_, fun b hb => ?_, S.cnd, fun ys hy => (List.mem_or_eq_of_mem_set hy).elim (S.gk ys) fun z => z ▸ hk.2⟩⟩
      · rw [upd_ne (fun z => by subst z; exact (S.dj _ hb).1 hm)]
        exact h
      · exact h.step (Car.store (.inr (.inl hm)) e2)
      · obtain ⟨o, h⟩ := S.bt b hb
        refine ⟨o, ?_⟩
        rw [upd_ne (fun z => by subst z; exact S.djg _ hb hm)]
        exact h
      · obtain ⟨ws, h⟩ := S.cnt b hb
        refine ⟨ws, ?_⟩
        rw [upd_ne (fun z => by subst z; exact (S.cnd _ hb).2.1 hm)]
        exact h
    · simp only [if_neg hk] at e
      cases e
  | _ => cases e
end
end Fz

/-! Q4: operators, built-ins, methods upon data. -/
namespace Fz
open PySem PySem.Spec PyProof.Rows L2

/-! ### readings -/
abbrev Sl := L2.St
/-- what is wanted behind an expression -/
def Aft (K : PySem.W.Frag) (A : Ad) (H : Hp) (σ : Sl) (d : D) (w' : Wd) (Q : VK) : Prop := ∀ A' v H', Step A H A' H' → Sim K H' A' w' σ → RD K H' A' d v → Q v H'
def rd (K : PySem.W.Frag) (f : Wd → R (D × Wd)) : TE := fun σ H Q => ∃ A w, Sim K H A w σ ∧ ∃ d w', f w = .ok (d, w') ∧ Aft K A H σ d w' Q
def rdA (K : PySem.W.Frag) (f : Wd → R (List D × Wd)) : TA := fun σ H Q => ∃ A w, Sim K H A w σ ∧ ∃ ds w', f w = .ok (ds, w') ∧ ∀ A' vs H', Step A H A' H' → Sim K H' A' w' σ → RDs K H' A' ds vs → Q vs H'
def rdT (K : PySem.W.Frag) (f : Wd → R (Bool × Wd)) : TT := fun σ H Q => ∃ A w, Sim K H A w σ ∧ ∃ b w', f w = .ok (b, w') ∧ ∀ A' H', Step A H A' H' → Sim K H' A' w' σ → Q b H'
theorem PEimp {X : Cx} {e : Expr} {t t' : TE} (h : PE X e t) (i : ∀ σ H Q, t' σ H Q → t σ H Q) : PE X e t' := ⟨fun pins s σ H Q I q => h.run pins s σ H Q I (i σ H Q q)⟩
theorem PTimp {X : Cx} {e : Expr} {t t' : TT} (h : PT X e t) (i : ∀ σ H Q, t' σ H Q → t σ H Q) : PT X e t' := ⟨fun pins s σ H Q I q => h.run pins s σ H Q I (i σ H Q q)⟩
theorem PAimp {X : Cx} {e : List Expr} {t t' : TA} (h : PA X e t) (i : ∀ σ H Q, t' σ H Q → t σ H Q) : PA X e t' := ⟨fun pos pins s σ H Q I q => h.run pos pins s σ H Q I (i σ H Q q)⟩
theorem bd_split {α β : Type} {r : R α} {f : α → R β} {b : β} (h : r.bd f = .ok b) : ∃ a, r = .ok a ∧ f a = .ok b := by
  cases r with
  | ok a => exact ⟨a, rfl, h⟩
  | exc c ds => cases h
  | err => cases h
theorem of_split {α : Type} {o : Option α} {a : α} (h : R.of o = .ok a) : o = some a := by
  cases o with
  | none => cases h
  | some b => cases h; rfl
section
variable {K : PySem.W.Frag} {H H' : Hp} {A A' : Ad} {w w' : Wd} {σ : Sl} {Q : VK}
/-- an unchanged state -/
theorem Aft.here {d : D} {v : V} (q : Aft K A H σ d w Q) (S : Sim K H A w σ) (r : RD K H A d v) : Q v H := q A v H (Step.refl A H) S r
theorem Aft.step {d : D} {A1 : Ad} {H1 : Hp} (q : Aft K A H σ d w' Q) (s : Step A H A1 H1) : Aft K A1 H1 σ d w' Q := fun A' v H' s' S r => q A' v H' (s.trans s') S r
/-- a new list, tuple -/
theorem Aft.newL {md : Nat} {xs : List D} {vs : List V} {d : D} (e : newL md xs w = .ok (d, w')) (S : Sim K H A w σ) (r : RDs K H A xs vs) (q : Aft K A H σ d w' Q) :
    vs.length ≤ sizeLine ∧ ∀ p, H p = none → Q (.ref p) (upd H p (.lst vs)) :=
  let ⟨h1, h2⟩ := newL_ok e S r
  ⟨h1, fun p hp => let ⟨A', s, S', r'⟩ := h2 p hp; q A' _ _ s S' r'⟩
theorem Aft.newT {xs : List D} {vs : List V} {d : D} (e : newT xs w = .ok (d, w')) (S : Sim K H A w σ) (r : RDs K H A xs vs) (q : Aft K A H σ d w' Q) :
    vs.length ≤ sizeLine ∧ ∀ p, H p = none → Q (.ref p) (upd H p (.tup vs)) := by
  obtain ⟨rfl, rfl, h⟩ := newT_ok e r
  exact ⟨h, fun p hp => q A _ _ (Step.new hp (S.fresh hp).1.2.2) (S.new hp) (RD.newT hp (S.fresh hp).1.2.2 r)⟩
end

theorem len0 (n : Nat) : (n != 0) = ((n : Int) != 0) := by
  cases n with
  | zero => rfl
  | succ n =>
    rw [show (n + 1 != 0) = true from rfl]
    symm
    simp only [bne_iff_ne, ne_eq]
    omega
/-! ### the model's data -/
section
variable {K : PySem.W.Frag} {H : Hp} {A : Ad}
mutual
theorem py_dp {ρ γ : Nat → Option PyData} (hρ : ∀ (k : Nat) a p, ρ k = some p → A.mu[k]? = some a → Dp K H (.ref a) p) (hγ : ∀ (k : Nat) a p, γ k = some p → A.ga[k]? = some a → Dp K H (.ref a) p) :
    ∀ (d : D) (v : V) (p : PyData), Fz.py ρ γ d = some p → RD K H A d v → Dp K H v p
  | .non, _, _, e, h => by cases e; rw [show _ = _ from h]; exact .non
  | .bl b, _, _, e, h => by cases e; rw [show _ = _ from h]; exact .bl b
  | .int b, _, _, e, h => by cases e; rw [show _ = _ from h]; exact .int b
  | .str b, _, _, e, h => by cases e; rw [show _ = _ from h]; exact .str b
  | .tup ds, _, _, e, h => by
    obtain ⟨a, vs, rfl, q, r⟩ := h
    simp only [Fz.py, Option.map_eq_some_iff] at e
    obtain ⟨ps, e1, rfl⟩ := e
    exact .tup q (pyL_dp hρ hγ ds vs ps e1 r)
  | .lst ds, _, _, e, h => by
    obtain ⟨a, vs, rfl, q, _, _, r⟩ := h
    simp only [Fz.py, Option.map_eq_some_iff] at e
    obtain ⟨ps, e1, rfl⟩ := e
    exact .lst (SqL.of q) (pyL_dp hρ hγ ds vs ps e1 r)
  | .fl ds, _, _, e, h => by
    obtain ⟨a, vs, rfl, q, _, r⟩ := h
    simp only [Fz.py, Option.map_eq_some_iff] at e
    obtain ⟨ps, e1, rfl⟩ := e
    exact .lst (SqL.of q) (pyL_dp hρ hγ ds vs ps e1 r)
  | .sc ds, _, _, e, h => by
    obtain ⟨a, vs, rfl, q, r⟩ := h
    simp only [Fz.py, Option.map_eq_some_iff] at e
    obtain ⟨ps, e1, rfl⟩ := e
    exact .lst q.sq (pyL_dp hρ hγ ds vs ps e1 r)
  | .ref k, _, p, e, h => by
    obtain ⟨a, q, rfl⟩ := h
    exact hρ k a p e q
  | .g k, _, p, e, h => by
    obtain ⟨a, q, rfl⟩ := h
    exact hγ k a p e q
theorem pyL_dp {ρ γ : Nat → Option PyData} (hρ : ∀ (k : Nat) a p, ρ k = some p → A.mu[k]? = some a → Dp K H (.ref a) p) (hγ : ∀ (k : Nat) a p, γ k = some p → A.ga[k]? = some a → Dp K H (.ref a) p) :
    ∀ (ds : List D) (vs : List V) (ps : List PyData), pyL ρ γ ds = some ps → RDs K H A ds vs → DpAll K H vs ps
  | [], _, _, e, h => by cases e; rw [show _ = [] from h]; exact .nil
  | d :: ds, _, _, e, h => by
    obtain ⟨v, r, rfl, x, y⟩ := h
    simp only [pyL, Option.bind_eq_some_iff, Option.map_eq_some_iff] at e
    obtain ⟨p, e1, ps, e2, rfl⟩ := e
    exact .cons (py_dp hρ hγ d v p e1 x) (pyL_dp hρ hγ ds r ps e2 y)
end
theorem pyR_dp {w : Wd} {σ : Sl} (S : Sim K H A w σ) : ∀ (n : Nat) (b : Bool) (k : Nat) a p, pyR w n b k = some p → (if b then A.mu else A.ga)[k]? = some a → Dp K H (.ref a) p
  | 0, _, _, _, _, e, _ => by cases e
  | n + 1, b, k, a, p, e, h => by
    simp only [pyR, Option.bind_eq_some_iff, Option.map_eq_some_iff] at e
    obtain ⟨ds, e1, ps, e2, rfl⟩ := e
    have hl : ∃ vs, H a = some (.lst vs) ∧ RDs K H A ds vs := by
      cases b with
      | true =>
        obtain ⟨ys, vs, q1, q2, q3⟩ := S.mu.get h
        rw [if_pos rfl, q1] at e1
        cases e1
        exact ⟨vs, q2, q3⟩
      | false =>
        obtain ⟨ys, vs, q1, q2, q3⟩ := S.ga.get h
        rw [if_neg Bool.false_ne_true, q1] at e1
        cases e1
        exact ⟨vs, q2, q3⟩
    obtain ⟨vs, q, r⟩ := hl
    exact .lst (SqL.of q) (pyL_dp (fun k a p e h => pyR_dp S n true k a p e h) (fun k a p e h => pyR_dp S n false k a p e h) ds vs ps e2 r)
theorem Sim.dp {w : Wd} {σ : Sl} (S : Sim K H A w σ) {d : D} {v : V} {p : PyData} (e : w.py d = some p) (r : RD K H A d v) : Dp K H v p :=
  py_dp (fun k a p e h => pyR_dp S 4 true k a p e h) (fun k a p e h => pyR_dp S 4 false k a p e h) d v p e r
/-- truth -/
theorem Sim.tru {w : Wd} {σ : Sl} (S : Sim K H A w σ) {d : D} {v : V} {b : Bool} (e : w.tru d = some b) (r : RD K H A d v) : TruV K v H b := by
  have sq : ∀ {xs : List D}, w.seq d = some xs → b = !xs.isEmpty → TruV K v H b := fun {xs} e1 e2 => by
    obtain ⟨a, vs, rfl, rs, h⟩ := S.seq r e1
    have hb : b = !vs.isEmpty := by
      rw [e2]
      have hl := rs.length
      cases vs <;> cases xs <;> simp_all
    rcases h with ⟨_, h⟩ | ⟨_, h⟩
    · exact .inr (.inl ⟨vs, h, hb⟩)
    · exact .inl ⟨vs, h, hb⟩
  have go : (w.seq d).map (fun xs => !xs.isEmpty) = some b → TruV K v H b := fun e => by
    obtain ⟨xs, e1, e2⟩ := Option.map_eq_some_iff.mp e
    exact sq e1 e2.symm
  cases d with
  | non => cases e; rw [show v = .non from r]; exact rfl
  | bl k => cases e; rw [show v = .bl _ from r]; exact rfl
  | int i =>
    have e' : some (i != 0) = some b := e
    rw [show v = .int i from r]
    cases e'
    exact rfl
  | str s =>
    have e' : (if s.length ≤ 1000000 then some (s.length != 0) else none) = some b := e
    by_cases h : s.length ≤ 1000000
    · rw [if_pos h] at e'
      cases e'
      rw [show v = .str s from r]
      exact ⟨Nat.le_trans h (by decide), len0 _⟩
    · rw [if_neg h] at e'
      cases e'
  | _ => exact go e
end
end Fz

/-! Q4d: in, by values. -/
namespace Fz
open PySem PySem.Spec PyProof.Rows L2
/-- x in a tuple, by values -/
theorem op_inDt {X : Cx} (hu : X.A.units + 65 < cLine) : OpR X (compareOp .In) (fun x y H Q => ∃ d ds, Dp X.K H x d ∧ Dp X.K H y (.tuple ds) ∧ SeqAt.shaped d = true ∧ SeqAt.shaped (.tuple ds) = true ∧ Q (.bl (ds.any fun z => PyData.eqv z d)) H) := by
  intro pins s σ H x y v u Q I rx ry h
  obtain ⟨d, ds, hd, he, sd, se, q⟩ := h
  obtain ⟨as, r1⟩ := Dp.reads I d x v hd rx
  obtain ⟨bs, r2⟩ := Dp.reads I (.tuple ds) y u he ry
  exact SeqAt.in_tuple_reads r2 r1 (SeqAt.canLay_of_shaped se) (SeqAt.canLay_of_shaped sd) (room_in_shaped sd hu) ⟨.bl _, H, I, rfl, q⟩
theorem op_notInDt {X : Cx} (hu : X.A.units + 65 < cLine) : OpR X (compareOp .NotIn) (fun x y H Q => ∃ d ds, Dp X.K H x d ∧ Dp X.K H y (.tuple ds) ∧ SeqAt.shaped d = true ∧ SeqAt.shaped (.tuple ds) = true ∧ Q (.bl (!ds.any fun z => PyData.eqv z d)) H) := by
  intro pins s σ H x y v u Q I rx ry h
  obtain ⟨d, ds, hd, he, sd, se, q⟩ := h
  obtain ⟨as, r1⟩ := Dp.reads I d x v hd rx
  obtain ⟨bs, r2⟩ := Dp.reads I (.tuple ds) y u he ry
  exact SeqAt.notIn_tuple_reads r2 r1 (SeqAt.canLay_of_shaped se) (SeqAt.canLay_of_shaped sd) (room_in_shaped sd hu) ⟨.bl _, H, I, rfl, q⟩
end Fz

/-! Q5: operators upon data. -/
namespace Fz
open PySem PySem.Spec PyProof.Rows L2

def oper : Op → Operator
  | .add => .Add
  | .sub => .Sub
  | .mul => .Mult
  | .fdiv => .FloorDiv
  | .mod => .Mod
  | .pow => .Pow
  | .band => .BitAnd
  | .bxor => .BitXor
  | .shl => .LShift
def cmOp : Cm → CmpOp
  | .eq => .Eq
  | .ne => .NotEq
  | .lt => .Lt
  | .le => .LtE
  | .gt => .Gt
  | .ge => .GtE
  | .is => .Is
  | .isnot => .IsNot
  | .isin => .In
  | .notin => .NotIn
/-- an operator upon data -/
def rOp (K : PySem.W.Frag) (o : Op) (md : Nat) : R2 := fun x y H Q => ∃ A w σ d e r w', Sim K H A w σ ∧ RD K H A d x ∧ RD K H A e y ∧ opF o md d e w = .ok (r, w') ∧ Aft K A H σ r w' Q
theorem mulOk_ok {i j : Int} (h : mulOk i j = true) : IntMulOk i j := by
  unfold mulOk at h
  simp only [decide_eq_true_eq] at h
  rcases h with h | h | ⟨h1, h2⟩
  · exact CMul.ok (.inl h)
  · exact CMul.ok (.inr h)
  · exact (wide_mul (a := 400000) (b := 400000) h1 h2 (by decide) (by decide) (by decide)).ok
theorem divOk_ok {i j : Int} (h : divOk i j = true) : j ≠ 0 ∧ Builtin.divisionGoesByPylong i j = false := by
  unfold divOk at h
  simp only [Bool.and_eq_true, Bool.or_eq_true, decide_eq_true_eq, Bool.not_eq_true'] at h
  refine ⟨h.1, ?_⟩
  rcases h.2 with h | h
  · exact PyProof.noPylong_small h
  · exact h
theorem powOk_ok {i j : Int} (h : powOk i j = true) : CPow i j := by
  unfold powOk at h
  exact (of_decide_eq_true h : 0 ≤ j ∧ j ≤ 1000000 ∧ i.natAbs < 2 ^ 64)
theorem op_floor {X : Cx} : OpR X (binaryOp .FloorDiv) (rI (fun i j => j ≠ 0 ∧ Builtin.divisionGoesByPylong i j = false) fun i j => .int (i.fdiv j)) :=
  opI fun _ _ _ _ _ _ _ hc q => floordiv_int hc.1 q (.inl hc.2)
theorem op_mulI {X : Cx} : OpR X (binaryOp .Mult) (rI IntMulOk fun i j => .int (i * j)) := opI fun _ _ _ _ _ _ _ hc q => mul_int q hc
section
variable {X : Cx}
theorem opF_lists {K : PySem.W.Frag} {A : Ad} {H : Hp} {w w' : Wd} {σ : Sl} {d e r : D} {x y : V} {Q : VK} {md : Nat} (S : Sim K H A w σ) (rx : RD K H A d x) (ry : RD K H A e y)
    (h : (if isL d && isL e then (R.of (w.seq d)).bd fun a => (R.of (w.seq e)).bd fun b => newL md (a ++ b) w else .err) = .ok (r, w')) (q : Aft K A H σ r w' Q) : rCat x y H Q := by
  by_cases hl : (isL d && isL e) = true
  · rw [if_pos hl] at h
    obtain ⟨a, e1, h⟩ := bd_split h
    obtain ⟨b, e2, h⟩ := bd_split h
    obtain ⟨l1, l2⟩ := Bool.and_eq_true_iff.mp hl
    obtain ⟨p, vs, rfl, r1, h1⟩ := S.lst rx l1 (of_split e1)
    obtain ⟨p2, us, rfl, r2, h2⟩ := S.lst ry l2 (of_split e2)
    obtain ⟨z, qn⟩ := Aft.newL h S (r1.append r2) q
    exact ⟨p, p2, vs, us, rfl, rfl, h1, h2, by rw [List.length_append] at z; exact z, qn⟩
  · rw [if_neg hl] at h
    cases h
theorem op_sound (o : Op) (md : Nat) : OpR X (binaryOp (oper o)) (rOp X.K o md) := by
  intro pins s σ H x y v u Q I rx ry h
  obtain ⟨A, w, σ', d, e, r, w', S, rd1, rd2, ho, q⟩ := h
  -- two ints
  by_cases hi : ∃ i j, d = .int i ∧ e = .int j
  · obtain ⟨i, j, rfl, rfl⟩ := hi
    have ex : x = .int i := rd1
    have ey : y = .int j := rd2
    subst ex ey
    cases o with
    | add =>
      cases ho
      exact op_add pins s σ H _ _ v u Q I rx ry ⟨i, j, rfl, rfl, q.here S rfl⟩
    | sub =>
      cases ho
      exact op_sub pins s σ H _ _ v u Q I rx ry ⟨i, j, rfl, rfl, q.here S rfl⟩
    | mul =>
      have ho : (if mulOk i j then R.ok (D.int (i * j), w) else .err) = .ok (r, w') := ho
      split at ho
      · rename_i hc
        cases ho
        exact op_mulI pins s σ H _ _ v u Q I rx ry ⟨i, j, rfl, rfl, mulOk_ok hc, q.here S rfl⟩
      · cases ho
    | fdiv =>
      have ho : (if divOk i j then R.ok (D.int (i.fdiv j), w) else .err) = .ok (r, w') := ho
      split at ho
      · rename_i hc
        cases ho
        exact op_floor pins s σ H _ _ v u Q I rx ry ⟨i, j, rfl, rfl, divOk_ok hc, q.here S rfl⟩
      · cases ho
    | mod =>
      have ho : (if j = 0 then R.err else .ok (D.int (i.fmod j), w)) = .ok (r, w') := ho
      split at ho
      · cases ho
      · rename_i hc
        cases ho
        exact op_modN pins s σ H _ _ v u Q I rx ry ⟨i, j, rfl, rfl, hc, q.here S rfl⟩
    | pow =>
      have ho : (if powOk i j then R.ok (D.int (i ^ j.toNat), w) else .err) = .ok (r, w') := ho
      split at ho
      · rename_i hc
        cases ho
        exact op_pow pins s σ H _ _ v u Q I rx ry ⟨i, j, rfl, rfl, powOk_ok hc, q.here S rfl⟩
      · cases ho
    | shl =>
      have ho : (if powOk i j then R.ok (D.int (i * 2 ^ j.toNat), w) else .err) = .ok (r, w') := ho
      split at ho
      · rename_i hc
        cases ho
        exact op_shl pins s σ H _ _ v u Q I rx ry ⟨i, j, rfl, rfl, powOk_ok hc, q.here S rfl⟩
      · cases ho
    | band =>
      cases ho
      exact op_and pins s σ H _ _ v u Q I rx ry ⟨i, j, rfl, rfl, q.here S rfl⟩
    | bxor =>
      cases ho
      exact op_xor pins s σ H _ _ v u Q I rx ry ⟨i, j, rfl, rfl, q.here S rfl⟩
  · cases o with
    | add =>
      by_cases hs : ∃ a b, d = .str a ∧ e = .str b
      · obtain ⟨a, b, rfl, rfl⟩ := hs
        have ex : x = .str a := rd1
        have ey : y = .str b := rd2
        subst ex ey
        have ho : (if a.length + b.length ≤ mxLen then R.ok (D.str (a ++ b), w) else .err) = .ok (r, w') := ho
        split at ho
        · rename_i hc
          cases ho
          exact op_add_str pins s σ H _ _ v u Q I rx ry ⟨a, b, rfl, rfl, Nat.le_trans hc (by decide), q.here S rfl⟩
        · cases ho
      · by_cases ht : ∃ a b, d = .tup a ∧ e = .tup b
        · obtain ⟨a, b, rfl, rfl⟩ := ht
          have ho : newT (a ++ b) w = .ok (r, w') := ho
          obtain ⟨p, vs, rfl, t1, r1⟩ := rd1
          obtain ⟨p2, us, rfl, t2, r2⟩ := rd2
          obtain ⟨z, qn⟩ := Aft.newT ho S (r1.append r2) q
          obtain ⟨rfl, rfl, _⟩ := newT_ok ho (r1.append r2)
          refine op_catA pins s σ H _ _ v u Q I rx ry ⟨p, p2, vs, us, rfl, rfl, t1, t2, by rw [List.length_append] at z; exact z, fun e => ?_, fun _ e => ?_, fun _ _ => qn⟩
          · subst e
            refine q.here S ⟨p2, us, rfl, t2, ?_⟩
            have := r1.append r2
            simpa using this
          · subst e
            refine q.here S ⟨p, vs, rfl, t1, ?_⟩
            have := r1.append r2
            simpa using this
        · refine op_cat pins s σ H x y v u Q I rx ry (opF_lists (md := md) (r := r) (w' := w') S rd1 rd2 ?_ q)
          rw [← ho]
          cases d <;> cases e <;> first | rfl | (exact absurd ⟨_, _, rfl, rfl⟩ hi) | (exact absurd ⟨_, _, rfl, rfl⟩ hs) | (exact absurd ⟨_, _, rfl, rfl⟩ ht)
    | mul =>
      by_cases hj : ∃ j, e = .int j
      · obtain ⟨j, rfl⟩ := hj
        have ho : (if isL d && decide (-(2 ^ 63) ≤ j ∧ j < 2 ^ 63) then (R.of (w.seq d)).bd fun a => if a.length * j.toNat ≤ mxLen then newL md (List.replicate j.toNat a).flatten w else .err else .err) = .ok (r, w') := by
          rw [← ho]
          cases d <;> first | rfl | (exact absurd ⟨_, _, rfl, rfl⟩ hi)
        split at ho
        · rename_i hc
          obtain ⟨l1, l2⟩ := Bool.and_eq_true_iff.mp hc
          obtain ⟨a, e1, ho⟩ := bd_split ho
          obtain ⟨p, vs, rfl, r1, h1⟩ := S.lst rd1 l1 (of_split e1)
          have ey : y = .int j := rd2
          subst ey
          split at ho
          · rename_i hz
            obtain ⟨_, qn⟩ := Aft.newL ho S (RDs.rep j.toNat r1) q
            have l3 := of_decide_eq_true l2
            exact op_rep pins s σ H _ _ v u Q I rx ry ⟨p, j, vs, rfl, rfl, h1, l3.1, l3.2, Nat.le_trans (by rw [r1.length]; exact hz) (by decide), qn⟩
          · cases ho
        · cases ho
      · exfalso
        cases d <;> cases e <;> first | (exact hj ⟨_, rfl⟩) | (exact hi ⟨_, _, rfl, rfl⟩) | (cases ho)
    | _ =>
      exfalso
      cases d <;> cases e <;> first | (exact hi ⟨_, _, rfl, rfl⟩) | (cases ho)
/-- a comparison upon data -/
def rCm (K : PySem.W.Frag) (c : Cm) : R2 := fun x y H Q => ∃ A w σ d e b, Sim K H A w σ ∧ RD K H A d x ∧ RD K H A e y ∧ cmF c d e w = some b ∧ Q (.bl b) H
theorem eqF_cases {d e : D} {w : Wd} {b : Bool} (h : eqF d e w = some b) :
    (∃ i j, d = .int i ∧ e = .int j ∧ b = decide (i = j)) ∨ (∃ i j, d = .str i ∧ e = .str j ∧ b = decide (i = j)) ∨
      ∃ p q, w.py d = some p ∧ w.py e = some q ∧ SeqAt.shaped p = true ∧ SeqAt.shaped q = true ∧ b = PyData.eqv p q := by
  have go : ((w.py d).bind fun a => (w.py e).bind fun b => if SeqAt.shaped a && SeqAt.shaped b then some (PyData.eqv a b) else none) = some b → 
      ∃ p q, w.py d = some p ∧ w.py e = some q ∧ SeqAt.shaped p = true ∧ SeqAt.shaped q = true ∧ b = PyData.eqv p q := fun h => by
    simp only [Option.bind_eq_some_iff] at h
    obtain ⟨p, e1, q, e2, h⟩ := h
    split at h
    · rename_i hc
      obtain ⟨c1, c2⟩ := Bool.and_eq_true_iff.mp hc
      cases h
      exact ⟨p, q, e1, e2, c1, c2, rfl⟩
    · cases h
  by_cases hi : ∃ i j, d = .int i ∧ e = .int j
  · obtain ⟨i, j, rfl, rfl⟩ := hi
    cases h
    exact .inl ⟨i, j, rfl, rfl, rfl⟩
  · by_cases hs : ∃ i j, d = .str i ∧ e = .str j
    · obtain ⟨i, j, rfl, rfl⟩ := hs
      cases h
      exact .inr (.inl ⟨i, j, rfl, rfl, rfl⟩)
    · refine .inr (.inr (go ?_))
      rw [← h]
      cases d <;> cases e <;> first | rfl | (exact absurd ⟨_, _, rfl, rfl⟩ hi) | (exact absurd ⟨_, _, rfl, rfl⟩ hs)
theorem flat_rd {K : PySem.W.Frag} {H : Hp} {A : Ad} {d : D} {v : V} (f : isFlat d = true) (r : RD K H A d v) : flatV v = true ∧ ∀ (e : D) (u : V), isFlat e = true → RD K H A e u → eqV v u = flatEq d e := by
  cases d with
  | non =>
    rw [show v = .non from r]
    refine ⟨rfl, fun e u fe re => ?_⟩
    cases e with
    | non => rw [show u = .non from re]; rfl
    | bl b => rw [show u = .bl b from re]; rfl
    | int i => rw [show u = .int i from re]; rfl
    | str i => rw [show u = .str i from re]; rfl
    | _ => cases fe
  | bl b0 =>
    rw [show v = .bl b0 from r]
    refine ⟨rfl, fun e u fe re => ?_⟩
    cases e with
    | non => rw [show u = .non from re]; rfl
    | bl b => rw [show u = .bl b from re]; rfl
    | int i => rw [show u = .int i from re]; rfl
    | str i => rw [show u = .str i from re]; rfl
    | _ => cases fe
  | int b0 =>
    rw [show v = .int b0 from r]
    refine ⟨rfl, fun e u fe re => ?_⟩
    cases e with
    | non => rw [show u = .non from re]; rfl
    | bl b => rw [show u = .bl b from re]; rfl
    | int i => rw [show u = .int i from re]; rfl
    | str i => rw [show u = .str i from re]; rfl
    | _ => cases fe
  | str b0 =>
    rw [show v = .str b0 from r]
    refine ⟨rfl, fun e u fe re => ?_⟩
    cases e with
    | non => rw [show u = .non from re]; rfl
    | bl b => rw [show u = .bl b from re]; rfl
    | int i => rw [show u = .int i from re]; rfl
    | str i => rw [show u = .str i from re]; rfl
    | _ => cases fe
  | _ => cases f
theorem flats_rd {K : PySem.W.Frag} {H : Hp} {A : Ad} {x : D} {v : V} (f : isFlat x = true) (r : RD K H A x v) : ∀ {ds : List D} {vs : List V}, ds.all isFlat = true → RDs K H A ds vs → vs.all flatV = true ∧ inV v vs = ds.any fun z => flatEq z x
  | [], _, _, h => by rw [show _ = [] from h]; exact ⟨rfl, rfl⟩
  | d :: ds, _, a, h => by
    obtain ⟨u, us, rfl, p, q⟩ := h
    obtain ⟨a1, a2⟩ := Bool.and_eq_true_iff.mp (show (isFlat d && ds.all isFlat) = true from a)
    obtain ⟨c1, c2⟩ := flat_rd a1 p
    obtain ⟨i1, i2⟩ := flats_rd f r a2 q
    refine ⟨by rw [List.all_cons, c1, i1]; rfl, ?_⟩
    show (eqV u v || inV v us) = _
    rw [c2 x v f r, i2]
    rfl
theorem cm_sound (c : Cm) (hu65 : X.A.units + 65 < cLine) : OpR X (compareOp (cmOp c)) (rCm X.K c) := by
  have hu : X.A.units + 64 < cLine := by omega
  intro pins s σ H x y v u Q I rx ry h
  obtain ⟨A, w, σ', d, e, b, S, rd1, rd2, ho, q⟩ := h
  have two : ∀ {i j}, d = .int i → e = .int j → x = .int i ∧ y = .int j := fun hd he => by
    subst hd he
    exact ⟨rd1, rd2⟩
  cases c with
  | eq =>
    rcases eqF_cases ho with ⟨i, j, h1, h2, rfl⟩ | ⟨i, j, rfl, rfl, rfl⟩ | ⟨p, p2, e1, e2, s1, s2, rfl⟩
    · obtain ⟨rfl, rfl⟩ := two h1 h2
      refine op_eq pins s σ H _ _ v u Q I rx ry ⟨rfl, ?_⟩
      rw [show decide ((V.int i) = .int j) = decide (i = j) by simp]
      exact q
    · obtain rfl : x = .str i := rd1
      obtain rfl : y = .str j := rd2
      refine op_eq pins s σ H _ _ v u Q I rx ry ⟨rfl, ?_⟩
      rw [show decide ((V.str i) = .str j) = decide (i = j) by simp]
      exact q
    · exact op_eqD hu pins s σ H _ _ v u Q I rx ry ⟨p, p2, S.dp e1 rd1, S.dp e2 rd2, s1, s2, q⟩
  | ne =>
    obtain ⟨b', ho', rfl⟩ := Option.map_eq_some_iff.mp (show (eqF d e w).map (fun b => !b) = some b from ho)
    rcases eqF_cases ho' with ⟨i, j, h1, h2, rfl⟩ | ⟨i, j, rfl, rfl, rfl⟩ | ⟨p, p2, e1, e2, s1, s2, rfl⟩
    · obtain ⟨rfl, rfl⟩ := two h1 h2
      refine op_ne pins s σ H _ _ v u Q I rx ry ⟨rfl, ?_⟩
      rw [show decide ((V.int i) = .int j) = decide (i = j) by simp]
      exact q
    · obtain rfl : x = .str i := rd1
      obtain rfl : y = .str j := rd2
      refine op_ne pins s σ H _ _ v u Q I rx ry ⟨rfl, ?_⟩
      rw [show decide ((V.str i) = .str j) = decide (i = j) by simp]
      exact q
    · exact op_neD hu pins s σ H _ _ v u Q I rx ry ⟨p, p2, S.dp e1 rd1, S.dp e2 rd2, s1, s2, q⟩
  | lt =>
    by_cases hi : ∃ i j, d = .int i ∧ e = .int j
    · obtain ⟨i, j, h1, h2⟩ := hi
      obtain ⟨rfl, rfl⟩ := two h1 h2
      subst h1 h2
      cases ho
      exact op_lt pins s σ H _ _ v u Q I rx ry ⟨i, j, rfl, rfl, q⟩
    · exfalso
      cases d <;> cases e <;> first | (exact hi ⟨_, _, rfl, rfl⟩) | (cases ho)
  | le =>
    by_cases hi : ∃ i j, d = .int i ∧ e = .int j
    · obtain ⟨i, j, h1, h2⟩ := hi
      obtain ⟨rfl, rfl⟩ := two h1 h2
      subst h1 h2
      cases ho
      exact op_le pins s σ H _ _ v u Q I rx ry ⟨i, j, rfl, rfl, q⟩
    · exfalso
      cases d <;> cases e <;> first | (exact hi ⟨_, _, rfl, rfl⟩) | (cases ho)
  | gt =>
    by_cases hi : ∃ i j, d = .int i ∧ e = .int j
    · obtain ⟨i, j, h1, h2⟩ := hi
      obtain ⟨rfl, rfl⟩ := two h1 h2
      subst h1 h2
      cases ho
      exact op_gt pins s σ H _ _ v u Q I rx ry ⟨i, j, rfl, rfl, q⟩
    · exfalso
      cases d <;> cases e <;> first | (exact hi ⟨_, _, rfl, rfl⟩) | (cases ho)
  | ge =>
    by_cases hi : ∃ i j, d = .int i ∧ e = .int j
    · obtain ⟨i, j, h1, h2⟩ := hi
      obtain ⟨rfl, rfl⟩ := two h1 h2
      subst h1 h2
      cases ho
      exact op_ge pins s σ H _ _ v u Q I rx ry ⟨i, j, rfl, rfl, q⟩
    · exfalso
      cases d <;> cases e <;> first | (exact hi ⟨_, _, rfl, rfl⟩) | (cases ho)
  | is =>
    cases e with
    | non =>
      have ey : y = .non := rd2
      subst ey
      refine op_isN pins s σ H _ _ v u Q I rx ry ⟨rfl, ?_⟩
      cases d with
      | non => cases ho; rw [show x = .non from rd1]; exact q
      | bl k => cases ho; rw [show x = .bl k from rd1]; exact q
      | int k => cases ho; rw [show x = .int k from rd1]; exact q
      | str k => cases ho; rw [show x = .str k from rd1]; exact q
      | tup k => cases ho; obtain ⟨a, vs, rfl, _⟩ := rd1; exact q
      | lst k => cases ho; obtain ⟨a, vs, rfl, _⟩ := rd1; exact q
      | fl k => cases ho; obtain ⟨a, vs, rfl, _⟩ := rd1; exact q
      | sc k => cases ho; obtain ⟨a, vs, rfl, _⟩ := rd1; exact q
      | ref k => cases ho; obtain ⟨a, _, rfl⟩ := rd1; exact q
      | g k => cases ho; obtain ⟨a, _, rfl⟩ := rd1; exact q
      | dic ks k => cases ho; obtain ⟨a, vs, rfl, _⟩ := rd1; exact q
    | bl k =>
      cases d with
      | bl j =>
        cases ho
        exact op_isBl pins s σ H _ _ v u Q I rx ry ⟨j, k, rd1, rd2, q⟩
      | _ => cases ho
    | _ => cases d <;> cases ho
  | isnot =>
    cases e with
    | non =>
      have ey : y = .non := rd2
      subst ey
      refine op_notN pins s σ H _ _ v u Q I rx ry ⟨rfl, ?_⟩
      cases d with
      | non => cases ho; rw [show x = .non from rd1]; exact q
      | bl k => cases ho; rw [show x = .bl k from rd1]; exact q
      | int k => cases ho; rw [show x = .int k from rd1]; exact q
      | str k => cases ho; rw [show x = .str k from rd1]; exact q
      | tup k => cases ho; obtain ⟨a, vs, rfl, _⟩ := rd1; exact q
      | lst k => cases ho; obtain ⟨a, vs, rfl, _⟩ := rd1; exact q
      | fl k => cases ho; obtain ⟨a, vs, rfl, _⟩ := rd1; exact q
      | sc k => cases ho; obtain ⟨a, vs, rfl, _⟩ := rd1; exact q
      | ref k => cases ho; obtain ⟨a, _, rfl⟩ := rd1; exact q
      | g k => cases ho; obtain ⟨a, _, rfl⟩ := rd1; exact q
      | dic ks k => cases ho; obtain ⟨a, vs, rfl, _⟩ := rd1; exact q
    | bl k =>
      cases d with
      | bl j =>
        cases ho
        exact op_notBl pins s σ H _ _ v u Q I rx ry ⟨j, k, rd1, rd2, q⟩
      | _ => cases ho
    | _ => cases d <;> cases ho
  | isin =>
    have ho : (if isFlat d then (w.seq e).bind fun ys => if ys.all isFlat then some (ys.any fun z => flatEq z d) else none else inD d e w) = some b := by
      rw [← ho]
      cases d <;> cases e <;> rfl
    split at ho
    · rename_i hf
      obtain ⟨ys, e1, ho⟩ := Option.bind_eq_some_iff.mp ho
      split at ho
      · rename_i ha
        cases ho
        obtain ⟨a, vs, rfl, rs, hq⟩ := S.seq rd2 e1
        obtain ⟨c1, c2⟩ := flats_rd hf rd1 ha rs
        refine op_in_seq pins s σ H _ _ v u Q I rx ry ⟨a, vs, rfl, ?_, (flat_rd hf rd1).1, c1, ?_⟩
        · rcases hq with hq | hq
          · exact .inr hq.2
          · exact .inl hq.2
        · rw [if_neg Bool.false_ne_true, c2]
          exact q
      · cases ho
    · obtain ⟨p1, e1, ho⟩ := Option.bind_eq_some_iff.mp ho
      obtain ⟨p2, e2, ho⟩ := Option.bind_eq_some_iff.mp ho
      cases p2 with
      | list ps =>
        have ho : (if SeqAt.shaped p1 && SeqAt.shaped (.list ps) then some (ps.any fun z => PyData.eqv z p1) else none) = some b := ho
        split at ho
        · rename_i hs
          obtain ⟨s1, s2⟩ := Bool.and_eq_true_iff.mp hs
          cases ho
          exact op_inD hu65 pins s σ H _ _ v u Q I rx ry ⟨p1, ps, S.dp e1 rd1, S.dp e2 rd2, s1, s2, q⟩
        · cases ho
      | tuple ps =>
        have ho : (if SeqAt.shaped p1 && SeqAt.shaped (.tuple ps) then some (ps.any fun z => PyData.eqv z p1) else none) = some b := ho
        split at ho
        · rename_i hs
          obtain ⟨s1, s2⟩ := Bool.and_eq_true_iff.mp hs
          cases ho
          exact op_inDt hu65 pins s σ H _ _ v u Q I rx ry ⟨p1, ps, S.dp e1 rd1, S.dp e2 rd2, s1, s2, q⟩
        · cases ho
      | _ => cases ho
  | notin =>
    have ho : (if isFlat d then (w.seq e).bind fun ys => if ys.all isFlat then some (!(ys.any fun z => flatEq z d)) else none else (inD d e w).map fun b => !b) = some b := by
      rw [← ho]
      cases d <;> cases e <;> rfl
    split at ho
    · rename_i hf
      obtain ⟨ys, e1, ho⟩ := Option.bind_eq_some_iff.mp ho
      split at ho
      · rename_i ha
        cases ho
        obtain ⟨a, vs, rfl, rs, hq⟩ := S.seq rd2 e1
        obtain ⟨c1, c2⟩ := flats_rd hf rd1 ha rs
        refine op_notIn_seq pins s σ H _ _ v u Q I rx ry ⟨a, vs, rfl, ?_, (flat_rd hf rd1).1, c1, ?_⟩
        · rcases hq with hq | hq
          · exact .inr hq.2
          · exact .inl hq.2
        · rw [if_pos rfl, c2]
          exact q
      · cases ho
    · obtain ⟨b', ho, eb⟩ := Option.map_eq_some_iff.mp ho
      obtain ⟨p1, e1, ho⟩ := Option.bind_eq_some_iff.mp ho
      obtain ⟨p2, e2, ho⟩ := Option.bind_eq_some_iff.mp ho
      subst eb
      cases p2 with
      | list ps =>
        have ho : (if SeqAt.shaped p1 && SeqAt.shaped (.list ps) then some (ps.any fun z => PyData.eqv z p1) else none) = some b' := ho
        split at ho
        · rename_i hs
          obtain ⟨s1, s2⟩ := Bool.and_eq_true_iff.mp hs
          cases ho
          exact op_notInD hu65 pins s σ H _ _ v u Q I rx ry ⟨p1, ps, S.dp e1 rd1, S.dp e2 rd2, s1, s2, q⟩
        · cases ho
      | tuple ps =>
        have ho : (if SeqAt.shaped p1 && SeqAt.shaped (.tuple ps) then some (ps.any fun z => PyData.eqv z p1) else none) = some b' := ho
        split at ho
        · rename_i hs
          obtain ⟨s1, s2⟩ := Bool.and_eq_true_iff.mp hs
          cases ho
          exact op_notInDt hu65 pins s σ H _ _ v u Q I rx ry ⟨p1, ps, S.dp e1 rd1, S.dp e2 rd2, s1, s2, q⟩
        · cases ho
      | _ => cases ho
end
end Fz

/-! Q6: repr of data, ints of up to 4300 figures within. -/
namespace Fz
open PySem PySem.Spec PyProof.Rows L2

section
variable {prog : Program} {w : World} {A : Around} {E : Value → Shared → Prop} {s : Shared}
theorem intRepr {a : Int} {t : Tok} {Q : Value → Shared → Prop} (hn : s.heap.NoDigits) (lt : a.natAbs < 10 ^ 4300) (h : Q (.str (toString a) s.toks) { s with toks := s.toks + 1 }) :
    wpAny (model prog w) A (call (.builtin "int.__repr__") [.int a t]) Q E s := by
  refine wpAny_call_entry F.slot_int_repr (typeIs_int s a t) F.entry_int_repr ?_ (F.args_int_repr_1 _)
  unfold Builtin.«int.__repr__»
  show wpAny _ _ (do let z ← Builtin.overDigitLimit? a; _) _ _ s
  refine wpAny_bind (overDigitLimit_any hn (fun _ => ?_) fun ge => absurd lt (Nat.not_lt.mpr ge))
  exact wpAny_bind (wpAny_mkStr (wpAny_pure ⟨_, rfl, h⟩) (int_text_fits10 lt))
theorem intReprObj {a : Int} {t : Tok} {Q : Value → Shared → Prop} (hu : A.units < cLine) (hn : s.heap.NoDigits) (lt : a.natAbs < 10 ^ 4300) (h : Q (.str (toString a) s.toks) { s with toks := s.toks + 1 }) :
    wpAny (model prog w) A (pyReprObj (.int a t)) Q E s :=
  wpAny_pyReprObj_slot hu (typeIs_int s a t) F.slot_int_repr.toG (intRepr hn lt ⟨_, _, rfl, h⟩)
theorem intK {h0 : Heap} {a : Int} {t : Tok} (hn : h0.NoDigits) (lt : a.natAbs < 10 ^ 4300) : ReprK prog w [] h0 0 (.int a t) (toString a) := by
  intro base hb B g E' s' Q hg _ hu hk hQ
  rw [pyReprUnder_leaf (v := .int a t) (by omega) (fun _ e => nomatch e)]
  unfold pyRepr
  exact wpAny_bind (intReprObj (by omega) (Heap.NoDigits.keeps hn hk) lt (wpAny_pure (hQ s'.heap _ fun _ _ e => e)))
end
section
variable {prog : Program} {w : World} {h0 : Heap}
mutual
theorem showK (hn : h0.NoDigits) : ∀ {v : Value} {p : PyData} {as : List Addr}, Reads h0 v p as → canShow p = true → p.shown.length ≤ sizeLine → ∃ bs, ReadAtMost h0 p.depth bs ∧ ReprK prog w bs h0 p.depth v p.shown
  | _, _, _, .none, _, _ => ⟨[], (fun _ h => nomatch h), by
      simp only [PyData.shown]
      exact ReprK.of_is ReprIs.none _ _ _⟩
  | _, _, _, .bool b, _, _ => ⟨[], (fun _ h => nomatch h), by
      simp only [PyData.shown]
      exact ReprK.of_is (ReprIs.bool b) _ _ _⟩
  | _, _, _, .int i t, c, _ => ⟨[], (fun _ h => nomatch h), by
      simp only [PyData.shown, PyData.depth]
      exact intK hn (by simpa [canShow] using c)⟩
  | _, _, _, .str x t, _, z => ⟨[], (fun _ h => nomatch h), by
      simp only [PyData.shown]
      exact ReprK.of_is (ReprIs.str x t (by simpa only [PyData.shown] using z)) _ _ _⟩
  | _, _, _, .list (a := a) (vs := vs) (xs := ps) e1 e2 e3 e4, c, z => by
    have z' : (listText (PyData.shownAll ps)).length ≤ sizeLine := by simpa only [PyData.shown] using z
    obtain ⟨bs, m, k⟩ := showsK hn e4 (by simpa [canShow] using c) fun t ht => Nat.le_trans (listText_mem_le ht) z'
    have rr : Reads h0 (.ref a) (.list ps) _ := .list e1 e2 e3 e4
    have no : a ∉ bs := not_mem_of_deeper rr (by simp only [PyData.depth]; omega) m
    refine ⟨a :: bs, ReadAtMost.cons rr (by simp only [PyData.depth]; omega) m, ?_⟩
    simp only [PyData.depth, PyData.shown]
    obtain ⟨l⟩ := vs
    cases l with
    | nil =>
      have e5 : ReadsAll h0 [] ps _ := e4
      cases e5
      simp only [PyData.shownAll, listText_nil]
      exact ReprK.listEmpty e1 e2 e3
    | cons y l =>
      refine ReprK.list e1 e2 e3 no (by simpa using k.length_eq) fun i y e => ?_
      exact k.item i y (by simpa using e)
  | _, _, _, .tuple (a := a) (xs := ps) e1 e2 e3 e4, c, z => by
    have z' : (tupleText (PyData.shownAll ps)).length ≤ sizeLine := by simpa only [PyData.shown] using z
    obtain ⟨bs, m, k⟩ := showsK hn e4 (by simpa [canShow] using c) fun t ht => Nat.le_trans (tupleText_mem_le ht) z'
    have rr : Reads h0 (.ref a) (.tuple ps) _ := .tuple e1 e2 e3 e4
    have no : a ∉ bs := not_mem_of_deeper rr (by simp only [PyData.depth]; omega) m
    refine ⟨a :: bs, ReadAtMost.cons rr (by simp only [PyData.depth]; omega) m, ?_⟩
    simp only [PyData.depth, PyData.shown]
    exact ReprK.tuple e1 e2 e3 no k
  | _, _, _, .dict _ _ _ _ _, c, _ => by simp [canShow] at c
theorem showsK (hn : h0.NoDigits) : ∀ {vs : List Value} {ps : List PyData} {as : List Addr}, ReadsAll h0 vs ps as → canShows ps = true → (∀ t ∈ PyData.shownAll ps, t.length ≤ sizeLine) →
    ∃ bs, ReadAtMost h0 (PyData.depthAll ps) bs ∧ ReprAllK prog w bs h0 (PyData.depthAll ps) vs (PyData.shownAll ps)
  | _, _, _, .nil, _, _ => ⟨[], (fun _ h => nomatch h), by
      simp only [PyData.shownAll]
      exact ReprAllK.nil⟩
  | _, _, _, .cons (d := p) (ds := ps) r q, c, z => by
    obtain ⟨c1, c2⟩ := Bool.and_eq_true_iff.mp (show (canShow p && canShows ps) = true by simpa [canShows] using c)
    simp only [PyData.shownAll, List.mem_cons] at z
    obtain ⟨b1, m1, k1⟩ := showK hn r c1 (z _ (.inl rfl))
    obtain ⟨b2, m2, k2⟩ := showsK hn q c2 fun t ht => z t (.inr ht)
    refine ⟨b1 ++ b2, fun b hb => ?_, ?_⟩
    · simp only [PyData.depthAll]
      rcases List.mem_append.mp hb with hb | hb
      · obtain ⟨d', as', r', l⟩ := m1 b hb
        exact ⟨d', as', r', Nat.le_trans l (Nat.le_max_left _ _)⟩
      · obtain ⟨d', as', r', l⟩ := m2 b hb
        exact ⟨d', as', r', Nat.le_trans l (Nat.le_max_right _ _)⟩
    · simp only [PyData.depthAll, PyData.shownAll]
      refine ReprAllK.cons ((k1.more fun b hb => ?_).level_le (Nat.le_max_left _ _)) (k2.more_le (fun b hb => ?_) (Nat.le_max_right _ _))
      · exact List.mem_append_left _ hb
      · exact List.mem_append_right _ hb
end
end
section
variable {X : Cx}
theorem Inv.nodig {pins : List (Addr × Obj)} {σ : Sl} {H : Hp} {s : Shared} (I : Inv X pins σ H s) (hn : X.base.NoDigits) : s.heap.NoDigits := hn.keeps I.bk
theorem reprCall {prog : Program} {w : World} {A : Around} {E : Value → Shared → Prop} {s : Shared} {Q : Value → Shared → Prop} (hs : s.heap.NoDigits) (hg : A.guards = some []) (hu : A.units + 64 < cLine) :
    ∀ {u : Value} {p : PyData} {as : List Addr}, Reads s.heap u p as → canShow p = true → p.depth ≤ 60 → p.shown.length ≤ sizeLine →
      (∀ h' u' tk, (∀ b o, s.heap.get? b = some o → h'.get? b = some o) → Q (.str p.shown u') { s with heap := h', toks := tk }) → wpAny (model prog w) A (call (.builtin "repr") [u]) Q E s
  | _, _, _, .none, _, _, _, fin => by
    simp only [PyData.shown] at fin
    exact PySem.P.repr_of_none (fin s.heap _ _ fun _ _ e => e)
  | _, _, _, .bool b, _, _, _, fin => by
    simp only [PyData.shown] at fin
    exact PySem.P.repr_of_bool (fin s.heap _ _ fun _ _ e => e)
  | _, _, _, .int i t, ok, _, _, fin => by
    simp only [PyData.shown] at fin
    have hu1 : A.units + 1 < cLine := by omega
    exact call_repr_slot hu1 (typeIs_int s i t) F.slot_int_repr.toG (intRepr hs (by simpa [canShow] using ok) ⟨_, _, rfl, fin s.heap _ _ fun _ _ e => e⟩)
  | _, _, _, .str y t, _, _, z1, fin => by
    simp only [PyData.shown] at fin z1
    exact PySem.P.repr_of_str (fin s.heap _ _ fun _ _ e => e) z1
  | _, _, _, .list (a := a) (o := o) (vs := vs) (xs := ps) e1 e2 e3 e4, ok, z3, z1, fin => by
    simp only [PyData.shown] at z1 fin
    simp only [PyData.depth] at z3
    obtain ⟨bs, m, k⟩ := showsK (prog := prog) (w := w) hs e4 (by simpa [canShow] using ok) fun t ht => Nat.le_trans (listText_mem_le ht) z1
    have no : a ∉ bs := not_mem_of_deeper (.list e1 e2 e3 e4) (by simp only [PyData.depth]; omega) m
    have hu1 : A.units + 1 < cLine := by omega
    refine call_repr_slot hu1 ⟨o, e1, e2⟩ F.slot_list_repr.toG ?_
    obtain ⟨l⟩ := vs
    cases l with
    | nil =>
      have e5 : ReadsAll s.heap [] ps _ := e4
      cases e5
      simp only [PyData.shownAll, listText_nil] at fin
      exact call_list_repr_empty ⟨o, e1, e2⟩ e1 e3 ⟨_, _, rfl, fin s.heap _ _ fun _ _ e => e⟩
    | cons y l =>
      refine call_list_reprK e1 e2 e3 no (by simpa using k.length_eq) (fun i y e => k.item i y (by simpa using e)) (A := A.in1) hg (fun b _ => Clear.nil b) ?_ (fun _ _ e => e) (fun h' u' tk hk => ⟨_, _, rfl, fin h' u' tk hk⟩) z1
      show A.units + 1 + _ < cLine
      omega
  | _, _, _, .tuple (a := a) (o := o) (xs := ps) e1 e2 e3 e4, ok, z3, z1, fin => by
    simp only [PyData.shown] at z1 fin
    simp only [PyData.depth] at z3
    obtain ⟨bs, m, k⟩ := showsK (prog := prog) (w := w) hs e4 (by simpa [canShow] using ok) fun t ht => Nat.le_trans (tupleText_mem_le ht) z1
    have no : a ∉ bs := not_mem_of_deeper (.tuple e1 e2 e3 e4) (by simp only [PyData.depth]; omega) m
    have hu1 : A.units + 1 < cLine := by omega
    refine call_repr_slot hu1 ⟨o, e1, e2⟩ F.slot_tuple_repr ?_
    refine call_tuple_reprK e1 e2 e3 no k (A := A.in1) hg (fun b _ => Clear.nil b) ?_ (fun _ _ e => e) (fun h' u' tk hk => ⟨_, _, rfl, fin h' u' tk hk⟩) z1
    show A.units + 1 + _ < cLine
    omega
  | _, _, _, .dict _ _ _ _ _, ok, _, _, _ => by simp [canShow] at ok
theorem call_reprD (hn : X.base.NoDigits) (hg : X.A.guards = some []) (hu : X.A.units + 64 < cLine) :
    CallR X (.builtin "repr") fun xs H Q => ∃ x p, xs = [x] ∧ Dp X.K H x p ∧ reprOk p = true ∧ Q (.str p.shown) H := by
  intro pins s σ H xs us Q I r h
  obtain ⟨x, p, rfl, dp, ok, q⟩ := h
  obtain ⟨u, rfl, ru⟩ := vals1 r
  obtain ⟨as, rr⟩ := Dp.reads I p x u dp ru
  obtain ⟨ok, z⟩ := Bool.and_eq_true_iff.mp ok
  obtain ⟨ok, z2⟩ := Bool.and_eq_true_iff.mp ok
  refine reprCall (Inv.nodig I hn) hg hu rr ok (of_decide_eq_true z2) (Nat.le_trans (of_decide_eq_true z) (by decide)) fun h' u' tk k => ?_
  exact ⟨.str p.shown, H, I.kept k, ⟨_, rfl⟩, q⟩
end
end Fz

/-! Q6d: the sum of a tuple; a dict out of pairs. -/
namespace Fz
open PySem PySem.Spec PyProof.Rows L2
section
variable {prog : Program} {w : World} {A : Around} {E : Value → Shared → Prop} {s : Shared} {l : Addr}
theorem sum_intTup {xs : Array (Int × Tok)} {Q : Value → Shared → Prop} (hh : A.handled = none) (hl : s.heap.IsTuple l (intItems xs))
    (h : ∀ h' tk t', (∀ b o, s.heap.get? b = some o → h'.get? b = some o) → Q (.int (preSum (numAt xs) xs.size) t') { s with heap := h', toks := tk }) :
    wpAny (model prog w) A (call (.builtin "sum") [.ref l]) Q E s := by
  have hlt : l < s.heap.objs.size := by obtain ⟨_, e, _⟩ := hl; exact Heap.lt_size e
  refine call_sum_walkG (wpAny_pyIter_tuple hl ?_)
  have hsz : (s.heap.push { cls := .type "tuple_iterator", data := .fields #[.ref l, .int 0 0] }).objs.size = s.heap.objs.size + 1 := Heap.size_push ..
  refine ⟨_, [_, l], [_], _, _, _, numAt xs, rfl, Walks.tuple (A := A.in1) hh _ l (Nat.ne_of_lt hlt) (intItems xs), ⟨⟨_, Heap.get?_push_size _ rfl, rfl, rfl⟩, hl.push _⟩, fun c hc => ?_, (fun _ _ => intItems_at), fun h' tk t' hk => ?_⟩
  · show c < (s.heap.push _).objs.size
    rw [Heap.size_push]
    rcases List.mem_cons.mp hc with rfl | hc
    · exact Nat.lt_succ_self _
    · rw [List.mem_singleton] at hc; rw [hc]; exact Nat.lt_succ_of_lt hlt
  · have := h h' tk t' (fun b o e => hk b o (fun z => by rw [List.mem_singleton] at z; subst z; exact absurd (Heap.lt_size e) (Nat.lt_irrefl _)) (Heap.get?_push_of_some _ e))
    simpa [intItems] using this
theorem sumT_raw {its : List Value} {ns : List Int} {Q : Value → Shared → Prop} (hh : A.handled = none) (hl : s.heap.IsTuple l its.toArray) (hi : IntsAre its ns)
    (h : ∀ h' tk t', (∀ b o, s.heap.get? b = some o → h'.get? b = some o) → Q (.int ns.sum t') { s with heap := h', toks := tk }) : wpAny (model prog w) A (call (.builtin "sum") [.ref l]) Q E s := by
  obtain ⟨xs, e⟩ := hi.allInts.items
  have hn : numsOf (intItems xs).toList = ns := by rw [← e]; exact hi.numsOf
  rw [nums_intItems] at hn
  rw [e] at hl
  refine sum_intTup hh hl fun h' tk t' hk => ?_
  have := h h' tk t' hk
  rw [preSum_eq, List.take_of_length_le (by simp), hn]; exact this
end
section
variable {X : Cx}
theorem cr_sumT (hc : X.calm = true) : CallR X (.builtin "sum") (fun vs H Q => ∃ (a : Addr) (ns : List Int), vs = [V.ref a] ∧ SqT X.K H a (ns.map V.int) ∧ Q (.int ns.sum) H) := by
  intro pins s σ H vs us Q I r h
  obtain ⟨a, ns, rfl, hs, q⟩ := h
  obtain ⟨its, rv, hl, _⟩ := I.tuple hs
  rw [Vals.ref1 r]
  exact sumT_raw (I.ok.hd hc) hl rv.ints fun h' tk t' hk => ⟨.int _, H, I.kept hk, ⟨_, rfl⟩, q⟩
end
/-! ### a dict's keys -/
theorem putK_new {kvs : List (Key × V)} {k : Key} {v : V} (h : k ∉ kvs.map Prod.fst) : putK kvs k v = kvs ++ [(k, v)] := by
  unfold putK
  rw [if_neg]
  intro z
  obtain ⟨kv, hkv, e⟩ := List.any_eq_true.mp z
  exact h (List.mem_map.mpr ⟨kv, hkv, of_decide_eq_true e⟩)
theorem mergeK_app : ∀ (more kvs : List (Key × V)), ((kvs ++ more).map Prod.fst).Nodup → mergeK kvs more = kvs ++ more
  | [], kvs, _ => by simp [mergeK]
  | (k, v) :: r, kvs, h => by
    show mergeK (putK kvs k v) r = _
    rw [putK_new (by
      rw [List.map_append, List.nodup_append] at h
      intro z
      exact h.2.2 k z k (by simp) rfl), mergeK_app r _ (by simpa using h)]
    simp
theorem mergeK_nil {kvs : List (Key × V)} (h : (kvs.map Prod.fst).Nodup) : mergeK [] kvs = kvs := by
  rw [mergeK_app kvs [] (by simpa using h)]
  rfl
theorem lkp_at {K : PySem.W.Frag} {H : Hp} {A : Ad} : ∀ {ks : List Str} {ds : List D} {kvs : List (Key × V)} {x : Str} {d : D}, kvs.map Prod.fst = ks.map Sum.inr → RDs K H A ds (kvs.map Prod.snd) → lkp ks ds x = some d → ∃ v, valV kvs (.inr x) = some v ∧ RD K H A d v
  | [], _, _, _, _, _, _, e => by simp [lkp] at e
  | k :: ks, [], _, _, _, _, _, e => by simp [lkp] at e
  | k :: ks, d :: ds, [], _, _, h, _, _ => by simp at h
  | k :: ks, d :: ds, (k', v) :: kvs, x, d', h, r, e => by
    obtain ⟨h1, h2⟩ : k' = .inr k ∧ kvs.map Prod.fst = ks.map Sum.inr := by simpa using h
    obtain ⟨r1, r2⟩ := RDs.cons_iff.mp (show RDs K H A (d :: ds) (v :: kvs.map Prod.snd) from r)
    subst h1
    unfold lkp at e
    unfold valV
    by_cases hx : k = x
    · subst hx
      rw [if_pos rfl] at e
      cases e
      exact ⟨v, by simp, r1⟩
    · rw [if_neg hx] at e
      obtain ⟨v', q1, q2⟩ := lkp_at h2 r2 e
      refine ⟨v', ?_, q2⟩
      rw [List.find?_cons_of_neg (by simpa using hx)]
      exact q1
theorem prs_at {K : PySem.W.Frag} {H : Hp} {A : Ad} : ∀ {xs : List D} {vs : List V} {ks : List Str} {ds : List D}, RDs K H A xs vs → prsD xs = some (ks, ds) → ∃ (ps : List Addr) (kvs : List (Key × V)), vs = ps.map V.ref ∧ Paired (fun p kv => SqT K H p [kV kv.1, kv.2]) ps kvs ∧ kvs.map Prod.fst = ks.map Sum.inr ∧ RDs K H A ds (kvs.map Prod.snd)
  | [], _, ks, ds, h, e => by
    rw [show _ = [] from h]
    cases e
    exact ⟨[], [], rfl, .nil, rfl, rfl⟩
  | x :: xs, vs, ks, ds, h, e => by
    obtain ⟨v, r, rfl, h1, h2⟩ := h
    unfold prsD at e
    split at e
    · rename_i z
      cases z
    · rename_i k d rest heq
      cases heq
      obtain ⟨p, e1, e2⟩ := Option.map_eq_some_iff.mp e
      cases e2
      obtain ⟨ps, kvs, rfl, q1, q2, q3⟩ := prs_at h2 e1
      obtain ⟨a, us, rfl, t1, t2⟩ := h1
      obtain ⟨u1, us1, rfl, t3, t4⟩ := t2
      obtain ⟨u2, us2, rfl, t5, t6⟩ := t4
      rw [show us2 = [] from t6] at t1
      rw [show u1 = .str k from t3] at t1
      exact ⟨a :: ps, (.inr k, u2) :: kvs, rfl, .cons t1 q1, by simp [q2], RDs.cons_iff.mpr ⟨t5, q3⟩⟩
    · cases e
section
variable {K : PySem.W.Frag} {H H' : Hp} {A A' : Ad} {w w' : Wd} {σ : Sl} {Q : VK}
theorem Aft.newD {ks : List Str} {ds : List D} {kvs : List (Key × V)} (S : Sim K H A w σ) (h0 : ks ≠ []) (hn : ks.Nodup) (e : kvs.map Prod.fst = ks.map Sum.inr) (r : RDs K H A ds (kvs.map Prod.snd)) (q : Aft K A H σ (.dic ks ds) w Q) :
    ∀ p, H p = none → Q (.ref p) (upd H p (.dK (mergeK [] kvs))) := by
  intro p hp
  have hk : (kvs.map Prod.fst).Nodup := by
    rw [e]
    exact List.nodup_iff_pairwise_ne.mpr (List.pairwise_map.mpr ((List.nodup_iff_pairwise_ne.mp hn).imp fun h z => h (Sum.inr.inj z)))
  rw [mergeK_nil hk]
  obtain ⟨⟨f1, f2, f4⟩, f3⟩ := S.fresh hp
  have s0 : Step A H A (upd H p (.dK kvs)) := Step.new hp f4
  exact q A _ _ s0 (S.new hp) ⟨p, kvs, rfl, upd_same, ⟨f1, f2, f4⟩, f3, ⟨h0, hn, e⟩, r.step s0.toCar⟩
end
end Fz

/-! Q6s: sorted lists of ints, of tuples of ints; in, by values. -/
namespace Fz
open PySem PySem.Spec PyProof.Rows L2
/-! ### one sorted list -/
theorem perm_back {α β : Type} (f : α → β) {l m : List β} (h : l.Perm m) : ∀ ks : List α, m = ks.map f → ∃ L : List α, L.Perm ks ∧ l = L.map f := by
  induction h with
  | nil => intro ks e; exact ⟨[], by rw [List.map_eq_nil_iff.mp e.symm], rfl⟩
  | @cons x l1 l2 _ ih =>
    intro ks e
    cases ks with
    | nil => cases e
    | cons k ks =>
      rw [List.map_cons] at e
      obtain ⟨e1, e2⟩ := List.cons.inj e
      obtain ⟨L, p, e3⟩ := ih ks e2
      exact ⟨k :: L, p.cons k, by rw [List.map_cons, e1, e3]⟩
  | swap x y l =>
    intro ks e
    cases ks with
    | nil => cases e
    | cons k ks =>
      cases ks with
      | nil => cases e
      | cons k2 ks =>
        rw [List.map_cons, List.map_cons] at e
        obtain ⟨e1, e2⟩ := List.cons.inj e
        obtain ⟨e2, e3⟩ := List.cons.inj e2
        exact ⟨k2 :: k :: ks, List.Perm.swap _ _ _, by rw [List.map_cons, List.map_cons, e1, e2, e3]⟩
  | trans _ _ ih1 ih2 =>
    intro ks e
    obtain ⟨L, p, e1⟩ := ih2 ks e
    obtain ⟨L2, p2, e2⟩ := ih1 L e1
    exact ⟨L2, p2.trans p, e2⟩
theorem sorted_uniq {α : Type} (c : α → Int) : ∀ {l m : List α}, (∀ x ∈ l, ∀ y ∈ l, c x = c y → x = y) → l.Perm m → l.Pairwise (fun x y => c x ≤ c y) → m.Pairwise (fun x y => c x ≤ c y) → l = m
  | [], m, _, h, _, _ => (List.Perm.eq_nil h.symm).symm
  | x :: l, [], _, h, _, _ => absurd h.length_eq (by simp)
  | x :: l, y :: m, hi, h, hl, hm => by
    obtain ⟨l1, l2⟩ := List.pairwise_cons.mp hl
    obtain ⟨m1, m2⟩ := List.pairwise_cons.mp hm
    have hx : x ∈ y :: m := h.mem_iff.mp List.mem_cons_self
    have hy : y ∈ x :: l := h.mem_iff.mpr List.mem_cons_self
    have e1 : c x ≤ c y := by
      rcases List.mem_cons.mp hy with e | e
      · rw [e]; exact Int.le_refl _
      · exact l1 y e
    have e2 : c y ≤ c x := by
      rcases List.mem_cons.mp hx with e | e
      · rw [e]; exact Int.le_refl _
      · exact m1 x e
    have e : x = y := hi x List.mem_cons_self y hy (Int.le_antisymm e1 e2)
    subst e
    rw [sorted_uniq c (fun a ha b hb => hi a (List.mem_cons_of_mem _ ha) b (List.mem_cons_of_mem _ hb)) h.cons_inv l2 m2]
/-! ### ints -/
theorem insI_perm (x : Int) : ∀ l, (insI x l).Perm (x :: l)
  | [] => List.Perm.refl _
  | y :: ys => by
    unfold insI
    split
    · exact List.Perm.refl _
    · exact ((insI_perm x ys).cons y).trans (List.Perm.swap _ _ _)
theorem sortI_perm : ∀ l, (sortI l).Perm l
  | [] => List.Perm.refl _
  | x :: xs => (insI_perm x (sortI xs)).trans ((sortI_perm xs).cons x)
theorem insI_srt (x : Int) : ∀ l : List Int, l.Pairwise (· ≤ ·) → (insI x l).Pairwise (· ≤ ·)
  | [], _ => List.pairwise_singleton _ _
  | y :: ys, h => by
    obtain ⟨h1, h2⟩ := List.pairwise_cons.mp h
    unfold insI
    split
    · rename_i hxy
      refine List.pairwise_cons.mpr ⟨fun z hz => ?_, h⟩
      rcases List.mem_cons.mp hz with e | e
      · rw [e]; exact hxy
      · exact Int.le_trans hxy (h1 z e)
    · rename_i hxy
      refine List.pairwise_cons.mpr ⟨fun z hz => ?_, insI_srt x ys h2⟩
      rcases List.mem_cons.mp ((insI_perm x ys).mem_iff.mp hz) with e | e
      · rw [e]; omega
      · exact h1 z e
theorem sortI_srt : ∀ l, (sortI l).Pairwise (· ≤ ·)
  | [] => List.Pairwise.nil
  | x :: xs => insI_srt x _ (sortI_srt xs)
/-! ### tuples of ints -/
theorem insT_perm (x : List Int) : ∀ l, (insT x l).Perm (x :: l)
  | [] => List.Perm.refl _
  | y :: ys => by
    unfold insT
    split
    · exact List.Perm.refl _
    · exact ((insT_perm x ys).cons y).trans (List.Perm.swap _ _ _)
theorem sortT_perm : ∀ l, (sortT l).Perm l
  | [] => List.Perm.refl _
  | x :: xs => (insT_perm x (sortT xs)).trans ((sortT_perm xs).cons x)
theorem lex_code {B : Int} : ∀ {x y : List Int}, x.length = y.length → TS.Bd B x → TS.Bd B y → (lexLe x y = true → TS.code B x ≤ TS.code B y) ∧ (lexLe x y = false → TS.code B y ≤ TS.code B x) ∧ (TS.code B x = TS.code B y → x = y)
  | [], [], _, _, _ => ⟨fun _ => Int.le_refl _, fun _ => Int.le_refl _, fun _ => rfl⟩
  | [], _ :: _, h, _, _ => nomatch h
  | _ :: _, [], h, _, _ => nomatch h
  | a :: x, b :: y, hl, hx, hy => by
    have hl' : x.length = y.length := by simpa using hl
    have ih := lex_code hl' hx.tail hy.tail
    unfold lexLe
    by_cases h1 : a < b
    · have h := TS.code_lt hl' hx.tail hy.tail h1
      refine ⟨fun _ => Int.le_of_lt h, fun z => ?_, fun z => ?_⟩
      · rw [if_pos h1] at z; cases z
      · omega
    · by_cases h2 : b < a
      · have h := TS.code_lt hl'.symm hy.tail hx.tail h2
        refine ⟨fun z => ?_, fun _ => Int.le_of_lt h, fun z => ?_⟩
        · rw [if_neg h1, if_pos h2] at z; cases z
        · omega
      · have e : a = b := by omega
        subst e
        rw [if_neg h1, if_neg h2]
        have c1 : TS.code B (a :: x) = a * B ^ x.length + TS.code B x := rfl
        have c2 : TS.code B (a :: y) = a * B ^ y.length + TS.code B y := rfl
        rw [c1, c2, hl']
        refine ⟨fun z => ?_, fun z => ?_, fun z => ?_⟩
        · have := ih.1 z; omega
        · have := ih.2.1 z; omega
        · rw [ih.2.2 (by omega)]
theorem insT_srt {B : Int} {d : Nat} (x : List Int) (hx : x.length = d ∧ TS.Bd B x) : ∀ l : List (List Int), (∀ y ∈ l, y.length = d ∧ TS.Bd B y) → l.Pairwise (fun a b => TS.code B a ≤ TS.code B b) → (insT x l).Pairwise (fun a b => TS.code B a ≤ TS.code B b)
  | [], _, _ => List.pairwise_singleton _ _
  | y :: ys, hy, h => by
    obtain ⟨h1, h2⟩ := List.pairwise_cons.mp h
    have hy0 := hy y List.mem_cons_self
    have lc := lex_code (hx.1.trans hy0.1.symm) hx.2 hy0.2
    unfold insT
    split
    · rename_i hxy
      refine List.pairwise_cons.mpr ⟨fun z hz => ?_, h⟩
      rcases List.mem_cons.mp hz with e | e
      · rw [e]; exact lc.1 hxy
      · exact Int.le_trans (lc.1 hxy) (h1 z e)
    · rename_i hxy
      refine List.pairwise_cons.mpr ⟨fun z hz => ?_, insT_srt x hx ys (fun z hz => hy z (List.mem_cons_of_mem _ hz)) h2⟩
      rcases List.mem_cons.mp ((insT_perm x ys).mem_iff.mp hz) with e | e
      · rw [e]; exact lc.2.1 (by simpa using hxy)
      · exact h1 z e
theorem sortT_srt {B : Int} {d : Nat} : ∀ l : List (List Int), (∀ y ∈ l, y.length = d ∧ TS.Bd B y) → (sortT l).Pairwise (fun a b => TS.code B a ≤ TS.code B b)
  | [], _ => List.Pairwise.nil
  | x :: xs, h => insT_srt x (h x List.mem_cons_self) _ (fun y hy => h y (List.mem_cons_of_mem _ ((sortT_perm xs).mem_iff.mp hy))) (sortT_srt xs fun y hy => h y (List.mem_cons_of_mem _ hy))
theorem tupOk_of : ∀ {l : List (List Int)}, tupOk l = true → l.length < 64 ∧ ∃ d, 1 ≤ d ∧ ∀ y ∈ l, y.length = d ∧ TS.Bd 1000000000 y
  | [], _ => ⟨by decide, 1, Nat.le_refl _, fun _ h => nomatch h⟩
  | x :: xs, h => by
    obtain ⟨h1, h2⟩ := Bool.and_eq_true_iff.mp (show (decide (1 ≤ x.length ∧ (x :: xs).length < 64) && (x :: xs).all fun y => decide (y.length = x.length) && y.all fun i => decide (0 ≤ i ∧ i < 1000000000)) = true from h)
    obtain ⟨h3, h4⟩ := of_decide_eq_true h1
    refine ⟨h4, x.length, h3, fun y hy => ?_⟩
    obtain ⟨h5, h6⟩ := Bool.and_eq_true_iff.mp (List.all_eq_true.mp h2 y hy)
    exact ⟨of_decide_eq_true h5, fun i hi => of_decide_eq_true (List.all_eq_true.mp h6 i hi)⟩
theorem tups_at {K : PySem.W.Frag} {H : Hp} {A : Ad} : ∀ {xs : List D} {vs : List V} {ts : List (List Int)}, RDs K H A xs vs → tupD xs = some ts → ∃ ks : List (Addr × List Int), vs = ks.map (fun p => V.ref p.1) ∧ (∀ p ∈ ks, SqT K H p.1 (p.2.map V.int)) ∧ ks.map (·.2) = ts
  | [], vs, ts, h, e => by
    rw [show vs = [] from h]
    cases e
    exact ⟨[], rfl, fun _ h => (nomatch h), rfl⟩
  | x :: xs, vs, ts, h, e => by
    obtain ⟨v, r, rfl, h1, h2⟩ := h
    cases x with
    | tup ds =>
      obtain ⟨ns, e1, e⟩ := Option.bind_eq_some_iff.mp (show ((intD ds).bind fun ns => (tupD xs).map fun xs => ns :: xs) = some ts from e)
      obtain ⟨rest, e2, rfl⟩ := Option.map_eq_some_iff.mp e
      obtain ⟨a, us, rfl, t1, t2⟩ := h1
      obtain ⟨ks, rfl, k1, k2⟩ := tups_at h2 e2
      have ev := t2.ints e1
      subst ev
      refine ⟨(a, ns) :: ks, rfl, fun p hp => ?_, by rw [List.map_cons, k2]⟩
      rcases List.mem_cons.mp hp with rfl | hp
      · exact t1
      · exact k1 p hp
    | _ => cases e
theorem tups_rd {K : PySem.W.Frag} {H : Hp} {A : Ad} : ∀ {ks : List (Addr × List Int)}, (∀ p ∈ ks, SqT K H p.1 (p.2.map V.int)) → RDs K H A ((ks.map (·.2)).map tupI) (ks.map fun p => V.ref p.1)
  | [], _ => (rfl : _ = _)
  | p :: ks, h => by
    have ri : ∀ ns : List Int, RDs K H A (ns.map D.int) (ns.map V.int) := fun ns => by
      induction ns with
      | nil => exact (rfl : _ = _)
      | cons n ns ih => exact RDs.cons_iff.mpr ⟨rfl, ih⟩
    exact RDs.cons_iff.mpr ⟨⟨p.1, _, rfl, h p List.mem_cons_self, ri p.2⟩, tups_rd fun q hq => h q (List.mem_cons_of_mem _ hq)⟩
section
variable {X : Cx}
theorem cr_sortedTs : CallR X (.builtin "sorted") (fun vs H Q => ∃ (a : Addr) (ks : List (Addr × List Int)) (d : Nat) (B : Int), vs = [V.ref a] ∧ SqL X.K H a (ks.map fun p => V.ref p.1) ∧ (∀ p ∈ ks, SqT X.K H p.1 (p.2.map V.int)) ∧ ks.length < 64 ∧ 1 ≤ d ∧ (∀ p ∈ ks, p.2.length = d ∧ TS.Bd B p.2) ∧
    ∀ (L : List (Addr × List Int)) (p : Addr), L.Perm ks → L.Pairwise (fun q r => TS.code B q.2 ≤ TS.code B r.2) → H p = none → Q (.ref p) (upd H p (.lst (L.map fun q => V.ref q.1)))) := by
  intro pins s σ H vs us Q I r h
  obtain ⟨a, ks, d, B, rfl, hl, hk, h64, hd, hB, q⟩ := h
  rw [Vals.ref1 r]
  obtain ⟨its, rv, pl, hz⟩ := I.list hl
  have ei := refs_of_vals rv
  subst ei
  have ti : ∀ p ∈ ks, TS.TupInts s.heap (.ref p.1) p.2 := fun p hp => by
    obtain ⟨us, r2, t, _⟩ := I.tuple (hk p hp)
    exact ⟨p.1, us.toArray, rfl, t, by simpa using r2.ints⟩
  refine TS.sorted_tups (d := d) (B := B) pl.isList (by rw [List.length_map]; exact h64) hd (fun v hv => ?_) fun out h1 h2 => ?_
  · obtain ⟨p, hp, rfl⟩ := List.mem_map.mp hv
    exact ⟨p.2, ti p hp, hB p hp⟩
  obtain ⟨L, pm, eo⟩ := perm_back (fun p : Addr × List Int => Value.ref p.1) h1 ks rfl
  have pw : L.Pairwise (fun q r => TS.code B q.2 ≤ TS.code B r.2) := by
    rw [eo, List.pairwise_map] at h2
    refine List.Pairwise.imp_of_mem (fun {q r} hq hr h => ?_) h2
    rw [(ti q (pm.mem_iff.mp hq)).ints, (ti r (pm.mem_iff.mp hr)).ints] at h
    exact h
  obtain ⟨ep, he'⟩ := PyProof.Rows.sortedAll_at s.heap (ks.map fun p => Value.ref p.1) out
  have hlen : (L.map fun q => V.ref q.1).length ≤ sizeLine := by rw [List.length_map, pm.length_eq, sizeLine_eq]; omega
  refine ⟨.ref _, upd H (s.heap.objs.size + 1) (.lst (L.map fun q => V.ref q.1)), I.laid (t' := s.toks) (fun _ _ => PyProof.Rows.sortedAll_old) (Nat.le_succ _) ⟨hlen, out.toList, ep, by rw [eo]; exact vals_of_refs L, by rw [Array.toArray_toList]; exact he'⟩, rfl, q L _ pm pw (I.hok.fresh (Nat.le_succ _))⟩
end
end Fz

/-! Q7: built-ins and methods upon data. -/
namespace Fz
open PySem PySem.Spec PyProof.Rows L2

theorem maxL_spec : ∀ (xs : List Int), xs ≠ [] → maxL xs ∈ xs ∧ ∀ y ∈ xs, y ≤ maxL xs
  | [], h => absurd rfl h
  | [x], _ => ⟨by simp [maxL], by simp [maxL]⟩
  | x :: y :: r, _ => by
    obtain ⟨h1, h2⟩ := maxL_spec (y :: r) (by simp)
    show (if x < maxL (y :: r) then maxL (y :: r) else x) ∈ _ ∧ ∀ z ∈ _, z ≤ (if x < maxL (y :: r) then maxL (y :: r) else x)
    split
    · refine ⟨List.mem_cons_of_mem _ h1, fun z hz => ?_⟩
      rcases List.mem_cons.mp hz with rfl | hz
      · omega
      · exact h2 z hz
    · refine ⟨List.mem_cons_self, fun z hz => ?_⟩
      rcases List.mem_cons.mp hz with rfl | hz
      · omega
      · have := h2 z hz
        omega
theorem minL_spec : ∀ (xs : List Int), xs ≠ [] → minL xs ∈ xs ∧ ∀ y ∈ xs, minL xs ≤ y
  | [], h => absurd rfl h
  | [x], _ => ⟨by simp [minL], by simp [minL]⟩
  | x :: y :: r, _ => by
    obtain ⟨h1, h2⟩ := minL_spec (y :: r) (by simp)
    show (if minL (y :: r) < x then minL (y :: r) else x) ∈ _ ∧ ∀ z ∈ _, (if minL (y :: r) < x then minL (y :: r) else x) ≤ z
    split
    · refine ⟨List.mem_cons_of_mem _ h1, fun z hz => ?_⟩
      rcases List.mem_cons.mp hz with rfl | hz
      · omega
      · exact h2 z hz
    · refine ⟨List.mem_cons_self, fun z hz => ?_⟩
      rcases List.mem_cons.mp hz with rfl | hz
      · omega
      · have := h2 z hz
        omega
/-- how a built-in stands in the program: its name, its value -/
def biName : Bi → Str
  | .len => "len"
  | .abs => "abs"
  | .int => "int"
  | .bool => "bool"
  | .repr => "repr"
  | .sum => "sum"
  | .max => "max"
  | .min => "min"
  | .tuple => "tuple"
  | .list => "list"
  | .sorted => "sorted"
  | .all => "all"
  | .any => "any"
  | .str => "str"
  | .isinst => "isinstance"
  | .dict => "dict"
/-- its kind: a function, or a class -/
def biTy : Bi → Bool
  | .int => true
  | .bool => true
  | .tuple => true
  | .list => true
  | .str => true
  | .dict => true
  | _ => false
def biS : Bi → String
  | .len => "len"
  | .abs => "abs"
  | .int => "int"
  | .bool => "bool"
  | .repr => "repr"
  | .sum => "sum"
  | .max => "max"
  | .min => "min"
  | .tuple => "tuple"
  | .list => "list"
  | .sorted => "sorted"
  | .all => "all"
  | .any => "any"
  | .str => "str"
  | .isinst => "isinstance"
  | .dict => "dict"
def biV (b : Bi) : Value := if biTy b then .type (biS b) else .builtin (biS b)
def rBi (K : PySem.W.Frag) (b : Bi) (md : Nat) : List V → Hp → VK → Prop := fun vs H Q => ∃ A w σ ds r w', Sim K H A w σ ∧ RDs K H A ds vs ∧ biF b md ds w = .ok (r, w') ∧ Aft K A H σ r w' Q
section
variable {X : Cx}
theorem one_of {K : PySem.W.Frag} {H : Hp} {A : Ad} {d : D} {vs : List V} (h : RDs K H A [d] vs) : ∃ v, vs = [v] ∧ RD K H A d v := by
  obtain ⟨v, r, rfl, x, y⟩ := h
  rw [show r = [] from y]
  exact ⟨v, rfl, x⟩
theorem two_of {K : PySem.W.Frag} {H : Hp} {A : Ad} {d e : D} {vs : List V} (h : RDs K H A [d, e] vs) : ∃ v u, vs = [v, u] ∧ RD K H A d v ∧ RD K H A e u := by
  obtain ⟨v, r, rfl, x, y⟩ := h
  obtain ⟨u, rfl, z⟩ := one_of y
  exact ⟨v, u, rfl, x, z⟩
theorem intsL {K : PySem.W.Frag} {H : Hp} {A : Ad} {w : Wd} {σ : Sl} (S : Sim K H A w σ) {d : D} {v : V} {ns : List Int} (r : RD K H A d v) (t : isT d = false) (e : (w.seq d).bind intD = some ns) : ∃ a, v = .ref a ∧ SqL K H a (ns.map V.int) := by
  obtain ⟨xs, e1, e2⟩ := Option.bind_eq_some_iff.mp e
  obtain ⟨a, vs, rfl, rs, h⟩ := S.seq r e1
  have ev := rs.ints e2
  subst ev
  rcases h with ⟨h, _⟩ | ⟨_, h⟩
  · rw [t] at h
    cases h
  · exact ⟨a, rfl, h⟩
theorem boolsL {K : PySem.W.Frag} {H : Hp} {A : Ad} {w : Wd} {σ : Sl} (S : Sim K H A w σ) {d : D} {v : V} {ns : List Bool} (r : RD K H A d v) (t : isT d = false) (e : (w.seq d).bind boolD = some ns) : ∃ a, v = .ref a ∧ SqL K H a (ns.map V.bl) := by
  obtain ⟨xs, e1, e2⟩ := Option.bind_eq_some_iff.mp e
  obtain ⟨a, vs, rfl, rs, h⟩ := S.seq r e1
  have ev := rs.bools e2
  subst ev
  rcases h with ⟨h, _⟩ | ⟨_, h⟩
  · rw [t] at h
    cases h
  · exact ⟨a, rfl, h⟩
theorem bi_len {md : Nat} : CallR X (biV .len) (rBi X.K .len md) := by
  intro pins s σ H vs us Q I rv h
  obtain ⟨A, w, σ', ds, r, w', S, rs, ho, q⟩ := h
  match ds, ho with
  | [], ho => cases ho
  | _ :: _ :: _, ho => 
    exfalso
    rename_i d e t
    cases d <;> cases ho
  | [d], ho =>
    obtain ⟨v, rfl, rd1⟩ := one_of rs
    by_cases hs : ∃ z, d = .str z
    · obtain ⟨z, rfl⟩ := hs
      have ho : (if z.length ≤ mxLen then R.ok (D.int z.length, w) else .err) = .ok (r, w') := ho
      split at ho
      · rename_i hz
        cases ho
        obtain rfl : v = .str z := rd1
        exact call_len pins s σ H _ us Q I rv ⟨.str z, z.length, rfl, ⟨Nat.le_trans hz (by decide), rfl⟩, q.here S rfl⟩
      · cases ho
    · have ho : ((R.of (w.seq d)).bd fun xs => R.ok (D.int xs.length, w)) = .ok (r, w') := by
        rw [← ho]
        cases d <;> first | rfl | exact absurd ⟨_, rfl⟩ hs
      obtain ⟨xs, e1, ho⟩ := bd_split ho
      cases ho
      obtain ⟨a, ys, rfl, rs2, hq⟩ := S.seq rd1 (of_split e1)
      refine call_len pins s σ H _ us Q I rv ⟨.ref a, xs.length, rfl, ?_, q.here S rfl⟩
      rcases hq with ⟨_, hq⟩ | ⟨_, hq⟩
      · exact .inr ⟨ys, hq, rs2.length.symm⟩
      · exact .inl ⟨ys, hq, rs2.length.symm⟩
theorem bi_abs {md : Nat} : CallR X (biV .abs) (rBi X.K .abs md) := by
  intro pins s σ H vs us Q I rv h
  obtain ⟨A, w, σ', ds, r, w', S, rs, ho, q⟩ := h
  match ds, ho with
  | [], ho => cases ho
  | d :: _ :: _, ho => cases d <;> cases ho
  | [d], ho =>
    obtain ⟨v, rfl, rd1⟩ := one_of rs
    cases d with
    | int i =>
      cases ho
      obtain rfl : v = .int i := rd1
      exact call_abs pins s σ H _ us Q I rv ⟨i, rfl, q.here S rfl⟩
    | _ => cases ho
theorem bi_int {md : Nat} : CallR X (biV .int) (rBi X.K .int md) := by
  intro pins s σ H vs us Q I rv h
  obtain ⟨A, w, σ', ds, r, w', S, rs, ho, q⟩ := h
  match ds, ho with
  | [], ho => cases ho
  | d :: _ :: _, ho => cases d <;> cases ho
  | [d], ho =>
    obtain ⟨v, rfl, rd1⟩ := one_of rs
    cases d with
    | int i =>
      cases ho
      obtain rfl : v = .int i := rd1
      exact call_int1 pins s σ H _ us Q I rv (.inl ⟨i, rfl, q.here S rfl⟩)
    | bl i =>
      cases ho
      obtain rfl : v = .bl i := rd1
      exact call_int1 pins s σ H _ us Q I rv (.inr ⟨i, rfl, q.here S rfl⟩)
    | _ => cases ho
theorem bi_bool {md : Nat} : CallR X (biV .bool) (rBi X.K .bool md) := by
  intro pins s σ H vs us Q I rv h
  obtain ⟨A, w, σ', ds, r, w', S, rs, ho, q⟩ := h
  match ds, ho with
  | [], ho => cases ho
  | d :: _ :: _, ho => cases d <;> cases ho
  | [d], ho =>
    obtain ⟨v, rfl, rd1⟩ := one_of rs
    cases d with
    | int i =>
      cases ho
      obtain rfl : v = .int i := rd1
      exact call_bool1 pins s σ H _ us Q I rv (.inl ⟨i, rfl, q.here S rfl⟩)
    | bl i =>
      cases ho
      obtain rfl : v = .bl i := rd1
      exact call_bool1 pins s σ H _ us Q I rv (.inr ⟨i, rfl, q.here S rfl⟩)
    | _ => cases ho
theorem bi_repr {md : Nat} (hn : X.base.NoDigits) (hg : X.A.guards = some []) (hu : X.A.units + 64 < cLine) : CallR X (biV .repr) (rBi X.K .repr md) := by
  intro pins s σ H vs us Q I rv h
  obtain ⟨A, w, σ', ds, r, w', S, rs, ho, q⟩ := h
  match ds, ho with
  | [], ho => cases ho
  | _ :: _ :: _, ho => cases ho
  | [d], ho =>
    obtain ⟨v, rfl, rd1⟩ := one_of rs
    obtain ⟨p, e1, ho⟩ := bd_split (show ((R.of (w.py d)).bd fun p => if reprOk p then R.ok (D.str p.shown, w) else .err) = .ok (r, w') from ho)
    split at ho
    · rename_i hp
      cases ho
      exact call_reprD hn hg hu pins s σ H _ us Q I rv ⟨v, p, rfl, S.dp (of_split e1) rd1, hp, q.here S rfl⟩
    · cases ho
theorem bi_sum {md : Nat} (hc : X.calm = true) : CallR X (biV .sum) (rBi X.K .sum md) := by
  intro pins s σ H vs us Q I rv h
  obtain ⟨A, w, σ', ds, r, w', S, rs, ho, q⟩ := h
  match ds, ho with
  | [], ho => cases ho
  | _ :: _ :: _, ho => cases ho
  | [d], ho =>
    obtain ⟨v, rfl, rd1⟩ := one_of rs
    obtain ⟨ns, e1, ho⟩ := bd_split (show ((R.of ((w.seq d).bind intD)).bd fun xs => R.ok (D.int xs.sum, w)) = .ok (r, w') from ho)
    cases ho
    obtain ⟨xs, e2, e3⟩ := Option.bind_eq_some_iff.mp (of_split e1)
    obtain ⟨a, ys, rfl, rs2, hq⟩ := S.seq rd1 e2
    have ev := rs2.ints e3
    subst ev
    rcases hq with ⟨_, hq⟩ | ⟨_, hq⟩
    · exact cr_sumT hc pins s σ H _ us Q I rv ⟨a, ns, rfl, hq, q.here S rfl⟩
    · exact cr_sum hc pins s σ H _ us Q I rv ⟨a, ns, rfl, hq, q.here S rfl⟩
theorem bi_sorted {md : Nat} : CallR X (biV .sorted) (rBi X.K .sorted md) := by
  intro pins s σ H vs us Q I rv h
  obtain ⟨A, w, σ', ds, r, w', S, rs, ho, q⟩ := h
  match ds, ho with
  | [], ho => cases ho
  | _ :: _ :: _, ho => cases ho
  | [d], ho =>
    obtain ⟨v, rfl, rd1⟩ := one_of rs
    have ho : (if isT d then R.err else (R.of (w.seq d)).bd fun xs => match intD xs with
      | some ns => newL md ((sortI ns).map D.int) w
      | none => (R.of (tupD xs)).bd fun ts => if tupOk ts then newL md ((sortT ts).map tupI) w else .err) = .ok (r, w') := ho
    split at ho
    · cases ho
    · rename_i ht
      obtain ⟨xs, e1, ho⟩ := bd_split ho
      obtain ⟨a, ys, rfl, rs2, hq⟩ := S.seq rd1 (of_split e1)
      rcases hq with ⟨z, _⟩ | ⟨_, hq⟩
      · exact absurd z ht
      split at ho
      · rename_i ns hns
        have ev := rs2.ints hns
        subst ev
        refine cr_sortedI pins s σ H _ us Q I rv ⟨a, ns, rfl, hq, fun ns' p pm pw hp => ?_⟩
        have e : ns' = sortI ns := sorted_uniq id (fun _ _ _ _ h => h) (pm.trans (sortI_perm ns).symm) pw (sortI_srt ns)
        subst e
        have ri : RDs X.K H A ((sortI ns).map D.int) ((sortI ns).map V.int) := by
          generalize sortI ns = l
          induction l with
          | nil => exact (rfl : _ = _)
          | cons n l ih => exact RDs.cons_iff.mpr ⟨rfl, ih⟩
        exact (Aft.newL ho S ri q).2 p hp
      · obtain ⟨ts, e2, ho⟩ := bd_split ho
        split at ho
        · rename_i hok
          obtain ⟨h64, d, hd, hB⟩ := tupOk_of hok
          obtain ⟨ks, rfl, k1, k2⟩ := tups_at rs2 (of_split e2)
          have hB' : ∀ p ∈ ks, p.2.length = d ∧ TS.Bd 1000000000 p.2 := fun p hp => hB p.2 (by rw [← k2]; exact List.mem_map.mpr ⟨p, hp, rfl⟩)
          refine cr_sortedTs pins s σ H _ us Q I rv ⟨a, ks, d, 1000000000, rfl, hq, k1, by rw [← k2, List.length_map] at h64; exact h64, hd, hB', fun L p pm pw hp => ?_⟩
          have e : L.map (·.2) = sortT ts := by
            refine sorted_uniq (TS.code 1000000000) (fun x hx y hy hc => ?_) ?_ ?_ (sortT_srt ts hB)
            · obtain ⟨px, hpx, rfl⟩ := List.mem_map.mp hx
              obtain ⟨py, hpy, rfl⟩ := List.mem_map.mp hy
              have b1 := hB' px (pm.mem_iff.mp hpx)
              have b2 := hB' py (pm.mem_iff.mp hpy)
              exact (lex_code (b1.1.trans b2.1.symm) b1.2 b2.2).2.2 hc
            · exact ((pm.map (·.2)).trans (List.Perm.of_eq k2)).trans (sortT_perm ts).symm
            · exact List.pairwise_map.mpr pw
          have ri := tups_rd (K := X.K) (H := H) (A := A) (ks := L) fun p hp => k1 p (pm.mem_iff.mp hp)
          rw [e] at ri
          exact (Aft.newL ho S ri q).2 p hp
        · cases ho
theorem bi_dict {md : Nat} (hc : X.calm = true) : CallR X (biV .dict) (rBi X.K .dict md) := by
  intro pins s σ H vs us Q I rv h
  obtain ⟨A, w, σ', ds, r, w', S, rs, ho, q⟩ := h
  match ds, ho with
  | [], ho => cases ho
  | _ :: _ :: _, ho => cases ho
  | [d], ho =>
    obtain ⟨v, rfl, rd1⟩ := one_of rs
    have ho : (if isT d then R.err else (R.of ((w.seq d).bind prsD)).bd fun p => if p.1.Nodup ∧ p.1 ≠ [] ∧ p.1.length ≤ 15 then R.ok (D.dic p.1 p.2, w) else R.err) = .ok (r, w') := ho
    split at ho
    · cases ho
    · rename_i ht
      obtain ⟨⟨ks, es⟩, e1, ho⟩ := bd_split ho
      split at ho
      · rename_i hk
        cases ho
        obtain ⟨xs, e2, e3⟩ := Option.bind_eq_some_iff.mp (of_split e1)
        obtain ⟨a, ys, rfl, rs2, hq⟩ := S.seq rd1 e2
        rcases hq with ⟨z, _⟩ | ⟨_, hq⟩
        · exact absurd z ht
        · obtain ⟨ps, kvs, rfl, q1, q2, q3⟩ := prs_at rs2 e3
          exact call_dictP hc pins s σ H _ us Q I rv ⟨a, ps, kvs, rfl, hq, q1, Aft.newD S hk.2.1 hk.1 q2 q3 q⟩
      · cases ho
theorem bi_max {md : Nat} (hc : X.calm = true) : CallR X (biV .max) (rBi X.K .max md) := by
  intro pins s σ H vs us Q I rv h
  obtain ⟨A, w, σ', ds, r, w', S, rs, ho, q⟩ := h
  match ds, ho with
  | [], ho => cases ho
  | d :: e :: _ :: _, ho => cases d <;> first | (cases ho) | (cases e <;> cases ho)
  | [d, e], ho =>
    obtain ⟨v, u, rfl, rd1, rd2⟩ := two_of rs
    cases d with
    | int i =>
      cases e with
      | int j =>
        cases ho
        obtain rfl : v = .int i := rd1
        obtain rfl : u = .int j := rd2
        exact call_max2 hc pins s σ H _ us Q I rv ⟨i, j, rfl, q.here S rfl⟩
      | _ => cases ho
    | _ => cases e <;> cases ho
  | [d], ho =>
    obtain ⟨v, rfl, rd1⟩ := one_of rs
    have ho : (if isT d then R.err else (R.of ((w.seq d).bind intD)).bd fun xs => if xs.isEmpty then R.err else R.ok (D.int (maxL xs), w)) = .ok (r, w') := by
      rw [← ho]
      cases d <;> rfl
    split at ho
    · cases ho
    · rename_i ht
      obtain ⟨ns, e1, ho⟩ := bd_split ho
      split at ho
      · cases ho
      · rename_i he
        cases ho
        obtain ⟨a, rfl, hq⟩ := intsL S rd1 (by simpa using ht) (of_split e1)
        have hne : ns ≠ [] := fun z => he (by rw [z]; rfl)
        obtain ⟨m1, m2⟩ := maxL_spec ns hne
        refine cr_max hc pins s σ H _ us Q I rv ⟨a, ns, rfl, hq, List.length_pos_iff.mpr hne, fun m hm hle => ?_⟩
        have em : m = maxL ns := Int.le_antisymm (m2 m hm) (hle _ m1)
        rw [em]
        exact q.here S rfl
theorem bi_min {md : Nat} (hc : X.calm = true) : CallR X (biV .min) (rBi X.K .min md) := by
  intro pins s σ H vs us Q I rv h
  obtain ⟨A, w, σ', ds, r, w', S, rs, ho, q⟩ := h
  match ds, ho with
  | [], ho => cases ho
  | d :: e :: _ :: _, ho => cases d <;> first | (cases ho) | (cases e <;> cases ho)
  | [d, e], ho =>
    obtain ⟨v, u, rfl, rd1, rd2⟩ := two_of rs
    cases d with
    | int i =>
      cases e with
      | int j =>
        cases ho
        obtain rfl : v = .int i := rd1
        obtain rfl : u = .int j := rd2
        exact call_min2 hc pins s σ H _ us Q I rv ⟨i, j, rfl, q.here S rfl⟩
      | _ => cases ho
    | _ => cases e <;> cases ho
  | [d], ho =>
    obtain ⟨v, rfl, rd1⟩ := one_of rs
    have ho : (if isT d then R.err else (R.of ((w.seq d).bind intD)).bd fun xs => if xs.isEmpty then R.err else R.ok (D.int (minL xs), w)) = .ok (r, w') := by
      rw [← ho]
      cases d <;> rfl
    split at ho
    · cases ho
    · rename_i ht
      obtain ⟨ns, e1, ho⟩ := bd_split ho
      split at ho
      · cases ho
      · rename_i he
        cases ho
        obtain ⟨a, rfl, hq⟩ := intsL S rd1 (by simpa using ht) (of_split e1)
        have hne : ns ≠ [] := fun z => he (by rw [z]; rfl)
        obtain ⟨m1, m2⟩ := minL_spec ns hne
        refine cr_min hc pins s σ H _ us Q I rv ⟨a, ns, rfl, hq, List.length_pos_iff.mpr hne, fun m hm hle => ?_⟩
        have em : m = minL ns := Int.le_antisymm (hle _ m1) (m2 m hm)
        rw [em]
        exact q.here S rfl
theorem bi_tuple {md : Nat} : CallR X (biV .tuple) (rBi X.K .tuple md) := by
  intro pins s σ H vs us Q I rv h
  obtain ⟨A, w, σ', ds, r, w', S, rs, ho, q⟩ := h
  match ds, ho with
  | [], ho => cases ho
  | _ :: _ :: _, ho => cases ho
  | [d], ho =>
    obtain ⟨v, rfl, rd1⟩ := one_of rs
    obtain ⟨xs, e1, ho⟩ := bd_split (show ((R.of (w.seq d)).bd fun xs => newT xs w) = .ok (r, w') from ho)
    obtain ⟨a, ys, rfl, rs2, hq⟩ := S.seq rd1 (of_split e1)
    obtain ⟨_, qn⟩ := Aft.newT ho S rs2 q
    obtain ⟨rfl, rfl, _⟩ := newT_ok ho rs2
    rcases hq with ⟨_, hq⟩ | ⟨_, hq⟩
    · exact call_tuple_of pins s σ H _ us Q I rv ⟨a, ys, rfl, .inr ⟨hq, q.here S ⟨a, ys, rfl, hq, rs2⟩⟩⟩
    · exact call_tuple_of pins s σ H _ us Q I rv ⟨a, ys, rfl, .inl ⟨hq, qn⟩⟩
theorem bi_list {md : Nat} : CallR X (biV .list) (rBi X.K .list md) := by
  intro pins s σ H vs us Q I rv h
  obtain ⟨A, w, σ', ds, r, w', S, rs, ho, q⟩ := h
  match ds, ho with
  | [], ho => cases ho
  | _ :: _ :: _, ho => cases ho
  | [d], ho =>
    obtain ⟨v, rfl, rd1⟩ := one_of rs
    obtain ⟨xs, e1, ho⟩ := bd_split (show ((R.of (w.seq d)).bd fun xs => newL md xs w) = .ok (r, w') from ho)
    obtain ⟨a, ys, rfl, rs2, hq⟩ := S.seq rd1 (of_split e1)
    obtain ⟨_, qn⟩ := Aft.newL ho S rs2 q
    refine call_list_of pins s σ H _ us Q I rv ⟨a, ys, rfl, ?_, qn⟩
    rcases hq with ⟨_, hq⟩ | ⟨_, hq⟩
    · exact .inr hq
    · exact .inl hq
theorem bi_all {md : Nat} (hc : X.calm = true) : CallR X (biV .all) (rBi X.K .all md) := by
  intro pins s σ H vs us Q I rv h
  obtain ⟨A, w, σ', ds, r, w', S, rs, ho, q⟩ := h
  match ds, ho with
  | [], ho => cases ho
  | _ :: _ :: _, ho => cases ho
  | [d], ho =>
    obtain ⟨v, rfl, rd1⟩ := one_of rs
    have ho : (if isT d then R.err else (R.of ((w.seq d).bind boolD)).bd fun xs => R.ok (D.bl (xs.all id), w)) = .ok (r, w') := ho
    split at ho
    · cases ho
    · rename_i ht
      obtain ⟨ns, e1, ho⟩ := bd_split ho
      cases ho
      obtain ⟨a, rfl, hq⟩ := boolsL S rd1 (by simpa using ht) (of_split e1)
      exact cr_all hc pins s σ H _ us Q I rv ⟨a, ns, rfl, hq, q.here S rfl⟩
theorem bi_any {md : Nat} (hc : X.calm = true) : CallR X (biV .any) (rBi X.K .any md) := by
  intro pins s σ H vs us Q I rv h
  obtain ⟨A, w, σ', ds, r, w', S, rs, ho, q⟩ := h
  match ds, ho with
  | [], ho => cases ho
  | _ :: _ :: _, ho => cases ho
  | [d], ho =>
    obtain ⟨v, rfl, rd1⟩ := one_of rs
    have ho : (if isT d then R.err else (R.of ((w.seq d).bind boolD)).bd fun xs => R.ok (D.bl (xs.any id), w)) = .ok (r, w') := ho
    split at ho
    · cases ho
    · rename_i ht
      obtain ⟨ns, e1, ho⟩ := bd_split ho
      cases ho
      obtain ⟨a, rfl, hq⟩ := boolsL S rd1 (by simpa using ht) (of_split e1)
      exact cr_any hc pins s σ H _ us Q I rv ⟨a, ns, rfl, hq, q.here S rfl⟩
theorem bi_sound (b : Bi) (md : Nat) (hc : X.calm = true) (hn : X.base.NoDigits) (hg : X.A.guards = some []) (hu : X.A.units + 64 < cLine) : CallR X (biV b) (rBi X.K b md) := by
  cases b with
  | len => exact bi_len
  | abs => exact bi_abs
  | int => exact bi_int
  | bool => exact bi_bool
  | repr => exact bi_repr hn hg hu
  | sum => exact bi_sum hc
  | max => exact bi_max hc
  | min => exact bi_min hc
  | tuple => exact bi_tuple
  | list => exact bi_list
  | all => exact bi_all hc
  | any => exact bi_any hc
  | dict => exact bi_dict hc
  | sorted => exact bi_sorted
  | _ =>
    intro pins s σ H vs us Q I rv h
    obtain ⟨A, w, σ', ds, r, w', S, rs, ho, q⟩ := h
    cases ho
end
end Fz

/-! Q8: methods; what a def promises; the context. -/
namespace Fz
open PySem PySem.Spec PyProof.Rows L2

/-! ### methods -/
def meName : Me → Str
  | .append => "append"
  | .extend => "extend"
  | .pop => "pop"
  | .insert => "insert"
  | .index => "index"
  | .count => "count"
  | .remove => "remove"
def rMe (K : PySem.W.Frag) (m : Me) : V → List V → Hp → VK → Prop := fun x vs H Q => ∃ A w σ d ds r w', Sim K H A w σ ∧ RD K H A d x ∧ RDs K H A ds vs ∧ meF m d ds w = .ok (r, w') ∧ Aft K A H σ r w' Q
section
variable {X : Cx}
theorem put_use {K : PySem.W.Frag} {H : Hp} {A : Ad} {w w' : Wd} {σ : Sl} {d r : D} {v : V} {xs ys : List D} {Q : VK} (S : Sim K H A w σ) (r1 : RD K H A d v) (e1 : w.seq d = some xs) (e2 : w.put d ys = some w') (q : Aft K A H σ r w' Q) :
    ∃ a us, v = .ref a ∧ H a = some (.lst us) ∧ RDs K H A xs us ∧ ∀ vs z, RDs K H A ys vs → RD K H A r z → Q z (upd H a (.lst vs)) := by
  obtain ⟨a, us, ys', rfl, h1, h2, h3, h4⟩ := put_ok e2 S r1
  rw [e1] at h2
  cases h2
  refine ⟨a, us, rfl, h1, h3, fun vs z hv hz => ?_⟩
  obtain ⟨s, S'⟩ := h4 vs hv
  exact q A z _ s S' (hz.step s.toCar)
theorem me_append : MtM X "list.append" (rMe X.K .append) := by
  intro pins s σ H x vs v us Q I rx rv h
  obtain ⟨A, w, σ', d, ds, r, w', S, rd1, rs, ho, q⟩ := h
  match ds, ho with
  | [], ho => cases ho
  | _ :: _ :: _, ho => cases ho
  | [e], ho =>
    obtain ⟨u, rfl, rd2⟩ := one_of rs
    obtain ⟨xs, e1, ho⟩ := bd_split (show ((R.of (w.seq d)).bd fun xs => if xs.length < mxLen then (R.of (w.put d (xs ++ [e]))).bd fun w' => R.ok (D.non, w') else R.err) = .ok (r, w') from ho)
    split at ho
    · rename_i hz
      obtain ⟨w2, e2, ho⟩ := bd_split ho
      cases ho
      obtain ⟨a, ys, rfl, h1, h2, h3⟩ := put_use S rd1 (of_split e1) (of_split e2) q
      exact mt_append pins s σ H _ _ v us Q I rx rv ⟨a, ys, u, rfl, rfl, h1, Nat.lt_of_lt_of_le (by rw [h2.length]; exact hz) (by decide), h3 _ _ (h2.append (RDs.one rd2)) rfl⟩
    · cases ho
theorem me_extend : MtM X "list.extend" (rMe X.K .extend) := by
  intro pins s σ H x vs v us Q I rx rv h
  obtain ⟨A, w, σ', d, ds, r, w', S, rd1, rs, ho, q⟩ := h
  match ds, ho with
  | [], ho => cases ho
  | _ :: _ :: _, ho => cases ho
  | [e], ho =>
    obtain ⟨u, rfl, rd2⟩ := one_of rs
    have ho : (if isL e && !deq e d then (R.of (w.seq d)).bd fun xs => (R.of (w.seq e)).bd fun ys => if xs.length + ys.length ≤ mxLen then (R.of (w.put d (xs ++ ys))).bd fun w' => R.ok (D.non, w') else R.err else R.err) = .ok (r, w') := ho
    split at ho
    · rename_i hl
      obtain ⟨xs, e1, ho⟩ := bd_split ho
      obtain ⟨ys, e2, ho⟩ := bd_split ho
      split at ho
      · rename_i hz
        obtain ⟨w2, e3, ho⟩ := bd_split ho
        cases ho
        obtain ⟨b, zs, rfl, h5, h6⟩ := S.lst rd2 (Bool.and_eq_true_iff.mp hl).1 (of_split e2)
        obtain ⟨a, ys', rfl, h1, h2, h3⟩ := put_use S rd1 (of_split e1) (of_split e3) q
        exact mt_extend pins s σ H _ _ v us Q I rx rv ⟨a, b, ys', zs, rfl, rfl, h1, h6, Nat.le_trans (by rw [h2.length, h5.length]; exact hz) (by decide), h3 _ _ (h2.append h5) rfl⟩
      · cases ho
    · cases ho
theorem ixI_seq {n : Nat} {i : Int} {j : Nat} (h : ixI n i = some j) : seqIndex? i n = some j ∧ j < n ∧ -(n : Int) ≤ i ∧ i < n := ixN_seq h
theorem me_pop : MtM X "list.pop" (rMe X.K .pop) := by
  intro pins s σ H x vs v us Q I rx rv h
  obtain ⟨A, w, σ', d, ds, r, w', S, rd1, rs, ho, q⟩ := h
  match ds, ho with
  | e :: _ :: _, ho => cases e <;> cases ho
  | [], ho =>
    obtain rfl : vs = [] := rs
    obtain ⟨xs, e1, ho⟩ := bd_split (show ((R.of (w.seq d)).bd fun xs => (R.of xs[xs.length - 1]?).bd fun y => (R.of (w.put d xs.dropLast)).bd fun w' => R.ok (y, w')) = .ok (r, w') from ho)
    obtain ⟨y, e2, ho⟩ := bd_split ho
    obtain ⟨w2, e3, ho⟩ := bd_split ho
    cases ho
    obtain ⟨a, ys, rfl, h1, h2, h3⟩ := put_use S rd1 (of_split e1) (of_split e3) q
    obtain ⟨z, hz, rz⟩ := h2.get (of_split e2)
    exact mt_pop pins s σ H _ _ v us Q I rx rv ⟨a, ys, z, rfl, rfl, h1, by rw [h2.length]; exact hz, h3 _ _ h2.dropLast rz⟩
  | [e], ho =>
    cases e with
    | int i =>
      obtain ⟨u, rfl, rd2⟩ := one_of rs
      obtain rfl : u = .int i := rd2
      obtain ⟨xs, e1, ho⟩ := bd_split (show ((R.of (w.seq d)).bd fun xs => (R.of (ixI xs.length i)).bd fun k => (R.of xs[k]?).bd fun y => (R.of (w.put d (xs.eraseIdx k))).bd fun w' => R.ok (y, w')) = .ok (r, w') from ho)
      obtain ⟨k, e4, ho⟩ := bd_split ho
      obtain ⟨y, e2, ho⟩ := bd_split ho
      obtain ⟨w2, e3, ho⟩ := bd_split ho
      cases ho
      obtain ⟨a, ys, rfl, h1, h2, h3⟩ := put_use S rd1 (of_split e1) (of_split e3) q
      obtain ⟨z, hz, rz⟩ := h2.get (of_split e2)
      obtain ⟨l1, l2, l3, l4⟩ := ixI_seq (of_split e4)
      have zl : xs.length ≤ sizeLine := by
        obtain ⟨_, _, _, _, z⟩ := I.lst h1
        rw [← h2.length]
        exact z
      rw [sizeLine_eq] at zl
      exact mt_popAt pins s σ H _ _ v us Q I rx rv ⟨a, ys, i, k, z, rfl, rfl, h1, by omega, by omega, by rw [h2.length]; exact l1, hz, h3 _ _ (h2.eraseIdx k) rz⟩
    | _ => cases ho
end

/-! ### a def's promise -/
/-- a def by what it is worth -/
def spD (K : PySem.W.Frag) (F : List D → List (List D) → R (D × List (List D))) (n : Nat) : Sp := fun vs H Q _ => ∃ (A : Ad) (g : List (List D)) (ds : List D) (d : D) (g' : List (List D)), A.mu = [] ∧ A.cn = [] ∧ Sim K H A ⟨[], [], g⟩ [] ∧ RDs K H A ds vs ∧ ds.length = n ∧ F ds g = .ok (d, g') ∧
  ∀ A' v H', Step A H A' H' → A'.mu = [] → Sim K H' A' ⟨[], [], g'⟩ [] → RD K H' A' d v → Q v H'
/-- FnOk with no guard around -/
structure FnG (P : Program) (w : World) (K : PySem.W.Frag) (mg : Str → Option Value) (base : Heap) (k : Nat) (f : Addr) (fd : FuncData) (ps : List Str) (sp : Sp) : Prop where
  run : ∀ (A : Around) (outer : List Env) (s : Shared) (H : Hp) (args : Args) (us : List Value) (vs : List V) (Q : VK) (E : XK), Room k A → A.guards = some [] → Env0 P w K mg base A outer s H → BindsTo s fd args (ps.zip us) → Vals vs us → sp vs H Q E →
    codeAny (model P w) A (.call (.ref f) args) (CR CX0 outer P w H s Q E) s
theorem FnG.mono {P : Program} {w : World} {K : PySem.W.Frag} {mg : Str → Option Value} {base : Heap} {j k : Nat} {f : Addr} {fd : FuncData} {ps : List Str} {sp : Sp} (F : FnG P w K mg base j f fd ps sp) (h : j ≤ k) : FnG P w K mg base k f fd ps sp :=
  ⟨fun A outer s H args us vs Q E hr => F.run A outer s H args us vs Q E (hr.mono h)⟩

structure Tb where
  free : List Str
  defs : List (Str × List Str)
  cons : List (Str × D)
  /-- def, positional values, keywords, the order -/
  binds : List (Nat × Nat × List Str × Option (List Nat))
def BindOk (fd : FuncData) (ps : List Str) (n : Nat) (ks : List Str) (p : Option (List Nat)) : Prop :=
  ∀ (s : Shared) (us ws zs : List Value), us.length = n → ws.length = ks.length → arrD p (us ++ ws) = some zs → BindsTo s fd ⟨us, ks.zip ws⟩ (ps.zip zs)
structure GX (T : Tb) (P : Pg) (lv : Nat) (N : List Str) (sc : Scope) (top : Bool) (X : Cx) : Prop where
  hN : X.N = N
  nd : N.Nodup
  sco : X.env.scope = sc
  kind : sc.kind = .function
  calm : X.calm = true
  xe : X.xe = fun _ _ => False
  room : Room lv X.A
  gd : X.A.guards = some []
  dig : X.base.NoDigits
  fn : top = true → ∀ x, X.fn x = true
  free : ∀ x ∈ T.free, X.mg x = none
  defs : ∀ (j : Nat) d, T.defs[j]? = some d → j < lv → ∃ f fd, X.mg d.1 = some (.ref f) ∧ PySem.W.keepIn X.K (.ref f) = true ∧ FnG X.prog X.w X.K X.mg X.base lv f fd d.2 (spD X.K (P.F j) d.2.length) ∧
    (∀ n ks p, (j, n, ks, p) ∈ T.binds → BindOk fd d.2 n ks p) ∧ ∀ ds g r g', P.F j ds g = .ok (r, g') → okRet r = true
  cons : ∀ (i : Nat) c, T.cons[i]? = some c → P.C[i]? = some c.2 ∧ ∃ u v, X.mg c.1 = some u ∧ RelV v u ∧ ∀ H A, RD X.K H A c.2 v
theorem blkScope {X : Cx} {scope : Scope} {cl : List (Str × Addr)} {C : Addr} {s : Shared} {H : Hp} {fp : List Addr} : (X.blk s H scope (compEnvC scope cl C X.env) fp).env.scope = relS scope X.env.scope := rfl
theorem GX.blk {T : Tb} {P : Pg} {lv : Nat} {N : List Str} {sc : Scope} {top : Bool} {X : Cx} (G : GX T P lv N sc top X) {scope : Scope} (hk : scope.kind = .function) (s : Shared) (H : Hp) (C : Addr) (cl : List (Str × Addr)) (fp : List Addr) :
    GX T P lv N (relS scope sc) false (X.blk s H scope (compEnvC scope cl C X.env) fp) where
  hN := G.hN
  nd := G.nd
  sco := by rw [blkScope, G.sco]
  kind := hk
  calm := G.calm
  xe := rfl
  room := G.room
  gd := G.gd
  dig := G.dig
  fn := fun h => nomatch h
  free := G.free
  defs := G.defs
  cons := G.cons
end Fz

/-! Q9: comprehensions: the list in the making; targets; what is walked. -/
namespace Fz
open PySem PySem.Spec PyProof.Rows L2
section
variable {K : PySem.W.Frag} {H H' : Hp} {A A' : Ad} {w : Wd} {σ : Sl}
/-- a list in the making -/
theorem Car.opens {p : Addr} (hp : H p = none) (o : HO) : Car A H { A with cn := p :: A.cn } (upd H p o) := by
  refine ⟨fun a u h x => ⟨upd_some hp h, x.1, x.2.1, fun z => ?_⟩, fun a vs h => upd_some hp h, fun a o u h => upd_some hp h, fun _ _ h => h, fun _ _ h => h, rfl⟩
  rcases List.mem_cons.mp z with rfl | z
  · rw [hp] at h
    cases h
  · exact x.2.2 z
theorem Sim.opens (S : Sim K H A w σ) {p : Addr} (hp : H p = none) (vs : List V) : Sim K (upd H p (.lst vs)) { A with cn := p :: A.cn } w σ := by
  have c : Car A H { A with cn := p :: A.cn } (upd H p (.lst vs)) := Car.opens hp _
  obtain ⟨⟨f1, f2, f4⟩, f3⟩ := S.fresh hp
  refine ⟨fun i d e => let ⟨v, e1, r⟩ := S.loc i d e; ⟨v, e1, r.step c d v⟩, S.len, RL.carry (fun xs vs h => h.step c) (fun a _ vs h => upd_some hp h) S.mu, RL.carry (fun xs vs h => h.step c) (fun a _ vs h => upd_some hp h) S.ga, S.nd, S.ndg, S.dj, S.djg, fun a h => ?_, fun a h => ?_, fun a h => ?_, S.gk⟩
  · obtain ⟨o, e⟩ := S.bt a h
    exact ⟨o, upd_some hp e⟩
  · rcases List.mem_cons.mp h with rfl | h
    · exact ⟨vs, upd_same⟩
    · obtain ⟨us, e⟩ := S.cnt a h
      exact ⟨us, upd_some hp e⟩
  · rcases List.mem_cons.mp h with rfl | h
    · exact ⟨f1, f2, f3⟩
    · exact S.cnd a h
theorem Sim.grow (S : Sim K H A w σ) {p : Addr} (hp : p ∈ A.cn) {us : List V} (e : H p = some (.lst us)) (vs : List V) : Sim K (upd H p (.lst vs)) A w σ := by
  have c : Car A H A (upd H p (.lst vs)) := Car.store (.inr (.inr hp)) e
  obtain ⟨c1, c2, c3⟩ := S.cnd p hp
  refine ⟨fun i d e => let ⟨v, e1, r⟩ := S.loc i d e; ⟨v, e1, r.step c d v⟩, S.len, RL.carry (fun xs vs h => h.step c) (fun a ha ws h => ?_) S.mu, RL.carry (fun xs vs h => h.step c) (fun a ha ws h => ?_) S.ga, S.nd, S.ndg, S.dj, S.djg, fun a h => ?_, fun a h => ?_, S.cnd, S.gk⟩
  · rw [upd_ne (show a ≠ p from fun z => c1 (z ▸ ha))]
    exact h
  · rw [upd_ne (show a ≠ p from fun z => c2 (z ▸ ha))]
    exact h
  · obtain ⟨o, q⟩ := S.bt a h
    exact ⟨o, by rw [upd_ne (show a ≠ p from fun z => c3 (z ▸ h))]; exact q⟩
  · by_cases z : a = p
    · subst z
      exact ⟨vs, upd_same⟩
    · obtain ⟨ws, q⟩ := S.cnt a h
      exact ⟨ws, by rw [upd_ne z]; exact q⟩
/-- the slots of an earlier state -/
theorem Sim.back {w0 : Wd} {H0 : Hp} {A0 : Ad} {σ0 : Sl} (S : Sim K H A w σ) (S0 : Sim K H0 A0 w0 σ0) (c : Car A0 H0 A H) : Sim K H A { w with σ := w0.σ } σ0 :=
  ⟨fun i d e => let ⟨v, e1, r⟩ := S0.loc i d e; ⟨v, e1, r.step c d v⟩, S0.len, S.mu, S.ga, S.nd, S.ndg, S.dj, S.djg, S.bt, S.cnt, S.cnd, S.gk⟩
/-- the list is made: it becomes a value -/
theorem Sim.closes {md : Nat} {xs : List D} {vs : List V} {d : D} {w' : Wd} {p : Addr} {cn : List Addr} (e : newL md xs w = .ok (d, w')) (S : Sim K H A w σ) (hc : A.cn = p :: cn) (hn : p ∉ cn) (hp : H p = some (.lst vs)) (r : RDs K H A xs vs) :
    ∃ A', Car A H A' H ∧ A'.cn = cn ∧ Sim K H A' w' σ ∧ RD K H A' d (.ref p) := by
  unfold newL at e
  by_cases hl : xs.length ≤ mxLen
  · rw [if_pos hl] at e
    have hpc : p ∈ A.cn := by rw [hc]; exact List.mem_cons_self
    have sub : ∀ {a}, a ∈ cn → a ∈ A.cn := fun h => by rw [hc]; exact List.mem_cons_of_mem _ h
    have out : ∀ {a}, A.out a → a ≠ p := fun h z => by subst z; exact h.2.2 hpc
    obtain ⟨c1, c2, c3⟩ := S.cnd p hpc
    match md, e with
    | 0, e =>
      cases e
      have c : Car A H { A with cn := cn } H := ⟨fun a u h x => ⟨h, x.1, x.2.1, fun z => x.2.2 (sub z)⟩, fun _ _ h => h, fun _ _ _ h => h, fun _ _ h => h, fun _ _ h => h, rfl⟩
      exact ⟨_, c, rfl, ⟨fun i d e => let ⟨v, e1, r⟩ := S.loc i d e; ⟨v, e1, r.step c d v⟩, S.len, RL.carry (fun xs vs h => h.step c) (fun a _ vs h => h) S.mu, RL.carry (fun xs vs h => h.step c) (fun a _ vs h => h) S.ga, S.nd, S.ndg, S.dj, S.djg, S.bt, fun a h => S.cnt a (sub h), fun a h => S.cnd a (sub h), S.gk⟩,
        p, vs, rfl, hp, ⟨c1, c2, hn⟩, c3, r.step c⟩
    | 1, e =>
      cases e
      have c : Car A H { A with mu := A.mu ++ [p], cn := cn } H := ⟨fun a u h x => ⟨h, not_snoc x.1 (out x), x.2.1, fun z => x.2.2 (sub z)⟩, fun _ _ h => h, fun _ _ _ h => h, fun k a h => get_snoc h, fun _ _ h => h, rfl⟩
      refine ⟨_, c, rfl, ⟨fun i d e => let ⟨v, e1, r⟩ := S.loc i d e; ⟨v, e1, r.step c d v⟩, S.len, ?_, RL.carry (fun xs vs h => h.step c) (fun a _ vs h => h) S.ga, nodup_snoc S.nd c1, S.ndg, fun a ha => ?_, S.djg, S.bt, fun a h => S.cnt a (sub h),
        fun a h => ⟨not_snoc (S.cnd a (sub h)).1 (fun z => hn (z ▸ h)), (S.cnd a (sub h)).2⟩, S.gk⟩, p, ?_, rfl⟩
      · exact RL.append (RL.carry (fun xs vs h => h.step c) (fun a _ vs h => h) S.mu) ⟨xs, [], vs, rfl, hp, r.step c, rfl⟩
      · rcases List.mem_append.mp ha with z | z
        · exact S.dj a z
        · have e : a = p := by simpa using z
          subst e
          exact ⟨c2, c3⟩
      · show (A.mu ++ [p])[w.m.length]? = some p
        rw [S.mu.length]
        simp
    | n + 2, e =>
      have e : (if xs.all gOk then R.ok (D.g w.g.length, { w with g := w.g ++ [xs] }) else R.err) = .ok (d, w') := e
      split at e
      case isFalse => cases e
      rename_i hg
      cases e
      have c : Car A H { A with ga := A.ga ++ [p], cn := cn } H := ⟨fun a u h x => ⟨h, x.1, not_snoc x.2.1 (out x), fun z => x.2.2 (sub z)⟩, fun _ _ h => h, fun _ _ _ h => h, fun _ _ h => h, fun k a h => get_snoc h, rfl⟩
      refine ⟨_, c, rfl, ⟨fun i d e => let ⟨v, e1, r⟩ := S.loc i d e; ⟨v, e1, r.step c d v⟩, S.len, RL.carry (fun xs vs h => h.step c) (fun a _ vs h => h) S.mu, ?_, S.nd, nodup_snoc S.ndg c2, fun a ha => ⟨not_snoc (S.dj a ha).1 (fun z => c1 (z ▸ ha)), (S.dj a ha).2⟩, fun a ha => not_snoc (S.djg a ha) (fun z => c3 (z ▸ ha)), S.bt, fun a h => S.cnt a (sub h),
        fun a h => ⟨(S.cnd a (sub h)).1, not_snoc (S.cnd a (sub h)).2.1 (fun z => hn (z ▸ h)), (S.cnd a (sub h)).2.2⟩, fun ys hy => (List.mem_append.mp hy).elim (S.gk ys) fun z => (by simpa using z : ys = xs) ▸ hg⟩, p, ?_, rfl⟩
      · exact RL.append (RL.carry (fun xs vs h => h.step c) (fun a _ vs h => h) S.ga) ⟨xs, [], vs, rfl, hp, r.step c, rfl⟩
      · show (A.ga ++ [p])[w.g.length]? = some p
        rw [S.ga.length]
        simp
  · rw [if_neg hl] at e
    cases e

/-! ### slots forgotten -/
theorem wipe_get (σ : Sl) : ∀ (vs : List Nat) (j : Nat), (wipe σ vs)[j]? = if j ∈ vs then (σ[j]?).map (fun _ => none) else σ[j]?
  | [], j => by simp [wipe]
  | v :: vs, j => by
    show ((wipe σ vs).set v none)[j]? = _
    rw [List.getElem?_set, wipe_get σ vs j, wipe_length]
    by_cases e : v = j
    · subst e
      simp only [if_true, List.mem_cons, true_or, if_true]
      by_cases h : v < σ.length
      · simp [h]
      · simp [h, List.getElem?_eq_none (Nat.le_of_not_lt h)]
    · rw [if_neg e]
      simp only [List.mem_cons, show ¬ j = v from fun z => e z.symm, false_or]
theorem wipeD_get (σ : List (Option D)) : ∀ (vs : List Nat) (j : Nat), (wipeD σ vs)[j]? = if j ∈ vs then (σ[j]?).map (fun _ => none) else σ[j]?
  | [], j => by simp [wipeD]
  | v :: vs, j => by
    have hl : ∀ vs : List Nat, (wipeD σ vs).length = σ.length := fun vs => by
      induction vs with
      | nil => rfl
      | cons v vs ih =>
        show ((wipeD σ vs).set v none).length = _
        rw [List.length_set, ih]
    show ((wipeD σ vs).set v none)[j]? = _
    rw [List.getElem?_set, wipeD_get σ vs j, hl]
    by_cases e : v = j
    · subst e
      simp only [if_true, List.mem_cons, true_or, if_true]
      by_cases h : v < σ.length
      · simp [h]
      · simp [h, List.getElem?_eq_none (Nat.le_of_not_lt h)]
    · rw [if_neg e]
      simp only [List.mem_cons, show ¬ j = v from fun z => e z.symm, false_or]
theorem wipeD_length (σ : List (Option D)) : ∀ vs : List Nat, (wipeD σ vs).length = σ.length
  | [] => rfl
  | v :: vs => by
    show ((wipeD σ vs).set v none).length = _
    rw [List.length_set, wipeD_length σ vs]
theorem wipe_set (σ : Sl) {vs : List Nat} {i : Nat} (h : i ∈ vs) (v : Option V) : wipe (σ.set i v) vs = wipe σ vs := by
  apply List.ext_getElem?
  intro j
  rw [wipe_get, wipe_get]
  by_cases e : j ∈ vs
  · rw [if_pos e, if_pos e, List.getElem?_set]
    by_cases z : i = j
    · subst z
      rw [if_pos rfl]
      by_cases q : i < σ.length
      · simp [q]
      · simp [q, List.getElem?_eq_none (Nat.le_of_not_lt q)]
    · rw [if_neg z]
  · rw [if_neg e, if_neg e, List.getElem?_set_ne (show i ≠ j from fun z => e (z ▸ h))]
theorem Sim.wiped (S : Sim K H A w σ) (vs : List Nat) : Sim K H A { w with σ := wipeD w.σ vs } (wipe σ vs) := by
  refine ⟨fun i d e => ?_, by rw [wipe_length]; exact (wipeD_length _ _).trans S.len, S.mu, S.ga, S.nd, S.ndg, S.dj, S.djg, S.bt, S.cnt, S.cnd, S.gk⟩
  have e : (wipeD w.σ vs)[i]? = some (some d) := e
  rw [wipeD_get] at e
  rw [wipe_get]
  by_cases h : i ∈ vs
  · rw [if_pos h] at e
    cases q : w.σ[i]? <;> rw [q] at e <;> cases e
  · rw [if_neg h] at e ⊢
    exact S.loc i d e
end

/-! ### targets -/
mutual
def slotsT : Tg → List Nat
  | .nm i => [i]
  | .tu ts => slotsTs ts
def slotsTs : List Tg → List Nat
  | [] => []
  | t :: ts => slotsT t ++ slotsTs ts
end
def gD (K : PySem.W.Frag) (t : Tg) : TG := fun v σ H Q => ∃ A w d w', Sim K H A w σ ∧ RD K H A d v ∧ asg t d w = some w' ∧
  ∀ σ', Sim K H A w' σ' → w'.m = w.m → w'.g = w.g → (∀ own : List Nat, (∀ i ∈ slotsT t, i ∈ own) → wipe σ' own = wipe σ own) → Q σ' H
def gDs (K : PySem.W.Frag) (ts : List Tg) : TGs := fun vs σ H Q => ∃ A w ds w', Sim K H A w σ ∧ RDs K H A ds vs ∧ asgL ts ds w = some w' ∧
  ∀ σ', Sim K H A w' σ' → w'.m = w.m → w'.g = w.g → (∀ own : List Nat, (∀ i ∈ slotsTs ts, i ∈ own) → wipe σ' own = wipe σ own) → Q σ' H
theorem PGimp {X : Cx} {e : Expr} {t t' : TG} (h : PG X e t) (i : ∀ v σ H Q, t' v σ H Q → t v σ H Q) : PG X e t' := ⟨fun pins s σ H v u Q I r q => h.run pins s σ H v u Q I r (i v σ H Q q)⟩
theorem PGsimp {X : Cx} {e : List Expr} {t t' : TGs} (h : PGs X e t) (i : ∀ v σ H Q, t' v σ H Q → t v σ H Q) : PGs X e t' := ⟨fun pins s σ H v u Q I r q => h.run pins s σ H v u Q I r (i v σ H Q q)⟩
theorem Sim.set {K : PySem.W.Frag} {H : Hp} {A : Ad} {w : Wd} {σ : Sl} (S : Sim K H A w σ) (i : Nat) {d : D} {v : V} (r : RD K H A d v) : Sim K H A { w with σ := w.σ.set i (some d) } (σ.set i (some v)) := by
  refine ⟨fun j e q => ?_, by
    show (w.σ.set i (some d)).length = (σ.set i (some v)).length
    rw [List.length_set, List.length_set]
    exact S.len, S.mu, S.ga, S.nd, S.ndg, S.dj, S.djg, S.bt, S.cnt, S.cnd, S.gk⟩
  have q : (w.σ.set i (some d))[j]? = some (some e) := q
  rw [List.getElem?_set] at q ⊢
  by_cases z : i = j
  · subst z
    rw [if_pos rfl] at q ⊢
    rw [← S.len]
    by_cases l : i < w.σ.length
    · rw [if_pos l] at q ⊢
      cases q
      exact ⟨v, rfl, r⟩
    · rw [if_neg l] at q
      cases q
  · rw [if_neg z] at q ⊢
    exact S.loc j e q
def noStar : Expr → Bool
  | .Starred _ _ => false
  | _ => true
theorem assignEach_cons {e : Expr} {es : List Expr} {env : Env} (h : noStar e = true) : assignEach (e :: es) env = (false, assign e env) :: assignEach es env := by
  cases e <;> first | rfl | cases h
/-- a name that may be stored -/
def wrB (sc : Scope) (top : Bool) (x : Str) : Bool := match sc.names.lookup x with
  | some .local => true
  | some .cell => top
  | _ => false
mutual
def ckT (N : List Str) (sc : Scope) (top : Bool) : Tg → Expr → Bool
  | .nm i, .Name x _ => decide (N[i]? = some x) && wrB sc top x
  | .tu ts, .Tuple es _ _ => ckTs N sc top ts es
  | _, _ => false
def ckTs (N : List Str) (sc : Scope) (top : Bool) : List Tg → List Expr → Bool
  | [], [] => true
  | t :: ts, e :: es => noStar e && ckT N sc top t e && ckTs N sc top ts es
  | _, _ => false
end
section
variable {T : Tb} {P : Pg} {lv : Nat} {N : List Str} {sc : Scope} {top : Bool} {X : Cx}
theorem assignEach_plain : ∀ {ts : List Tg} {es : List Expr} {env : Env}, ckTs N sc top ts es = true → (assignEach es env).length = ts.length ∧ (assignEach es env).findIdx? (·.1) = none
  | [], [], _, _ => ⟨rfl, rfl⟩
  | [], _ :: _, _, h => nomatch h
  | _ :: _, [], _, h => nomatch h
  | t :: ts, e :: es, env, h => by
    simp only [ckTs, Bool.and_eq_true] at h
    obtain ⟨h1, h2⟩ := assignEach_plain (env := env) h.2
    rw [assignEach_cons h.1.1]
    refine ⟨by simp [h1], ?_⟩
    simp [List.findIdx?_cons, h2]
mutual
theorem sndT (G : GX T P lv N sc top X) : ∀ (t : Tg) (e : Expr), ckT N sc top t e = true → PG X e (gD X.K t)
  | .nm i, e, h => by
    cases e with
    | Name x pos =>
      simp only [ckT, Bool.and_eq_true, decide_eq_true_eq] at h
      obtain ⟨h1, h2⟩ := h
      have hx : Loc X.env.scope x ∧ (X.fn x = true ∨ X.env.scope.names.lookup x = some .local) := by
        unfold wrB at h2
        rw [G.sco]
        cases q : sc.names.lookup x with
        | none => rw [q] at h2; cases h2
        | some k =>
          rw [q] at h2
          cases k with
          | «local» => exact ⟨.inl q, .inr rfl⟩
          | cell => exact ⟨.inr q, .inl (G.fn h2 x)⟩
          | _ => cases h2
      refine PGimp (pg_name (i := i) (by rw [G.hN]; exact G.nd) (by rw [G.hN]; exact h1) hx.1 hx.2) fun v σ H Q q => ?_
      obtain ⟨A, w, d, w', S, r, ha, q⟩ := q
      cases ha
      refine q _ (S.set i r) rfl rfl fun own ho => ?_
      exact wipe_set σ (ho i (by simp [slotsT])) _
    | _ => cases h
  | .tu ts, e, h => by
    cases e with
    | Tuple es k pos =>
      simp only [ckT] at h
      obtain ⟨h1, h2⟩ := assignEach_plain (env := X.env) h
      refine PGimp (pg_tup (n := ts.length) G.calm (sndTs G ts es h) h1 h2) fun v σ H Q q => ?_
      obtain ⟨A, w, d, w', S, r, ha, q⟩ := q
      cases d with
      | tup ds =>
        obtain ⟨a, vs, rfl, ht, rs⟩ := r
        have ha : asgL ts ds w = some w' := ha
        have hl : ∀ {ts : List Tg} {ds : List D} {w w' : Wd}, asgL ts ds w = some w' → ds.length = ts.length := fun {ts} => by
          induction ts with
          | nil =>
            intro ds w w' e
            cases ds with
            | nil => rfl
            | cons _ _ => cases e
          | cons t ts ih =>
            intro ds w w' e
            cases ds with
            | nil => cases e
            | cons d ds =>
              obtain ⟨w1, _, e2⟩ := Option.bind_eq_some_iff.mp (show (asg t d w).bind (fun w' => asgL ts ds w') = some w' from e)
              rw [List.length_cons, List.length_cons, ih e2]
        refine ⟨a, vs, rfl, ht, by rw [rs.length]; exact hl ha, A, w, ds, w', S, rs, ha, fun σ' S' m g ho => q σ' S' m g fun own h => ho own h⟩
      | _ => cases ha
    | _ => cases h
theorem sndTs (G : GX T P lv N sc top X) : ∀ (ts : List Tg) (es : List Expr), ckTs N sc top ts es = true → PGs X es (gDs X.K ts)
  | [], es, h => by
    cases es with
    | nil =>
      refine PGsimp pgs_nil fun vs σ H Q q => ?_
      obtain ⟨A, w, ds, w', S, rs, ha, q⟩ := q
      cases ds with
      | nil =>
        cases ha
        exact ⟨rs, q σ S rfl rfl fun _ _ => rfl⟩
      | cons _ _ => cases ha
    | cons _ _ => cases h
  | t :: ts, es, h => by
    cases es with
    | nil => cases h
    | cons e es =>
      simp only [ckTs, Bool.and_eq_true] at h
      refine PGsimp (pgs_cons (sndT G t e h.1.2) (sndTs G ts es h.2) (by rw [assignEach_cons h.1.1]; rfl)) fun vs σ H Q q => ?_
      obtain ⟨A, w, ds, w', S, rs, ha, q⟩ := q
      cases ds with
      | nil => cases ha
      | cons d ds =>
        obtain ⟨v, r, rfl, r1, r2⟩ := rs
        obtain ⟨w1, e1, e2⟩ := Option.bind_eq_some_iff.mp (show (asg t d w).bind (fun w' => asgL ts ds w') = some w' from ha)
        refine ⟨v, r, rfl, A, w, d, w1, S, r1, e1, fun σ1 S1 m1 g1 o1 => ?_⟩
        refine ⟨A, w1, ds, w', S1, r2, e2, fun σ2 S2 m2 g2 o2 => q σ2 S2 (m2.trans m1) (g2.trans g1) fun own ho => ?_⟩
        have ho' : ∀ i, i ∈ slotsT t ++ slotsTs ts → i ∈ own := fun i hi => ho i (by simpa [slotsTs] using hi)
        exact (o2 own fun i hi => ho' i (List.mem_append_right _ hi)).trans (o1 own fun i hi => ho' i (List.mem_append_left _ hi))
end
end

/-! ### what is walked -/
structure WalkD (K : PySem.W.Frag) (J : L2.It) (it : Itd) (A0 : Ad) (H0 : Hp) : Prop where
  go : ∀ A H w σ i, Car A0 H0 A H → Sim K H A w σ → it.ok w = true → i < it.xs.length → J.go i H ∧ ∀ v H', J.yld i H v H' → Step A H A H' ∧ Sim K H' A w σ ∧ ∀ d, it.xs[i]? = some d → RD K H' A d v
  stop : ∀ A H w σ, Car A0 H0 A H → Sim K H A w σ → it.ok w = true → J.stop it.xs.length H
def rdI (K : PySem.W.Frag) (f : Wd → R (Itd × Wd)) : TI := fun σ H Rr => ∃ A w, Sim K H A w σ ∧ ∃ it w', f w = .ok (it, w') ∧ ∀ A' H' J, Step A H A' H' → Sim K H' A' w' σ → it.ok w' = true → WalkD K J it A' H' → Rr J H'
theorem PIimp {X : Cx} {tg e : Expr} {t t' : TI} (h : PI X tg e t) (i : ∀ σ H Q, t' σ H Q → t σ H Q) : PI X tg e t' := ⟨fun pins s σ H Q I q => h.run pins s σ H Q I (i σ H Q q)⟩
/-- a list or a tuple, whichever comes -/
def iSeq (K : PySem.W.Frag) (tl : TE) : TI := fun σ H Rr => tl σ H fun x H1 => ∃ a, x = .ref a ∧ ((∃ xs, SqL K H1 a xs ∧ Rr (Itl K a) H1) ∨ ∃ xs, SqT K H1 a xs ∧ Rr (Itt K a) H1)
theorem pi_seq {X : Cx} {tg l : Expr} {tl : TE} (hl : PE X l tl) : PI X tg l (iSeq X.K tl) := by
  refine ⟨fun pins s σ H Rr I h => ?_⟩
  refine thn (hl.run pins s σ H _ I h) fun v s1 ⟨x, H1, I1, r1, a, e, q⟩ => ?_
  subst e
  cases r1
  have fp : ∀ b ∈ [s1.heap.objs.size], FpOk X pins H1 b := fun b hb => by
    obtain rfl : b = s1.heap.objs.size := by simpa using hb
    exact I1.fpOk (Nat.le_refl _) (I1.hok.fresh (Nat.le_refl _))
  rcases q with ⟨xs, hq, q⟩ | ⟨xs, hq, q⟩
  · obtain ⟨its, rv, p, hz⟩ := I1.list hq
    refine wpAny_pyIter_list p.isList ⟨_, [s1.heap.objs.size], _, _, H1, rfl, ?_, turn_list a _, ⟨_, Heap.get?_push_size _ rfl, rfl, rfl⟩, fp, q⟩
    exact I1.kept (t' := s1.toks) fun b o e => Heap.get?_push_of_some _ e
  · obtain ⟨its, rv, p, hz⟩ := I1.tuple hq
    refine wpAny_pyIter_tuple (show s1.heap.IsTuple a its.toArray from p) ⟨_, [s1.heap.objs.size], _, _, H1, rfl, ?_, turn_tuple a _, ⟨_, Heap.get?_push_size _ rfl, rfl, rfl⟩, fp, q⟩
    exact I1.kept (t' := s1.toks) fun b o e => Heap.get?_push_of_some _ e
theorem src_seq {w : Wd} {d : D} {xs : List D} {w0 : Wd} (e : w0.seq d = some xs) (h : (srcOf d).ok xs w = true) : w.seq d = some xs := by
  cases d with
  | ref k =>
    have h : (w.m[k]?).any (fun ys => deqL ys xs) = true := h
    show w.m[k]? = some xs
    cases q : w.m[k]? with
    | none => rw [q] at h; cases h
    | some ys => rw [q] at h; rw [deqL_eq ys xs h]
  | g k =>
    have h : (w.g[k]?).any (fun ys => deqL ys xs) = true := h
    show w.g[k]? = some xs
    cases q : w.g[k]? with
    | none => rw [q] at h; cases h
    | some ys => rw [q] at h; rw [deqL_eq ys xs h]
  | _ => exact e
theorem src_ok {w : Wd} {d : D} {xs : List D} (e : w.seq d = some xs) : (srcOf d).ok xs w = true := by
  cases d with
  | ref k =>
    have e : w.m[k]? = some xs := e
    show (w.m[k]?).any (fun ys => deqL ys xs) = true
    rw [e]
    exact deqL_refl xs
  | g k =>
    have e : w.g[k]? = some xs := e
    show (w.g[k]?).any (fun ys => deqL ys xs) = true
    rw [e]
    exact deqL_refl xs
  | _ => rfl
theorem walk_l {K : PySem.W.Frag} {A0 : Ad} {H0 : Hp} {w0 : Wd} {d : D} {a : Addr} {xs : List D} (e : w0.seq d = some xs) (r : RD K H0 A0 d (.ref a)) (t : isT d = false) : WalkD K (Itl K a) ⟨xs, (srcOf d).ok xs⟩ A0 H0 := by
  have get : ∀ {A H w σ}, Car A0 H0 A H → Sim K H A w σ → (srcOf d).ok xs w = true → ∃ vs, SqL K H a vs ∧ RDs K H A xs vs := fun {A H w σ} c S ok => by
    obtain ⟨b, vs, eb, rs, h⟩ := S.seq (r.step c d _) (src_seq e ok)
    cases eb
    rcases h with ⟨h, _⟩ | ⟨_, h⟩
    · rw [t] at h; cases h
    · exact ⟨vs, h, rs⟩
  refine ⟨fun A H w σ i c S ok hi => ?_, fun A H w σ c S ok => ?_⟩
  · obtain ⟨vs, h, rs⟩ := get c S ok
    obtain ⟨v, hv, rv⟩ := rs.get (List.getElem?_eq_getElem hi)
    refine ⟨⟨vs, v, h, hv⟩, fun x H' y => ?_⟩
    obtain ⟨rfl, y⟩ := y
    have ev := (y vs h).symm.trans hv
    cases ev
    exact ⟨Step.refl A _, S, fun d' e' => by rw [List.getElem?_eq_getElem hi] at e'; cases e'; exact rv⟩
  · obtain ⟨vs, h, rs⟩ := get c S ok
    exact ⟨vs, h, Nat.le_of_eq rs.length⟩
theorem walk_t {K : PySem.W.Frag} {A0 : Ad} {H0 : Hp} {w0 : Wd} {d : D} {a : Addr} {xs : List D} (e : w0.seq d = some xs) (r : RD K H0 A0 d (.ref a)) (t : isT d = true) : WalkD K (Itt K a) ⟨xs, (srcOf d).ok xs⟩ A0 H0 := by
  have get : ∀ {A H w σ}, Car A0 H0 A H → Sim K H A w σ → (srcOf d).ok xs w = true → ∃ vs, SqT K H a vs ∧ RDs K H A xs vs := fun {A H w σ} c S ok => by
    obtain ⟨b, vs, eb, rs, h⟩ := S.seq (r.step c d _) (src_seq e ok)
    cases eb
    rcases h with ⟨_, h⟩ | ⟨h, _⟩
    · exact ⟨vs, h, rs⟩
    · rw [t] at h; cases h
  refine ⟨fun A H w σ i c S ok hi => ?_, fun A H w σ c S ok => ?_⟩
  · obtain ⟨vs, h, rs⟩ := get c S ok
    obtain ⟨v, hv, rv⟩ := rs.get (List.getElem?_eq_getElem hi)
    refine ⟨⟨vs, v, h, hv⟩, fun x H' y => ?_⟩
    obtain ⟨rfl, y⟩ := y
    have ev := (y vs h).symm.trans hv
    cases ev
    exact ⟨Step.refl A _, S, fun d' e' => by rw [List.getElem?_eq_getElem hi] at e'; cases e'; exact rv⟩
  · obtain ⟨vs, h, rs⟩ := get c S ok
    exact ⟨vs, h, Nat.le_of_eq rs.length⟩
theorem rngL_get : ∀ (n : Nat) (lo : Int) (i : Nat), i < n → (rngL lo n)[i]? = some (.int (lo + i))
  | 0, _, _, h => absurd h (Nat.not_lt_zero _)
  | n + 1, lo, 0, _ => by simp [rngL]
  | n + 1, lo, i + 1, h => by
    show (rngL (lo + 1) n)[i]? = _
    rw [rngL_get n (lo + 1) i (by omega)]
    congr 2
    omega
theorem rngL_length : ∀ (n : Nat) (lo : Int), (rngL lo n).length = n
  | 0, _ => rfl
  | n + 1, lo => by
    show (rngL (lo + 1) n).length + 1 = _
    rw [rngL_length n]
theorem stepL_get : ∀ (n : Nat) (lo c : Int) (i : Nat), i < n → (stepL lo c n)[i]? = some (.int (lo + (i : Nat) * c))
  | 0, _, _, _, h => absurd h (Nat.not_lt_zero _)
  | n + 1, lo, c, 0, _ => by simp [stepL]
  | n + 1, lo, c, i + 1, h => by
    show (stepL (lo + c) c n)[i]? = _
    rw [stepL_get n (lo + c) c i (by omega)]
    congr 2
    rw [Int.natCast_succ, Int.add_mul, Int.one_mul]
    omega
theorem stepL_length : ∀ (n : Nat) (lo c : Int), (stepL lo c n).length = n
  | 0, _, _ => rfl
  | n + 1, lo, c => by
    show (stepL (lo + c) c n).length + 1 = _
    rw [stepL_length n]
theorem walk_c {K : PySem.W.Frag} {A0 : Ad} {H0 : Hp} {lo c : Int} {n : Nat} : WalkD K (Itc lo c n) ⟨stepL lo c n, fun _ => true⟩ A0 H0 := by
  refine ⟨fun A H w σ i _ S ok hi => ?_, fun A H w σ _ S ok => Nat.le_of_eq (stepL_length n lo c).symm⟩
  have hi : i < n := by rw [← stepL_length n lo c]; exact hi
  refine ⟨hi, fun x H' y => ?_⟩
  obtain ⟨rfl, rfl⟩ := y
  refine ⟨Step.refl A _, S, fun d' e' => ?_⟩
  rw [show (⟨stepL lo c n, fun _ => true⟩ : Itd).xs = stepL lo c n from rfl, stepL_get n lo c i hi] at e'
  cases e'
  exact rfl
theorem walk_r {K : PySem.W.Frag} {A0 : Ad} {H0 : Hp} {lo : Int} {n : Nat} : WalkD K (Itr lo n) ⟨rngL lo n, fun _ => true⟩ A0 H0 := by
  refine ⟨fun A H w σ i c S ok hi => ?_, fun A H w σ c S ok => Nat.le_of_eq (rngL_length n lo).symm⟩
  have hi : i < n := by rw [← rngL_length n lo]; exact hi
  refine ⟨hi, fun x H' y => ?_⟩
  obtain ⟨rfl, rfl⟩ := y
  refine ⟨Step.refl A _, S, fun d' e' => ?_⟩
  rw [show (⟨rngL lo n, fun _ => true⟩ : Itd).xs = rngL lo n from rfl, rngL_get n lo i hi] at e'
  cases e'
  exact rfl
end Fz

/-! Q9e: enumerate of lists and tuples, zip of two lists, of two tuples. -/
namespace Fz
open PySem PySem.Spec PyProof.Rows L2

theorem meets_enum1 {v : Value} {o : Obj} {H : Heap → Prop} (B : Begins v o H) :
    Meets (Builtin.«enumerate.__new__» ⟨[.type "enumerate", v], []⟩) (fun _ R s => H s.heap ∧
      R (.ok (.ret (.ref (s.heap.push o).objs.size))) { s with heap := (s.heap.push o).push { cls := .type "enumerate", data := .fields #[.none, .bool false, .ref s.heap.objs.size, rawInt 0, .none, .none] } }) :=
  .of_wp fun prog w A R s h => by
    obtain ⟨hp, g, d, tk, os⟩ := s
    obtain ⟨h1, h⟩ := h
    have hsub := sub_enumerate
    have q1 : ∀ {A' : Around} {E : Value → Shared → Prop} {Q : Value → Shared → Prop}, Q (.ref hp.objs.size) ⟨hp.push o, g, d, tk, os⟩ → wpAny (model prog w) A' (pyIter v) Q E ⟨hp, g, d, tk, os⟩ := fun q => B.iter prog w _ _ ⟨hp, g, d, tk, os⟩ _ h1 q
    wp_walk using q1
    refine wpAny_stack_any fun st => wpAny_pure ?_
    split
    · rename_i c _ _ _ _ _
      cases (c == Value.type "enumerate")
      · wp_walk using q1
        exact ⟨_, rfl, h⟩
      · wp_walk using q1
        exact ⟨_, rfl, h⟩
    · wp_walk using q1
      exact ⟨_, rfl, h⟩
theorem call_enum1 {prog : Program} {w : World} {A : Around} {E : Value → Shared → Prop} {s : Shared} {v : Value} {o : Obj} {H : Heap → Prop} {Q : Value → Shared → Prop} (B : Begins v o H) (h1 : H s.heap)
    (h : ∀ h', IsEnum h' (s.heap.objs.size + 1) s.heap.objs.size 0 .none → h'.get? s.heap.objs.size = some o → h'.objs.size = s.heap.objs.size + 2 → (∀ b o, s.heap.get? b = some o → h'.get? b = some o) → Q (.ref (s.heap.objs.size + 1)) { s with heap := h' }) :
    wpAny (model prog w) A (call (.type "enumerate") [v]) Q E s := by
  refine callType_new F.called_enumerate (by decide) (F.typeCall_enumerate_1 _) (F.newCall_enumerate_1 _) (fun obj => F.args_object_init_2 obj _) F.entry_enumerate_new (meets_enum1 B) ⟨h1, ?_⟩
  have hz : (s.heap.push o).objs.size = s.heap.objs.size + 1 := Heap.size_push ..
  show _ ∧ _
  rw [hz]
  have he : IsEnum ((s.heap.push o).push { cls := .type "enumerate", data := .fields #[.none, .bool false, .ref s.heap.objs.size, rawInt 0, .none, .none] }) (s.heap.objs.size + 1) s.heap.objs.size 0 .none := by
    have := Heap.get?_push_size (s.heap.push o) (o := { cls := .type "enumerate", data := .fields #[.none, .bool false, .ref s.heap.objs.size, rawInt 0, .none, .none] }) rfl
    rw [hz] at this
    exact this
  exact ⟨⟨_, he, rfl⟩, h _ he (Heap.get?_push_of_some _ (Heap.get?_push_size _ B.free)) (by rw [Heap.size_push, hz]) fun b o x => Heap.get?_push_of_some _ (Heap.get?_push_of_some _ x)⟩
theorem enumT_end {prog : Program} {w : World} {A : Around} {E : Value → Shared → Prop} {s : Shared} {e it l : Addr} {i : Nat} {items : Array Value} {old : Value} {Q : Option Value → Shared → Prop} (hh : A.handled = none)
    (he : IsEnum s.heap e it i old) (hit : s.heap.IsTupleIter it l i) (hl : s.heap.IsTuple l items) (hx : items[i]? = none)
    (hQ : ∀ h', Heap.ExtBut it s.heap h' → Q none { s with heap := h' }) : wpAny (model prog w) A (pyNext (.ref e)) Q E s := by
  have hT : s.TypeIs (.ref e) "enumerate" := ⟨_, he, rfl⟩
  unfold pyNext
  refine wpAny_bind (wpAny_attempt (wpAny_callSpecial?_slot (name := Str.ofString "__next__") hT F.slot_enumerate_next (wpAny_call_entry F.slot_enumerate_next hT F.entry_enumerate_next ?_ (F.args_enumerate_next_1 _))))
  show wpAny _ _ (field (.ref e) 2 >>= _) _ _ _
  refine wpAny_bind (wpAny_field he rfl (x := .ref it) rfl ?_)
  refine wpAny_bind (wpAny_nextOf_tuple_end hh hit hl hx fun h' x he' hx' => ?_)
  obtain ⟨o, ho, hc⟩ := hx'
  refine wpAny_bind (wpAny_isInstance (T := "StopIteration") (b := true) ⟨o, ho, hc⟩ isSubtype_stop ?_)
  exact wpAny_pure (hQ _ he')
/-- the tuple at a, each item in a new pair -/
def IteT (K : PySem.W.Frag) (a : Addr) : L2.It :=
  ⟨fun i H => ∃ (xs : List V) (x : V), SqT K H a xs ∧ xs[i]? = some x, fun i H v H' => ∃ T x, v = .ref T ∧ H T = none ∧ H' = upd H T (.tup [.int (i : Nat), x]) ∧ ∀ xs, SqT K H a xs → xs[i]? = some x, fun i H => ∃ xs : List V, SqT K H a xs ∧ xs.length ≤ i⟩
theorem turn_enumT {P : Program} {w : World} {K : PySem.W.Frag} {elts : List Expr} {kk : Nat} {tpos : Pos} (a e it : Addr) :
    Turn P w K (.Tuple elts kk tpos) (IteT K a) [e, it] e (fun i h => (∃ old, IsEnum h e it ((i : Nat) : Int) old) ∧ h.IsTupleIter it a i ∧ e ≠ it) where
  mem := by simp
  obj := fun i h st b hb => by
    obtain ⟨⟨old, he⟩, ⟨o, ho, hc, hd⟩, _⟩ := st
    have e' : b = e ∨ b = it := by simpa using hb
    rcases e' with z | z
    · rw [z]; exact ⟨_, he, fun v q => nomatch q⟩
    · rw [z]; exact ⟨o, ho, fun v q => by rw [hd] at q; cases q⟩
  keep := fun i h h' st k => let ⟨⟨old, he⟩, hi, hne⟩ := st; ⟨⟨old, k e (by simp) _ he⟩, hi.at fun o q => k it (by simp) o q, hne⟩
  item := by
    intro X hP hw hK hc i pins s σ H E I hf st hg
    subst hP hw hK
    obtain ⟨⟨old, he⟩, hit, hne⟩ := st
    obtain ⟨xs, x, hq, hx⟩ := hg
    obtain ⟨its, rv, p, hz⟩ := I.tuple hq
    have p : s.heap.IsTuple a its.toArray := p
    obtain ⟨u, hu, ru⟩ := rv.get hx
    have hel : e < s.heap.objs.size := Heap.lt_size he
    have hil : it < s.heap.objs.size := by obtain ⟨_, q, _⟩ := hit; exact Heap.lt_size q
    have hai : a ≠ it := by
      rintro rfl
      obtain ⟨o1, e1, c1, _⟩ := p
      obtain ⟨o2, e2, c2, _⟩ := hit
      rw [e1] at e2; cases e2
      rw [c1] at c2; exact absurd c2 (by decide)
    have hea : e ≠ a := by
      rintro rfl
      obtain ⟨o1, e1, c1, _⟩ := p
      have he2 : s.heap.get? e = some _ := he
      rw [he2] at e1; cases e1
      exact absurd (show Value.type "enumerate" = Value.type "tuple" from c1) (by decide)
    have hlt : i < its.length := by
      have l := rv.length
      have := (List.getElem?_eq_some_iff.mp hx).1
      omega
    refine wpAny_pyNext_enum_itemC (Draws.tuple (A := X.A.in1) (prog := X.prog) (w := X.w) (I.ok.hd hc) it a hai its.toArray) he ⟨hit, p⟩ (by simpa using hlt) hne (by simp [hne, hea]) fun x' h' tk hx' ho hst' hT hsz hk => ?_
    have hx' : its.toArray[i]? = some x' := hx'
    have ex : x' = u := by
      have : its[i]? = some x' := by simpa using hx'
      rw [hu] at this
      cases this
      rfl
    subst ex
    refine ⟨_, rfl, wpAny_letOwnedTupleGo_enum (s := { s with heap := h', toks := tk + 1 }) ho fun h'' he' sb => ?_⟩
    have hT2 : h''.get? s.heap.objs.size = some { cls := .type "tuple", data := .seq #[.int i tk, x'] } := (sb.2 _ (Nat.ne_of_gt hel)).trans hT
    have new : ObjOk X.prog X.w (upd H s.heap.objs.size (.tup [.int (i : Nat), x])) h'' s.heap.objs.size (.tup [.int (i : Nat), x]) :=
      ⟨by show 2 ≤ sizeLine; decide, [.int i tk, x'], .cons ⟨_, rfl⟩ (.cons ru .nil), ⟨_, hT2, rfl, _, rfl⟩⟩
    have I1 : Inv X pins σ (upd H s.heap.objs.size (.tup [.int (i : Nat), x])) { s with heap := h'', toks := tk + 1 } :=
      I.turnedNew (ch := [e, it]) (fun b ob hb q => (sb.2 b (fun z => hb (by simp [z]))).trans (hk b ob (fun z => hb (by simp [z])) (fun z => hb (by simp [z])) q)) hf (Nat.le_refl _) new
    refine ⟨.ref s.heap.objs.size, _, I1, rfl, ⟨_, x, rfl, I.hok.fresh (Nat.le_refl _), rfl, fun ys hy => by rw [I.tuple_inj hy hq]; exact hx⟩, ⟨⟨x', ?_⟩, hst'.1.at fun o q => (sb.2 it (Ne.symm hne)).trans q, hne⟩, fun b hb => ?_⟩
    · have e1 : ((i + 1 : Nat) : Int) = (i : Int) + 1 := by omega
      rw [e1]
      exact he'
    · have hb' : b < s.heap.objs.size := by
        have e' : b = e ∨ b = it := by simpa using hb
        rcases e' with z | z
        · rw [z]; exact hel
        · rw [z]; exact hil
      rw [upd_ne (Nat.ne_of_lt hb')]
      exact (hf b hb).1
  done := by
    intro X hP hw hK hc i pins s σ H E I hf st hg
    subst hP hw hK
    obtain ⟨⟨old, he⟩, hit, hne⟩ := st
    obtain ⟨xs, hq, hx⟩ := hg
    obtain ⟨its, rv, p, hz⟩ := I.tuple hq
    have p : s.heap.IsTuple a its.toArray := p
    obtain ⟨f0, f1, f2, f3, f4, f5⟩ := hf it (by simp)
    have hl := rv.length
    exact enumT_end (I.ok.hd hc) he hit p (by simp; omega) fun h' eb => ⟨rfl, I.turned (t' := s.toks) (fun b o hb q => eb b o hb q) f0 f1 f3 f4 f5⟩
  self := fun A i s Q E st h => let ⟨⟨_, he⟩, _⟩ := st; wpAny_pyIter_enum he h
def iEnu (K : PySem.W.Frag) (ta : TA) : TI := fun σ H Rr => ta σ H fun vs H1 => ∃ a, vs = [.ref a] ∧ ((∃ xs, SqL K H1 a xs ∧ Rr (Ite K a) H1) ∨ ∃ xs, SqT K H1 a xs ∧ Rr (IteT K a) H1)
theorem pi_enu {X : Cx} {e : Expr} {ta : TA} {p pos tpos : Pos} {elts : List Expr} {kk : Nat} (hg : Gl X "enumerate") (hm : X.mg "enumerate" = none) (ha : PA X [e] ta) (hs : starEach [e] X.env = [(false, eval e X.env)]) :
    PI X (.Tuple elts kk tpos) (.Call (.Name "enumerate" p) [e] [] pos) (iEnu X.K ta) := by
  refine ⟨fun pins s σ H R I h => ?_⟩
  refine Call_ (ld_blt I hg hm boot_enumerate (PyProof.Rows.callWith_type1 (thn (ha.run pos pins s σ H _ I h) fun us s1 ⟨vs, H1, I1, r1, q1⟩ => ?_) hs rfl))
  obtain ⟨a, ex, q⟩ := q1
  subst ex
  cases r1 with
  | cons r rr =>
    cases rr
    cases r
    have fp : ∀ b ∈ [s1.heap.objs.size + 1, s1.heap.objs.size], FpOk X pins H1 b := fun b hb => by
      have e' : b = s1.heap.objs.size + 1 ∨ b = s1.heap.objs.size := by simpa using hb
      have hle : s1.heap.objs.size ≤ b := by
        rcases e' with z | z
        · rw [z]; exact Nat.le_add_right _ _
        · rw [z]; exact Nat.le_refl _
      exact I1.fpOk hle (I1.hok.fresh hle)
    rcases q with ⟨xs, hq, q⟩ | ⟨xs, hq, q⟩
    · obtain ⟨its, rv, p', hz⟩ := I1.list hq
      refine call_enumerate_list p'.isList fun h' he hit hsz hk => wpAny_pyIter_enum he ?_
      have I2 : Inv X pins σ H1 { s1 with heap := h' } := I1.kept (t' := s1.toks) hk
      exact ⟨s1.heap.objs.size + 1, [s1.heap.objs.size + 1, s1.heap.objs.size], _, _, H1, rfl, I2, turn_enum a (s1.heap.objs.size + 1) s1.heap.objs.size, ⟨⟨.none, he⟩, hit, Nat.succ_ne_self _⟩, fp, q⟩
    · obtain ⟨its, rv, p', hz⟩ := I1.tuple hq
      refine call_enum1 (begins_tuple a its.toArray) (show s1.heap.IsTuple a its.toArray from p') fun h' he hit hsz hk => wpAny_pyIter_enum he ?_
      have I2 : Inv X pins σ H1 { s1 with heap := h' } := I1.kept (t' := s1.toks) hk
      exact ⟨s1.heap.objs.size + 1, [s1.heap.objs.size + 1, s1.heap.objs.size], _, _, H1, rfl, I2, turn_enumT a (s1.heap.objs.size + 1) s1.heap.objs.size, ⟨⟨.none, he⟩, ⟨_, hit, rfl, rfl⟩, Nat.succ_ne_self _⟩, fp, q⟩
theorem enuL_get : ∀ (xs : List D) (k : Int) (i : Nat) (x : D), xs[i]? = some x → (enuL k xs)[i]? = some (.tup [.int (k + i), x])
  | [], _, _, _, h => by simp at h
  | y :: ys, k, 0, x, h => by
    simp at h
    subst h
    simp [enuL]
  | y :: ys, k, i + 1, x, h => by
    show (enuL (k + 1) ys)[i]? = _
    rw [enuL_get ys (k + 1) i x (by simpa using h)]
    congr 3
    simp
    omega
theorem enuL_len : ∀ (xs : List D) (k : Int), (enuL k xs).length = xs.length
  | [], _ => rfl
  | y :: ys, k => by show (enuL (k + 1) ys).length + 1 = _; rw [enuL_len ys]; rfl
theorem get_l {K : PySem.W.Frag} {A0 : Ad} {H0 : Hp} {w0 : Wd} {d : D} {a : Addr} {xs : List D} (e : w0.seq d = some xs) (r : RD K H0 A0 d (.ref a)) (t : isT d = false) {A : Ad} {H : Hp} {w : Wd} {σ : Sl} (c : Car A0 H0 A H) (S : Sim K H A w σ) (ok : (srcOf d).ok xs w = true) :
    ∃ vs, SqL K H a vs ∧ RDs K H A xs vs := by
  obtain ⟨b, vs, eb, rs, h⟩ := S.seq (r.step c d _) (src_seq e ok)
  cases eb
  rcases h with ⟨h, _⟩ | ⟨_, h⟩
  · rw [t] at h; cases h
  · exact ⟨vs, h, rs⟩
theorem get_t {K : PySem.W.Frag} {A0 : Ad} {H0 : Hp} {w0 : Wd} {d : D} {a : Addr} {xs : List D} (e : w0.seq d = some xs) (r : RD K H0 A0 d (.ref a)) (t : isT d = true) {A : Ad} {H : Hp} {w : Wd} {σ : Sl} (c : Car A0 H0 A H) (S : Sim K H A w σ) (ok : (srcOf d).ok xs w = true) :
    ∃ vs, SqT K H a vs ∧ RDs K H A xs vs := by
  obtain ⟨b, vs, eb, rs, h⟩ := S.seq (r.step c d _) (src_seq e ok)
  cases eb
  rcases h with ⟨_, h⟩ | ⟨h, _⟩
  · exact ⟨vs, h, rs⟩
  · rw [t] at h; cases h
theorem pair_new {K : PySem.W.Frag} {A : Ad} {H : Hp} {w : Wd} {σ : Sl} {T : Addr} {x y : D} {u v : V} (S : Sim K H A w σ) (hT : H T = none) (rx : RD K H A x u) (ry : RD K H A y v) :
    Step A H A (upd H T (.tup [u, v])) ∧ Sim K (upd H T (.tup [u, v])) A w σ ∧ RD K (upd H T (.tup [u, v])) A (.tup [x, y]) (.ref T) := by
  have hc := (S.fresh hT).1.2.2
  exact ⟨Step.new hT hc, S.new hT, RD.newT hT hc ⟨_, _, rfl, rx, _, _, rfl, ry, rfl⟩⟩
theorem walk_e {K : PySem.W.Frag} {A0 : Ad} {H0 : Hp} {w0 : Wd} {d : D} {a : Addr} {xs : List D} (e : w0.seq d = some xs) (r : RD K H0 A0 d (.ref a)) (t : isT d = false) : WalkD K (Ite K a) ⟨enuL 0 xs, (srcOf d).ok xs⟩ A0 H0 := by
  refine ⟨fun A H w σ i c S ok hi => ?_, fun A H w σ c S ok => ?_⟩
  · have hi : i < xs.length := by rw [← enuL_len xs 0]; exact hi
    obtain ⟨vs, h, rs⟩ := get_l e r t c S ok
    obtain ⟨v, hv, rv⟩ := rs.get (List.getElem?_eq_getElem hi)
    refine ⟨⟨vs, v, h, hv⟩, fun x H' y => ?_⟩
    obtain ⟨T, x', rfl, hT, rfl, f⟩ := y
    have ev := (f vs h).symm.trans hv
    cases ev
    obtain ⟨a1, a2, a3⟩ := pair_new (x := .int i) (u := .int (i : Nat)) S hT rfl rv
    refine ⟨a1, a2, fun d' e' => ?_⟩
    rw [enuL_get xs 0 i _ (List.getElem?_eq_getElem hi)] at e'
    cases e'
    rw [Int.zero_add]
    exact a3
  · obtain ⟨vs, h, rs⟩ := get_l e r t c S ok
    exact ⟨vs, h, by rw [enuL_len]; exact Nat.le_of_eq rs.length⟩
theorem walk_et {K : PySem.W.Frag} {A0 : Ad} {H0 : Hp} {w0 : Wd} {d : D} {a : Addr} {xs : List D} (e : w0.seq d = some xs) (r : RD K H0 A0 d (.ref a)) (t : isT d = true) : WalkD K (IteT K a) ⟨enuL 0 xs, (srcOf d).ok xs⟩ A0 H0 := by
  refine ⟨fun A H w σ i c S ok hi => ?_, fun A H w σ c S ok => ?_⟩
  · have hi : i < xs.length := by rw [← enuL_len xs 0]; exact hi
    obtain ⟨vs, h, rs⟩ := get_t e r t c S ok
    obtain ⟨v, hv, rv⟩ := rs.get (List.getElem?_eq_getElem hi)
    refine ⟨⟨vs, v, h, hv⟩, fun x H' y => ?_⟩
    obtain ⟨T, x', rfl, hT, rfl, f⟩ := y
    have ev := (f vs h).symm.trans hv
    cases ev
    obtain ⟨a1, a2, a3⟩ := pair_new (x := .int i) (u := .int (i : Nat)) S hT rfl rv
    refine ⟨a1, a2, fun d' e' => ?_⟩
    rw [enuL_get xs 0 i _ (List.getElem?_eq_getElem hi)] at e'
    cases e'
    rw [Int.zero_add]
    exact a3
  · obtain ⟨vs, h, rs⟩ := get_t e r t c S ok
    exact ⟨vs, h, by rw [enuL_len]; exact Nat.le_of_eq rs.length⟩
theorem zipD_get : ∀ (xs ys : List D) (i : Nat) (x y : D), xs[i]? = some x → ys[i]? = some y → (zipD xs ys)[i]? = some (.tup [x, y])
  | [], _, _, _, _, h, _ => by simp at h
  | _ :: _, [], _, _, _, _, h => by simp at h
  | a :: as, b :: bs, 0, x, y, h, h2 => by
    simp at h h2
    subst h h2
    rfl
  | a :: as, b :: bs, i + 1, x, y, h, h2 => zipD_get as bs i x y (by simpa using h) (by simpa using h2)
theorem zipD_len : ∀ (xs ys : List D), (zipD xs ys).length = min xs.length ys.length
  | [], _ => by simp [zipD]
  | _ :: _, [] => by simp [zipD]
  | a :: as, b :: bs => by show (zipD as bs).length + 1 = _; rw [zipD_len as bs]; simp
theorem walk_z {K : PySem.W.Frag} {A0 : Ad} {H0 : Hp} {w0 : Wd} {d d2 : D} {a b : Addr} {xs ys : List D} (e : w0.seq d = some xs) (e2 : w0.seq d2 = some ys) (r : RD K H0 A0 d (.ref a)) (r2 : RD K H0 A0 d2 (.ref b)) (t : isT d = false) (t2 : isT d2 = false) :
    WalkD K (Itz K a b) ⟨zipD xs ys, fun w => (srcOf d).ok xs w && (srcOf d2).ok ys w⟩ A0 H0 := by
  refine ⟨fun A H w σ i c S ok hi => ?_, fun A H w σ c S ok => ?_⟩
  · obtain ⟨o1, o2⟩ := Bool.and_eq_true_iff.mp ok
    have hi : i < (zipD xs ys).length := hi
    rw [zipD_len] at hi
    have hx : i < xs.length := by omega
    have hy : i < ys.length := by omega
    obtain ⟨vs, h, rs⟩ := get_l e r t c S o1
    obtain ⟨us, h2, rs2⟩ := get_l e2 r2 t2 c S o2
    obtain ⟨v, hv, rv⟩ := rs.get (List.getElem?_eq_getElem hx)
    obtain ⟨u, hu, ru⟩ := rs2.get (List.getElem?_eq_getElem hy)
    refine ⟨⟨vs, us, v, u, h, h2, hv, hu⟩, fun x H' y => ?_⟩
    obtain ⟨T, x', y', rfl, hT, rfl, f, f2⟩ := y
    have ev := (f vs h).symm.trans hv
    have eu := (f2 us h2).symm.trans hu
    cases ev
    cases eu
    obtain ⟨a1, a2, a3⟩ := pair_new S hT rv ru
    refine ⟨a1, a2, fun d' e' => ?_⟩
    rw [zipD_get xs ys i _ _ (List.getElem?_eq_getElem hx) (List.getElem?_eq_getElem hy)] at e'
    cases e'
    exact a3
  · obtain ⟨o1, o2⟩ := Bool.and_eq_true_iff.mp ok
    obtain ⟨vs, h, rs⟩ := get_l e r t c S o1
    obtain ⟨us, h2, rs2⟩ := get_l e2 r2 t2 c S o2
    refine ⟨vs, us, h, h2, ?_⟩
    have l1 := rs.length
    have l2 := rs2.length
    show vs.length ≤ (zipD xs ys).length ∨ us.length ≤ (zipD xs ys).length
    rw [zipD_len]
    omega
theorem walk_zt {K : PySem.W.Frag} {A0 : Ad} {H0 : Hp} {w0 : Wd} {d d2 : D} {a b : Addr} {xs ys : List D} (e : w0.seq d = some xs) (e2 : w0.seq d2 = some ys) (r : RD K H0 A0 d (.ref a)) (r2 : RD K H0 A0 d2 (.ref b)) (t : isT d = true) (t2 : isT d2 = true) :
    WalkD K (RZ.ItzT K a b) ⟨zipD xs ys, fun w => (srcOf d).ok xs w && (srcOf d2).ok ys w⟩ A0 H0 := by
  refine ⟨fun A H w σ i c S ok hi => ?_, fun A H w σ c S ok => ?_⟩
  · obtain ⟨o1, o2⟩ := Bool.and_eq_true_iff.mp ok
    have hi : i < (zipD xs ys).length := hi
    rw [zipD_len] at hi
    have hx : i < xs.length := by omega
    have hy : i < ys.length := by omega
    obtain ⟨vs, h, rs⟩ := get_t e r t c S o1
    obtain ⟨us, h2, rs2⟩ := get_t e2 r2 t2 c S o2
    obtain ⟨v, hv, rv⟩ := rs.get (List.getElem?_eq_getElem hx)
    obtain ⟨u, hu, ru⟩ := rs2.get (List.getElem?_eq_getElem hy)
    refine ⟨⟨vs, us, v, u, h, h2, hv, hu⟩, fun x H' y => ?_⟩
    obtain ⟨T, x', y', rfl, hT, rfl, f, f2⟩ := y
    have ev := (f vs h).symm.trans hv
    have eu := (f2 us h2).symm.trans hu
    cases ev
    cases eu
    obtain ⟨a1, a2, a3⟩ := pair_new S hT rv ru
    refine ⟨a1, a2, fun d' e' => ?_⟩
    rw [zipD_get xs ys i _ _ (List.getElem?_eq_getElem hx) (List.getElem?_eq_getElem hy)] at e'
    cases e'
    exact a3
  · obtain ⟨o1, o2⟩ := Bool.and_eq_true_iff.mp ok
    obtain ⟨vs, h, rs⟩ := get_t e r t c S o1
    obtain ⟨us, h2, rs2⟩ := get_t e2 r2 t2 c S o2
    refine ⟨vs, us, h, h2, ?_⟩
    have l1 := rs.length
    have l2 := rs2.length
    show vs.length ≤ (zipD xs ys).length ∨ us.length ≤ (zipD xs ys).length
    rw [zipD_len]
    omega
end Fz

/-! Q10: handing data to a callee and back; the checker of expressions. -/
namespace Fz
open PySem PySem.Spec PyProof.Rows L2
section
variable {K : PySem.W.Frag} {H H' : Hp} {A A' : Ad} {w : Wd} {σ : Sl}
mutual
theorem rs_rd {ρ : Nat → Option D} {φ : Bool} (hk : ∀ (k : Nat) a d', ρ k = some d' → A.mu[k]? = some a → RD K H A' d' (.ref a)) (ho : ∀ a, A.out a → A'.out a) (hb : ∀ a, A.out a → a ∉ A.bad → a ∉ A'.bad) (hg : A'.ga = A.ga) :
    ∀ (d : D) (v : V) (d' : D), rs ρ φ d = some d' → RD K H A d v → RD K H A' d' v
  | .non, _, _, e, h => by cases e; exact h
  | .bl _, _, _, e, h => by cases e; exact h
  | .int _, _, _, e, h => by cases e; exact h
  | .str _, _, _, e, h => by cases e; exact h
  | .tup ds, _, _, e, h => by
    obtain ⟨a, vs, rfl, q, r⟩ := h
    simp only [rs, Option.map_eq_some_iff] at e
    obtain ⟨es, e1, rfl⟩ := e
    exact ⟨a, vs, rfl, q, rsL_rd hk ho hb hg ds vs es e1 r⟩
  | .lst ds, _, _, e, h => by
    obtain ⟨a, vs, rfl, q, x, y, r⟩ := h
    simp only [rs, Option.map_eq_some_iff] at e
    obtain ⟨es, e1, rfl⟩ := e
    exact ⟨a, vs, rfl, q, ho a x, hb a x y, rsL_rd hk ho hb hg ds vs es e1 r⟩
  | .fl ds, _, _, e, h => by
    obtain ⟨a, vs, rfl, q, x, r⟩ := h
    simp only [rs] at e
    split at e
    · obtain ⟨es, e1, rfl⟩ := Option.map_eq_some_iff.mp e
      exact ⟨a, vs, rfl, q, ho a x, rsL_rd hk ho hb hg ds vs es e1 r⟩
    · cases e
  | .sc ds, _, _, e, h => by
    obtain ⟨a, vs, rfl, q, r⟩ := h
    simp only [rs] at e
    split at e
    · obtain ⟨es, e1, rfl⟩ := Option.map_eq_some_iff.mp e
      exact ⟨a, vs, rfl, q, rsL_rd hk ho hb hg ds vs es e1 r⟩
    · cases e
  | .ref k, _, _, e, h => by
    obtain ⟨a, q, rfl⟩ := h
    exact hk k a _ e q
  | .g k, _, _, e, h => by
    cases e
    obtain ⟨a, q, rfl⟩ := h
    exact ⟨a, by rw [hg]; exact q, rfl⟩
  | .dic ks ds, _, _, e, h => by
    obtain ⟨a, vs, rfl, q, x, y, z, r⟩ := h
    simp only [rs, Option.map_eq_some_iff] at e
    obtain ⟨es, e1, rfl⟩ := e
    exact ⟨a, vs, rfl, q, ho a x, hb a x y, z, rsL_rd hk ho hb hg ds _ es e1 r⟩
theorem rsL_rd {ρ : Nat → Option D} {φ : Bool} (hk : ∀ (k : Nat) a d', ρ k = some d' → A.mu[k]? = some a → RD K H A' d' (.ref a)) (ho : ∀ a, A.out a → A'.out a) (hb : ∀ a, A.out a → a ∉ A.bad → a ∉ A'.bad) (hg : A'.ga = A.ga) :
    ∀ (ds : List D) (vs : List V) (ds' : List D), rsL ρ φ ds = some ds' → RDs K H A ds vs → RDs K H A' ds' vs
  | [], _, _, e, h => by cases e; exact h
  | d :: ds, _, _, e, h => by
    obtain ⟨v, r, rfl, x, y⟩ := h
    simp only [rsL, Option.bind_eq_some_iff, Option.map_eq_some_iff] at e
    obtain ⟨d', e1, es, e2, rfl⟩ := e
    exact ⟨v, r, rfl, rs_rd hk ho hb hg d v d' e1 x, rsL_rd hk ho hb hg ds r es e2 y⟩
end
/-- the refs from L on as what they hold -/
theorem up_rd (S : Sim K H A w σ) {mk : List D → D} {L : Nat} {φ : Bool} (ho : ∀ a, A.out a → A'.out a) (hb : ∀ a, A.out a → a ∉ A.bad → a ∉ A'.bad) (hg : A'.ga = A.ga)
    (hlow : ∀ (k : Nat) a, k < L → A.mu[k]? = some a → A'.mu[k]? = some a) (hmk : ∀ (k : Nat) a ys vs, ¬ k < L → A.mu[k]? = some a → H a = some (.lst vs) → RDs K H A' ys vs → RD K H A' (mk ys) (.ref a)) :
    ∀ (n k : Nat) (a : Addr) (d' : D), up mk L w.m φ n k = some d' → A.mu[k]? = some a → RD K H A' d' (.ref a)
  | 0, k, a, d', e, h => by
    simp only [up] at e
    split at e
    · rename_i hl
      cases e
      exact ⟨a, hlow k a hl h, rfl⟩
    · cases e
  | n + 1, k, a, d', e, h => by
    simp only [up] at e
    split at e
    · rename_i hl
      cases e
      exact ⟨a, hlow k a hl h, rfl⟩
    · rename_i hl
      simp only [Option.bind_eq_some_iff, Option.map_eq_some_iff] at e
      obtain ⟨ds, e1, ys, e2, rfl⟩ := e
      obtain ⟨xs, vs, q1, q2, q3⟩ := S.mu.get h
      rw [e1] at q1
      cases q1
      exact hmk k a ys vs hl h q2 (rsL_rd (fun k a d' e h => up_rd S ho hb hg hlow hmk n k a d' e h) ho hb hg ds vs ys e2 q3)
/-- what a callee stands upon -/
def Ad.sub (A : Ad) : Ad := ⟨[], A.ga, A.bad ++ (A.mu ++ A.cn), []⟩
theorem Ad.sub_out {a : Addr} (h : A.out a) : A.sub.out a := ⟨by simp [Ad.sub], h.2.1, by simp [Ad.sub]⟩
theorem Ad.sub_bad {a : Addr} (h : A.out a) (h2 : a ∉ A.bad) : a ∉ A.sub.bad := fun z => by
  rcases List.mem_append.mp z with z | z
  · exact h2 z
  · rcases List.mem_append.mp z with z | z
    · exact h.1 z
    · exact h.2.2 z
theorem lendL_rd (S : Sim K H A w σ) {ds ds' : List D} {vs : List V} (e : lendL w ds = some ds') (r : RDs K H A ds vs) : RDs K H A.sub ds' vs := by
  refine rsL_rd (fun k a d' e h => up_rd S (fun a h => Ad.sub_out h) (fun a => Ad.sub_bad) rfl (fun k a h => absurd h (Nat.not_lt_zero _)) (fun k a ys vs _ h1 h2 h3 => ?_) 4 k a d' e h) (fun a h => Ad.sub_out h) (fun a => Ad.sub_bad) rfl ds vs ds' e r
  exact ⟨a, vs, rfl, h2, ⟨by simp [Ad.sub], (S.dj a (List.mem_of_getElem? h1)).1, by simp [Ad.sub]⟩, h3⟩
theorem gOk_rd (hg : A'.ga = A.ga ∨ ∀ (k : Nat) a, A.ga[k]? = some a → A'.ga[k]? = some a) : ∀ {xs : List D} {vs : List V}, xs.all gOk = true → RDs K H A xs vs → RDs K H' A' xs vs
  | [], _, _, h => h
  | d :: ds, _, g, h => by
    obtain ⟨v, r, e, x, y⟩ := h
    obtain ⟨g1, g2⟩ := Bool.and_eq_true_iff.mp (show (gOk d && ds.all gOk) = true from g)
    refine ⟨v, r, e, ?_, gOk_rd hg g2 y⟩
    cases d with
    | g k =>
      obtain ⟨a, q, e⟩ := x
      refine ⟨a, ?_, e⟩
      rcases hg with hg | hg
      · rw [hg]; exact q
      · exact hg k a q
    | non => exact x
    | bl _ => exact x
    | int _ => exact x
    | str _ => exact x
    | _ => cases g1
theorem RL.gok (k : ∀ a vs, H a = some (.lst vs) → a ∈ A.ga → H' a = some (.lst vs)) (hg : A'.ga = A.ga ∨ ∀ (k : Nat) a, A.ga[k]? = some a → A'.ga[k]? = some a) : ∀ {as : List Addr} {ms : List (List D)}, (∀ a ∈ as, a ∈ A.ga) → (∀ xs ∈ ms, xs.all gOk = true) → RL K H A as ms → RL K H' A' as ms
  | [], _, _, _, h => h
  | a :: as, _, hm, g, h => by
    obtain ⟨xs, r, vs, rfl, x, y, z⟩ := h
    exact ⟨xs, r, vs, rfl, k a vs x (hm a List.mem_cons_self), gOk_rd hg (g xs List.mem_cons_self) y, RL.gok k hg (fun b hb => hm b (List.mem_cons_of_mem _ hb)) (fun ys hy => g ys (List.mem_cons_of_mem _ hy)) z⟩
theorem Sim.sub (S : Sim K H A w σ) : Sim K H A.sub ⟨[], [], w.g⟩ [] where
  loc := fun i d e => by simp at e
  len := rfl
  mu := rfl
  ga := RL.gok (A := A) (A' := A.sub) (fun _ _ h _ => h) (.inl rfl) (fun _ h => h) S.gk S.ga
  nd := List.nodup_nil
  ndg := S.ndg
  dj := fun a h => by simp [Ad.sub] at h
  djg := fun a h => by
    rcases List.mem_append.mp h with h | h
    · exact S.djg a h
    · rcases List.mem_append.mp h with h | h
      · exact (S.dj a h).1
      · exact (S.cnd a h).2.1
  bt := fun a h => by
    rcases List.mem_append.mp h with h | h
    · exact S.bt a h
    · rcases List.mem_append.mp h with h | h
      · exact (S.mu.tracked h).elim fun vs e => ⟨_, e⟩
      · exact (S.cnt a h).elim fun vs e => ⟨_, e⟩
  cnt := fun a h => by simp [Ad.sub] at h
  cnd := fun a h => by simp [Ad.sub] at h
  gk := S.gk
mutual
/-- a callee's result at the caller's -/
theorem ret_rd (ho : ∀ a, A.out a → a ∉ A.bad → A'.out a ∧ a ∉ A'.bad) (hg : A'.ga = A.ga) : ∀ (d : D) (v : V), okRet d = true → RD K H A d v → RD K H A' d v
  | .non, _, _, h => h
  | .bl _, _, _, h => h
  | .int _, _, _, h => h
  | .str _, _, _, h => h
  | .tup ds, _, o, h => by
    obtain ⟨a, vs, rfl, q, r⟩ := h
    exact ⟨a, vs, rfl, q, rets_rd ho hg ds vs (by simpa [okRet] using o) r⟩
  | .lst ds, _, o, h => by
    obtain ⟨a, vs, rfl, q, x, y, r⟩ := h
    obtain ⟨x', y'⟩ := ho a x y
    exact ⟨a, vs, rfl, q, x', y', rets_rd ho hg ds vs (by simpa [okRet] using o) r⟩
  | .fl _, _, o, _ => nomatch o
  | .sc _, _, o, _ => nomatch o
  | .ref _, _, o, _ => nomatch o
  | .g k, _, _, h => by
    obtain ⟨a, q, rfl⟩ := h
    exact ⟨a, by rw [hg]; exact q, rfl⟩
  | .dic ks ds, _, o, h => by
    obtain ⟨a, vs, rfl, q, x, y, z, r⟩ := h
    obtain ⟨x', y'⟩ := ho a x y
    exact ⟨a, vs, rfl, q, x', y', z, rets_rd ho hg ds _ (by simpa [okRet] using o) r⟩
theorem rets_rd (ho : ∀ a, A.out a → a ∉ A.bad → A'.out a ∧ a ∉ A'.bad) (hg : A'.ga = A.ga) : ∀ (ds : List D) (vs : List V), okRets ds = true → RDs K H A ds vs → RDs K H A' ds vs
  | [], _, _, h => h
  | d :: ds, _, o, h => by
    obtain ⟨v, r, rfl, x, y⟩ := h
    obtain ⟨o1, o2⟩ := Bool.and_eq_true_iff.mp (show (okRet d && okRets ds) = true by simpa [okRets] using o)
    exact ⟨v, r, rfl, ret_rd ho hg d v o1 x, rets_rd ho hg ds r o2 y⟩
end
/-- behind a call -/
theorem Sim.behind {A1 : Ad} {g' : List (List D)} {d : D} {v : V} (S : Sim K H A w σ) (st : Step A.sub H A1 H') (hm : A1.mu = []) (S1 : Sim K H' A1 ⟨[], [], g'⟩ []) (o : okRet d = true) (r : RD K H' A1 d v) :
    ∃ A', Step A H A' H' ∧ Sim K H' A' { w with g := g' } σ ∧ RD K H' A' d v := by
  have hc : A1.cn = [] := st.cn
  have hbad : A1.bad = A.bad ++ (A.mu ++ A.cn) := st.bad
  have kp : ∀ a o, H a = some o → a ∉ A.ga → H' a = some o ∧ a ∉ A1.ga := fun a o e h =>
    let ⟨q, x⟩ := st.kept a o e ⟨by simp [Ad.sub], h, by simp [Ad.sub]⟩
    ⟨q, x.2.1⟩
  have c : Car A H ⟨A.mu, A1.ga, A.bad, A.cn⟩ H' := ⟨fun a o e x => let ⟨q, y⟩ := kp a o e x.2.1; ⟨q, x.1, y, x.2.2⟩, st.tup, st.frz, fun _ _ h => h, st.ga, rfl⟩
  have mt : ∀ a ∈ A.mu, ∃ vs, H a = some (.lst vs) := fun a h => S.mu.tracked h
  refine ⟨⟨A.mu, A1.ga, A.bad, A.cn⟩, ⟨c, rfl, fun a h => ?_⟩, ⟨fun i d e => let ⟨v, e1, r⟩ := S.loc i d e; ⟨v, e1, r.step c d v⟩, S.len, RL.carry (fun xs vs h => h.step c) (fun a ha vs h => (kp a _ h (S.dj a ha).1).1) S.mu, ?_, S.nd, S1.ndg, fun a ha => ⟨?_, (S.dj a ha).2⟩, fun a ha => ?_, fun a ha => ?_, fun a ha => ?_, fun a ha => ⟨(S.cnd a ha).1, ?_, (S.cnd a ha).2.2⟩, S1.gk⟩, ?_⟩
  · obtain ⟨vs, e⟩ := S.cnt a h
    rw [e]
    exact (kp a _ e (S.cnd a h).2.1).1
  · exact RL.gok (A := A1) (A' := ⟨A.mu, A1.ga, A.bad, A.cn⟩) (fun _ _ h _ => h) (.inl rfl) (fun _ h => h) S1.gk S1.ga
  · obtain ⟨vs, e⟩ := mt a ha
    exact (kp a _ e (S.dj a ha).1).2
  · obtain ⟨o, e⟩ := S.bt a ha
    exact (kp a _ e (S.djg a ha)).2
  · obtain ⟨o, e⟩ := S.bt a ha
    exact ⟨o, (kp a _ e (S.djg a ha)).1⟩
  · obtain ⟨vs, e⟩ := S.cnt a ha
    exact ⟨vs, (kp a _ e (S.cnd a ha).2.1).1⟩
  · obtain ⟨vs, e⟩ := S.cnt a ha
    exact (kp a _ e (S.cnd a ha).2.1).2
  · refine ret_rd (A := A1) (A' := ⟨A.mu, A1.ga, A.bad, A.cn⟩) (fun a x y => ?_) rfl d v o r
    rw [hbad] at y
    exact ⟨⟨fun z => y (List.mem_append_right _ (List.mem_append_left _ z)), x.2.1, fun z => y (List.mem_append_right _ (List.mem_append_right _ z))⟩, fun z => y (List.mem_append_left _ z)⟩
end
theorem arr_vals : ∀ {p : List Nat} {vs : List V} {us : List Value} {vs' : List V}, Vals vs us → arr p vs = some vs' → ∃ us', arr p us = some us' ∧ Vals vs' us'
  | [], _, _, _, _, e => by cases e; exact ⟨[], rfl, .nil⟩
  | i :: p, vs, us, _, r, e => by
    simp only [arr, Option.bind_eq_some_iff, Option.map_eq_some_iff] at e ⊢
    obtain ⟨v, e1, ys, e2, rfl⟩ := e
    obtain ⟨u, h1, h2⟩ := r.get e1
    obtain ⟨zs, h3, h4⟩ := arr_vals (p := p) r e2
    exact ⟨u :: zs, ⟨u, h1, zs, h3, rfl⟩, .cons h2 h4⟩
theorem arr_rds {K : PySem.W.Frag} {H : Hp} {A : Ad} : ∀ {p : List Nat} {ds : List D} {vs : List V} {ds' : List D}, RDs K H A ds vs → arr p ds = some ds' → ∃ vs', arr p vs = some vs' ∧ RDs K H A ds' vs'
  | [], _, _, _, _, e => by cases e; exact ⟨[], rfl, rfl⟩
  | i :: p, ds, vs, _, r, e => by
    simp only [arr, Option.bind_eq_some_iff, Option.map_eq_some_iff] at e ⊢
    obtain ⟨d, e1, ys, e2, rfl⟩ := e
    obtain ⟨v, h1, h2⟩ := r.get e1
    obtain ⟨zs, h3, h4⟩ := arr_rds (p := p) r e2
    exact ⟨v :: zs, ⟨v, h1, zs, h3, rfl⟩, v, zs, rfl, h2, h4⟩
theorem arrD_rds {K : PySem.W.Frag} {H : Hp} {A : Ad} {p : Option (List Nat)} {ds : List D} {vs : List V} {ds' : List D} {us : List Value} (r : RDs K H A ds vs) (q : Vals vs us) (e : arrD p ds = some ds') :
    ∃ vs' us', arrD p us = some us' ∧ Vals vs' us' ∧ RDs K H A ds' vs' := by
  cases p with
  | none =>
    cases e
    exact ⟨vs, us, rfl, q, r⟩
  | some p =>
    obtain ⟨vs', e1, r'⟩ := arr_rds r e
    obtain ⟨us', e2, q'⟩ := arr_vals q e1
    exact ⟨vs', us', e2, q', r'⟩
section
variable {T : Tb} {P : Pg} {lv : Nat} {N : List Str} {sc : Scope} {top : Bool} {X : Cx}
/-- a def is called -/
theorem call_sound (G : GX T P lv N sc top X) {j : Nat} {dd : Str × List Str} (hj : T.defs[j]? = some dd) (hlv : j < lv) :
    ∃ f, X.mg dd.1 = some (.ref f) ∧ PySem.W.keepIn X.K (.ref f) = true ∧ ∀ (n : Nat) (ks : List Str) (p : Option (List Nat)), (j, n, ks, p) ∈ T.binds →
      ∀ (pins : List (Addr × Obj)) (s : Shared) (σ : Sl) (H : Hp) (Q : VK) (us ws : List Value) (vs zs : List V) (A : Ad) (w : Wd) (ds es as bs : List D) (d : D) (g' : List (List D)),
        Inv X pins σ H s → Vals vs us → Vals zs ws → Sim X.K H A w σ → RDs X.K H A ds vs → RDs X.K H A es zs → ds.length = n → es.length = ks.length → lendL w (ds ++ es) = some as → arrD p as = some bs → bs.length = dd.2.length →
        P.F j bs w.g = .ok (d, g') → Aft X.K A H σ d { w with g := g' } Q → wpAny (model X.prog X.w) X.A (call (.ref f) us (ks.zip ws)) (EP X pins σ Q) X.xe s := by
  obtain ⟨f, fd, h1, h2, F, hb, hr⟩ := G.defs j dd hj hlv
  refine ⟨f, h1, h2, fun n ks p hm pins s σ H Q us ws vs zs A w ds es as bs d g' I r1 r2 S q1 q2 l1 l2 e1 e2 l3 e3 q => ?_⟩
  have rr := lendL_rd S e1 (q1.append q2)
  obtain ⟨vs', us', e4, q', r'⟩ := arrD_rds rr (r1.append r2) e2
  have hbind := hb n ks p hm s us ws us' (by rw [← r1.length, q1.length]; exact l1) (by rw [← r2.length, q2.length]; exact l2) e4
  have hs : spD X.K (P.F j) dd.2.length vs' H (fun v H' => Q v H') (fun _ _ _ => False) := by
    refine ⟨A.sub, w.g, bs, d, g', rfl, rfl, S.sub, r', l3, e3, fun A1 v H' st hm S1 rv => ?_⟩
    obtain ⟨A', st', S', r''⟩ := S.behind st hm S1 (hr _ _ _ _ e3) rv
    exact q A' v H' st' S' r''
  refine wpAny_call (codeAny_mono (F.run X.A X.stack s H ⟨us, ks.zip ws⟩ us' vs' _ (fun _ _ _ => False) G.room G.gd I.env0 hbind q' hs) fun r s' hq => ?_)
  cases r with
  | error e => exact hq.elim
  | ok fl =>
    cases fl with
    | ret u => exact I.after hq
    | next => exact False.elim hq
    | brk => exact False.elim hq
    | cont => exact False.elim hq
end
end Fz

/-! Q11: the rules of expressions over data. -/
namespace Fz
open PySem PySem.Spec PyProof.Rows L2

/-- an expression, as a value and as a test -/
structure Snd (X : Cx) (P : Pg) (e : E) (ex : Expr) : Prop where
  pe : PE X ex (rd X.K (evE P e))
  pt : PT X ex (rdT X.K (evT P e))
  pw : ∀ op vs pos, ex = .BoolOp op vs pos → PW X ex (rdT X.K (evT P e))
def okX : Expr → Bool
  | .Starred _ _ => false
  | .Set _ _ _ => false
  | .Slice _ _ _ _ => false
  | _ => true
/-- its test is the truth of its value -/
def plainT : Expr → Bool
  | .UnaryOp .Not _ _ => false
  | .BoolOp _ _ _ => false
  | .IfExp _ _ _ _ => false
  | .Compare _ _ _ _ => false
  | _ => true
theorem plainT_ok {e : Expr} {env : Env} (h : plainT e = true) (whole : Sem Value) : isTrue e env whole = (do let v ← whole; standAt e.pos; holding [v] (truthy v)) := by
  cases e with
  | UnaryOp op x pos => cases op <;> first | rfl | cases h
  | BoolOp op vs pos => cases h
  | IfExp a b c pos => cases h
  | Compare a b c pos => cases h
  | _ => rfl
theorem starEach_cons {e : Expr} {es : List Expr} {env : Env} (h : okX e = true) : starEach (e :: es) env = (false, eval e env) :: starEach es env := by
  cases e <;> first | rfl | cases h
theorem noStars {pos : Pos} {env : Env} : ∀ {es : List Expr}, es.all okX = true → (backTo pos (starEach es env)).any (·.1) = false
  | [], _ => rfl
  | e :: es, h => by
    obtain ⟨h1, h2⟩ := Bool.and_eq_true_iff.mp (show (okX e && es.all okX) = true from h)
    rw [starEach_cons h1]
    exact noStars (es := es) h2
theorem behind_ok {e : Expr} {op : CmpOp} (h : okX e = true) : behindInMarks op e = false := by
  cases e <;> first | rfl | cases h
theorem plainIx_ok {e : Expr} (h : okX e = true) : PlainIx e := by
  intro o i
  cases e <;> first | rfl | cases h
theorem folded_ok {e : Expr} {env : Env} (h : okX e = true) (x : Value) : foldedSetIterable e env x = pure x := by
  cases e <;> first | rfl | cases h
section
variable {T : Tb} {P : Pg} {lv : Nat} {N : List Str} {sc : Scope} {top : Bool} {X : Cx}
theorem GX.hu (G : GX T P lv N sc top X) : X.A.units + 64 < cLine := G.room.units
theorem GX.hu65 (G : GX T P lv N sc top X) : X.A.units + 65 < cLine := by have := G.room.un; omega
theorem GX.hu1 (G : GX T P lv N sc top X) : X.A.units + 1 < cLine := by have := G.hu; omega
/-- by its value -/
theorem Snd.plain {e : E} {ex : Expr} (h : PE X ex (rd X.K (evE P e))) (p : plainT ex = true) : Snd X P e ex := by
  refine ⟨h, PTimp (pt_truth h (fun w => plainT_ok p w)) fun σ H Q q => ?_, fun op vs pos z => by subst z; cases p⟩
  obtain ⟨A, w, S, b, w', e1, q⟩ := q
  obtain ⟨x, e2, e3⟩ := bd_split (show ((evE P e w).bd fun x => (R.of (x.2.tru x.1)).bd fun b => R.ok (b, x.2)) = .ok (b, w') from e1)
  obtain ⟨c, e4, e5⟩ := bd_split e3
  cases e5
  exact ⟨A, w, S, x.1, x.2, e2, fun A' v H' st S' r => ⟨b, S'.tru (of_split e4) r, q A' H' st S'⟩⟩
/-- two values, one rule -/
theorem rd2 {fa fb : Wd → R (D × Wd)} {k : D → D → Wd → R (D × Wd)} {r : R2}
    (hr : ∀ A w σ d e r' w' x y H Q, Sim X.K H A w σ → RD X.K H A d x → RD X.K H A e y → k d e w = .ok (r', w') → Aft X.K A H σ r' w' Q → r x y H Q) :
    ∀ σ H Q, rd X.K (fun w => (fa w).bd fun x => (fb x.2).bd fun y => k x.1 y.1 y.2) σ H Q → tOp r (rd X.K fa) (rd X.K fb) σ H Q := by
  intro σ H Q q
  obtain ⟨A, w, S, d, w', e1, q⟩ := q
  obtain ⟨x, ea, e1⟩ := bd_split e1
  obtain ⟨y, eb, e1⟩ := bd_split e1
  refine ⟨A, w, S, x.1, x.2, ea, fun A1 v H1 s1 S1 r1 => ⟨A1, x.2, S1, y.1, y.2, eb, fun A2 u H2 s2 S2 r2 => ?_⟩⟩
  exact hr A2 y.2 σ x.1 y.1 d w' v u H2 Q S2 (r1.step s2.toCar) r2 e1 (q.step (s1.trans s2))
theorem snd_var (G : GX T P lv N sc top X) {i : Nat} {x : Str} {pos : Pos} (h : N[i]? = some x) (hv : Vis sc x) (hd : (x == ("__debug__" : Str)) = false) (hc : (x == ("__classdict__" : Str)) = false) : PE X (.Name x pos) (rd X.K (evE P (.v i))) := by
  refine PEimp (pe_var (i := i) (by rw [G.hN]; exact h) (by rw [G.sco]; exact hv) hd hc) fun σ H Q q => ?_
  obtain ⟨A, w, S, d, w', e, q⟩ := q
  simp only [evE] at e
  split at e
  · rename_i d' hd'
    cases e
    obtain ⟨v, e1, r⟩ := S.loc i _ hd'
    exact ⟨v, e1, q.here S r⟩
  · cases e
theorem snd_const {d : D} {v : V} {ex : Expr} (h : PE X ex (tC v)) (hd : ∀ H A, RD X.K H A d v) : PE X ex (rd X.K (evE P (.k d))) := by
  refine PEimp h fun σ H Q q => ?_
  obtain ⟨A, w, S, d', w', e, q⟩ := q
  cases e
  exact q.here S (hd H A)
theorem snd_glob (G : GX T P lv N sc top X) {i : Nat} {c : Str × D} {pos : Pos} (h : T.cons[i]? = some c) (hg : sc.names.lookup c.1 = some .globalImplicit) (hd : (c.1 == ("__debug__" : Str)) = false) : PE X (.Name c.1 pos) (rd X.K (evE P (.gl i))) := by
  obtain ⟨hC, u, v, hm, r, hv⟩ := G.cons i c h
  refine PEimp (pe_glob (by show X.env.kindOf c.1 = _; unfold Env.kindOf; rw [G.sco]; exact hg) hm r hd) fun σ H Q q => ?_
  obtain ⟨A, w, S, d', w', e, q⟩ := q
  simp only [evE, hC] at e
  cases e
  exact q.here S (hv H A)
theorem snd_op (G : GX T P lv N sc top X) {o : Op} {md : Nat} {a b : E} {x y : Expr} {pos : Pos} (ha : Snd X P a x) (hb : Snd X P b y) : PE X (.BinOp x (oper o) y pos) (rd X.K (evE P (.op o md a b))) :=
  PEimp (pe_op (op_sound o md) ha.pe hb.pe) (rd2 (k := opF o md) fun A w σ d e r' w' x y H Q S r1 r2 e1 q => ⟨A, w, σ, d, e, r', w', S, r1, r2, e1, q⟩)
theorem snd_neg (G : GX T P lv N sc top X) {a : E} {x : Expr} {pos : Pos} (ha : Snd X P a x) : PE X (.UnaryOp .USub x pos) (rd X.K (evE P (.neg a))) := by
  refine PEimp (pe_un un_neg ha.pe) fun σ H Q q => ?_
  obtain ⟨A, w, S, d, w', e1, q⟩ := q
  obtain ⟨x, ea, e1⟩ := bd_split e1
  refine ⟨A, w, S, x.1, x.2, ea, fun A1 v H1 s1 S1 r1 => ?_⟩
  obtain ⟨d1, w1⟩ := x
  cases d1 with
  | int i =>
    cases e1
    exact ⟨i, r1, (q.step s1).here S1 rfl⟩
  | _ => cases e1
theorem snd_not (G : GX T P lv N sc top X) {a : E} {x : Expr} {pos : Pos} (ha : Snd X P a x) : Snd X P (.no a) (.UnaryOp .Not x pos) := by
  refine ⟨PEimp (pe_notT ha.pe) fun σ H Q q => ?_, PTimp (pt_not ha.pt) fun σ H Q q => ?_, fun _ _ _ z => nomatch z⟩
  · obtain ⟨A, w, S, d, w', e1, q⟩ := q
    obtain ⟨x, ea, e1⟩ := bd_split e1
    obtain ⟨b, eb, e1⟩ := bd_split e1
    cases e1
    exact ⟨A, w, S, x.1, x.2, ea, fun A1 v H1 s1 S1 r1 => ⟨b, S1.tru (of_split eb) r1, (q.step s1).here S1 rfl⟩⟩
  · obtain ⟨A, w, S, c, w', e1, q⟩ := q
    obtain ⟨y, e2, e1⟩ := bd_split e1
    obtain ⟨c', e3, e1⟩ := bd_split e1
    obtain ⟨x, ea, e2⟩ := bd_split e2
    obtain ⟨b, eb, e2⟩ := bd_split e2
    cases e2
    cases e1
    have ec := of_split e3
    cases ec
    refine ⟨A, w, S, b, x.2, ?_, fun A' H' st S' => q A' H' st S'⟩
    show ((evE P a w).bd fun x => (R.of (x.2.tru x.1)).bd fun b => R.ok (b, x.2)) = _
    rw [ea, R.bd_ok, eb]
    rfl
/-- and, or: from two parts -/
theorem snd_and (G : GX T P lv N sc top X) {a b : E} {x y : Expr} {r : List Expr} {pos : Pos} (ha : Snd X P a x) (hb : PE X (.BoolOp .And (y :: r) pos) (rd X.K (evE P b))) (hw : PW X (.BoolOp .And (y :: r) pos) (rdT X.K (evT P b))) :
    Snd X P (.an a b) (.BoolOp .And (x :: y :: r) pos) := by
  have w1 : PW X (.BoolOp .And (x :: y :: r) pos) (rdT X.K (evT P (.an a b))) := by
    refine ⟨fun wh pins s σ H Q I q => (pw_and ha.pt hw).run wh pins s σ H Q I ?_⟩
    obtain ⟨A, w, S, c, w', e1, q⟩ := q
    obtain ⟨z, e2, e1⟩ := bd_split e1
    obtain ⟨c', e3, e1⟩ := bd_split e1
    cases e1
    obtain ⟨x, ea, e2⟩ := bd_split e2
    obtain ⟨b', eb, e2⟩ := bd_split e2
    refine ⟨A, w, S, b', x.2, ?_, fun A1 H1 s1 S1 => ?_⟩
    · show ((evE P a w).bd fun x => (R.of (x.2.tru x.1)).bd fun b => R.ok (b, x.2)) = _
      rw [ea, R.bd_ok, eb]
      rfl
    · cases b' with
      | false =>
        rw [if_neg Bool.false_ne_true] at e2 ⊢
        cases e2
        have e4 := (of_split eb).symm.trans (of_split e3)
        cases e4
        exact q A1 H1 s1 S1
      | true =>
        rw [if_pos rfl] at e2 ⊢
        refine ⟨A1, x.2, S1, c, z.2, ?_, fun A2 H2 s2 S2 => q A2 H2 (s1.trans s2) S2⟩
        show ((evE P b x.2).bd fun x => (R.of (x.2.tru x.1)).bd fun b => R.ok (b, x.2)) = _
        rw [e2, R.bd_ok, e3]
        rfl
  refine ⟨PEimp (pe_andT ha.pe hb) fun σ H Q q => ?_, w1.pt, fun _ _ _ _ => w1⟩
  obtain ⟨A, w, S, d, w', e1, q⟩ := q
  obtain ⟨x, ea, e1⟩ := bd_split e1
  obtain ⟨c, eb, e1⟩ := bd_split e1
  refine ⟨A, w, S, x.1, x.2, ea, fun A1 v H1 s1 S1 r1 => ⟨c, S1.tru (of_split eb) r1, ?_⟩⟩
  cases c with
  | true =>
    rw [if_pos rfl] at e1 ⊢
    exact ⟨A1, x.2, S1, d, w', e1, q.step s1⟩
  | false =>
    rw [if_neg Bool.false_ne_true] at e1 ⊢
    cases e1
    exact (q.step s1).here S1 r1
theorem snd_or (G : GX T P lv N sc top X) {a b : E} {x y : Expr} {r : List Expr} {pos : Pos} (ha : Snd X P a x) (hb : PE X (.BoolOp .Or (y :: r) pos) (rd X.K (evE P b))) (hw : PW X (.BoolOp .Or (y :: r) pos) (rdT X.K (evT P b))) :
    Snd X P (.or a b) (.BoolOp .Or (x :: y :: r) pos) := by
  have w1 : PW X (.BoolOp .Or (x :: y :: r) pos) (rdT X.K (evT P (.or a b))) := by
    refine ⟨fun wh pins s σ H Q I q => (pw_or ha.pt hw).run wh pins s σ H Q I ?_⟩
    obtain ⟨A, w, S, c, w', e1, q⟩ := q
    obtain ⟨z, e2, e1⟩ := bd_split e1
    obtain ⟨c', e3, e1⟩ := bd_split e1
    cases e1
    obtain ⟨x, ea, e2⟩ := bd_split e2
    obtain ⟨b', eb, e2⟩ := bd_split e2
    refine ⟨A, w, S, b', x.2, ?_, fun A1 H1 s1 S1 => ?_⟩
    · show ((evE P a w).bd fun x => (R.of (x.2.tru x.1)).bd fun b => R.ok (b, x.2)) = _
      rw [ea, R.bd_ok, eb]
      rfl
    · cases b' with
      | true =>
        rw [if_pos rfl] at e2 ⊢
        cases e2
        have e4 := (of_split eb).symm.trans (of_split e3)
        cases e4
        exact q A1 H1 s1 S1
      | false =>
        rw [if_neg Bool.false_ne_true] at e2 ⊢
        refine ⟨A1, x.2, S1, c, z.2, ?_, fun A2 H2 s2 S2 => q A2 H2 (s1.trans s2) S2⟩
        show ((evE P b x.2).bd fun x => (R.of (x.2.tru x.1)).bd fun b => R.ok (b, x.2)) = _
        rw [e2, R.bd_ok, e3]
        rfl
  refine ⟨PEimp (pe_orT ha.pe hb) fun σ H Q q => ?_, w1.pt, fun _ _ _ _ => w1⟩
  obtain ⟨A, w, S, d, w', e1, q⟩ := q
  obtain ⟨x, ea, e1⟩ := bd_split e1
  obtain ⟨c, eb, e1⟩ := bd_split e1
  refine ⟨A, w, S, x.1, x.2, ea, fun A1 v H1 s1 S1 r1 => ⟨c, S1.tru (of_split eb) r1, ?_⟩⟩
  cases c with
  | false =>
    rw [if_neg Bool.false_ne_true] at e1 ⊢
    exact ⟨A1, x.2, S1, d, w', e1, q.step s1⟩
  | true =>
    rw [if_pos rfl] at e1 ⊢
    cases e1
    exact (q.step s1).here S1 r1
theorem snd_one {b : E} {y : Expr} {pos : Pos} (op : BoolOp) (h : Snd X P b y) : PE X (.BoolOp op [y] pos) (rd X.K (evE P b)) ∧ PW X (.BoolOp op [y] pos) (rdT X.K (evT P b)) := by
  refine ⟨pe_one h.pe, ?_⟩
  cases op with
  | And => exact pw_and1 h.pt
  | Or => exact pw_or1 h.pt
/-- a comparison as a test -/
theorem Snd.cmp {e : E} {ex : Expr} {t : TE} (h : PE X ex t) (h2 : PT X ex (tTest t)) (i : ∀ σ H Q, rd X.K (evE P e) σ H Q → t σ H Q) (hb : ∀ w d w', evE P e w = .ok (d, w') → ∃ b, d = .bl b) (hx : ∀ op vs pos, ex ≠ .BoolOp op vs pos) : Snd X P e ex := by
  refine ⟨PEimp h i, PTimp h2 fun σ H Q q => i σ H _ ?_, fun op vs pos z => absurd z (hx op vs pos)⟩
  obtain ⟨A, w, S, c, w', e1, q⟩ := q
  obtain ⟨x, ea, e1⟩ := bd_split e1
  obtain ⟨b', eb, e1⟩ := bd_split e1
  cases e1
  obtain ⟨b, hd⟩ := hb w x.1 x.2 ea
  refine ⟨A, w, S, x.1, x.2, ea, fun A1 v H1 s1 S1 r1 => ?_⟩
  rw [hd] at r1 eb
  have e4 := of_split eb
  cases e4
  exact ⟨c, r1, q A1 H1 s1 S1⟩
theorem snd_cm (G : GX T P lv N sc top X) {c : Cm} {a b : E} {x y : Expr} {pos : Pos} (ha : Snd X P a x) (hb : Snd X P b y) (hy : okX y = true) : Snd X P (.cm c a b) (.Compare x [cmOp c] [y] pos) := by
  refine Snd.cmp (pe_cmpR (cm_sound c G.hu65) ha.pe hb.pe (behind_ok hy)) (pt_cmpR (cm_sound c G.hu65) ha.pe hb.pe (behind_ok hy)) (fun σ H Q q => ?_) (fun w d w' e => ?_) fun _ _ _ z => nomatch z
  · refine rd2 (k := fun d e w => (R.of (cmF c d e w)).bd fun r => .ok (.bl r, w)) (fun A w σ d e r' w' x y H Q S r1 r2 e1 q => ?_) σ H Q q
    obtain ⟨r, e2, e1⟩ := bd_split e1
    cases e1
    exact ⟨A, w, σ, d, e, r, S, r1, r2, of_split e2, q.here S rfl⟩
  · obtain ⟨x, ea, e⟩ := bd_split e
    obtain ⟨y, eb, e⟩ := bd_split e
    obtain ⟨r, ec, e⟩ := bd_split e
    cases e
    exact ⟨r, rfl⟩
theorem snd_ch (G : GX T P lv N sc top X) {c c2 : Cm} {a b d : E} {x y z : Expr} {pos : Pos} (ha : Snd X P a x) (hb : Snd X P b y) (hd : Snd X P d z) (hy : okX y = true) (hz : okX z = true) :
    Snd X P (.ch a c b c2 d) (.Compare x [cmOp c, cmOp c2] [y, z] pos) := by
  have hm : lastMarks [cmOp c, cmOp c2] [y, z] = false := behind_ok hz
  refine Snd.cmp (pe_chain (cm_sound c G.hu65) (cm_sound c2 G.hu65) ha.pe hb.pe hd.pe hm) (pt_chain (cm_sound c G.hu65) (cm_sound c2 G.hu65) ha.pe hb.pe hd.pe hm) (fun σ H Q q => ?_) (fun w d w' e => ?_) fun _ _ _ z => nomatch z
  · obtain ⟨A, w, S, r, w', e1, q⟩ := q
    obtain ⟨x, ea, e1⟩ := bd_split e1
    obtain ⟨y, eb, e1⟩ := bd_split e1
    obtain ⟨k, ec, e1⟩ := bd_split e1
    refine ⟨A, w, S, x.1, x.2, ea, fun A1 v H1 s1 S1 r1 => ⟨A1, x.2, S1, y.1, y.2, eb, fun A2 u H2 s2 S2 r2 => ⟨A2, y.2, σ, x.1, y.1, k, S2, r1.step s2.toCar, r2, of_split ec, k, rfl, ?_⟩⟩⟩
    cases k with
    | true =>
      rw [if_pos rfl] at e1 ⊢
      obtain ⟨z, ed, e1⟩ := bd_split e1
      obtain ⟨k2, ef, e1⟩ := bd_split e1
      cases e1
      refine ⟨A2, y.2, S2, z.1, z.2, ed, fun A3 t H3 s3 S3 r3 => ⟨A3, z.2, σ, y.1, z.1, k2, S3, r2.step s3.toCar, r3, of_split ef, ?_⟩⟩
      exact (q.step ((s1.trans s2).trans s3)).here S3 rfl
    | false =>
      rw [if_neg Bool.false_ne_true] at e1 ⊢
      cases e1
      exact (q.step (s1.trans s2)).here S2 rfl
  · obtain ⟨x, ea, e⟩ := bd_split e
    obtain ⟨y, eb, e⟩ := bd_split e
    obtain ⟨k, ec, e⟩ := bd_split e
    cases k with
    | true =>
      rw [if_pos rfl] at e
      obtain ⟨z, ed, e⟩ := bd_split e
      obtain ⟨k2, ef, e⟩ := bd_split e
      cases e
      exact ⟨k2, rfl⟩
    | false =>
      rw [if_neg Bool.false_ne_true] at e
      cases e
      exact ⟨false, rfl⟩
theorem evT_of {e : E} {w : Wd} {d : D} {w' : Wd} {b : Bool} (e1 : evE P e w = .ok (d, w')) (e2 : w'.tru d = some b) : evT P e w = .ok (b, w') := by
  show ((evE P e w).bd fun x => (R.of (x.2.tru x.1)).bd fun b => R.ok (b, x.2)) = _
  rw [e1, R.bd_ok, e2]
  rfl
theorem snd_ite (G : GX T P lv N sc top X) {c a b : E} {x y z : Expr} {pos : Pos} (hc : Snd X P c x) (ha : Snd X P a y) (hb : Snd X P b z) : Snd X P (.ite c a b) (.IfExp x y z pos) := by
  refine ⟨PEimp (pe_ifExp hc.pt ha.pe hb.pe) fun σ H Q q => ?_, ⟨fun pins s σ H Q I q => isTrue_IfExp ?_⟩, fun _ _ _ z => nomatch z⟩
  · obtain ⟨A, w, S, r, w', e1, q⟩ := q
    obtain ⟨x, ea, e1⟩ := bd_split e1
    obtain ⟨k, eb, e1⟩ := bd_split e1
    refine ⟨A, w, S, k, x.2, evT_of ea (of_split eb), fun A1 H1 s1 S1 => ?_⟩
    cases k with
    | true =>
      rw [if_pos rfl] at e1 ⊢
      exact ⟨A1, x.2, S1, r, w', e1, q.step s1⟩
    | false =>
      rw [if_neg Bool.false_ne_true] at e1 ⊢
      exact ⟨A1, x.2, S1, r, w', e1, q.step s1⟩
  · obtain ⟨A, w, S, r, w', e1, q⟩ := q
    obtain ⟨t, e2, e1⟩ := bd_split e1
    obtain ⟨k', e3, e1⟩ := bd_split e1
    cases e1
    obtain ⟨x, ea, e2⟩ := bd_split e2
    obtain ⟨k, eb, e2⟩ := bd_split e2
    refine thn (hc.pt.run pins s σ H (fun k H1 => if k = true then rdT X.K (evT P a) σ H1 Q else rdT X.K (evT P b) σ H1 Q) I ⟨A, w, S, k, x.2, evT_of ea (of_split eb), fun A1 H1 s1 S1 => ?_⟩) fun b s1 ⟨H1, I1, q1⟩ => ?_
    · cases k with
      | true =>
        rw [if_pos rfl] at e2 ⊢
        exact ⟨A1, x.2, S1, r, t.2, evT_of e2 (of_split e3), fun A2 H2 s2 S2 => q A2 H2 (s1.trans s2) S2⟩
      | false =>
        rw [if_neg Bool.false_ne_true] at e2 ⊢
        exact ⟨A1, x.2, S1, r, t.2, evT_of e2 (of_split e3), fun A2 H2 s2 S2 => q A2 H2 (s1.trans s2) S2⟩
    · cases b with
      | true => exact ha.pt.run pins s1 σ H1 Q I1 q1
      | false => exact hb.pt.run pins s1 σ H1 Q I1 q1
theorem snd_nil : PA X [] (rdA X.K (evEs P .nil)) := by
  refine PAimp pa_nil fun σ H Q q => ?_
  obtain ⟨A, w, S, ds, w', e, q⟩ := q
  cases e
  exact q A [] H (Step.refl A H) S rfl
theorem rdCons {fa : Wd → R (D × Wd)} {fb : Wd → R (List D × Wd)} (σ : Sl) (H : Hp) (Q : List V → Hp → Prop) (q : rdA X.K (fun w => (fa w).bd fun x => (fb x.2).bd fun y => .ok (x.1 :: y.1, y.2)) σ H Q) : tCons (rd X.K fa) (rdA X.K fb) σ H Q := by
  obtain ⟨A, w, S, ds, w', e1, q⟩ := q
  obtain ⟨x, ea, e1⟩ := bd_split e1
  obtain ⟨y, eb, e1⟩ := bd_split e1
  cases e1
  refine ⟨A, w, S, x.1, x.2, ea, fun A1 v H1 s1 S1 r1 => ⟨A1, x.2, S1, y.1, y.2, eb, fun A2 vs H2 s2 S2 r2 => ?_⟩⟩
  exact q A2 (v :: vs) H2 (s1.trans s2) S2 ⟨v, vs, rfl, r1.step s2.toCar, r2⟩
theorem snd_cons {e : E} {r : Es} {x : Expr} {xs : List Expr} (he : PE X x (rd X.K (evE P e))) (hr : PA X xs (rdA X.K (evEs P r))) (hx : okX x = true) : PA X (x :: xs) (rdA X.K (evEs P (.cons e r))) :=
  PAimp (pa_cons he hr (starEach_cons hx)) rdCons
theorem snd_tup {es : Es} {xs : List Expr} {k : Nat} {pos : Pos} (h : PA X xs (rdA X.K (evEs P es))) : PE X (.Tuple xs k pos) (rd X.K (evE P (.tup es))) := by
  refine PEimp (pe_tup h) fun σ H Q q => ?_
  obtain ⟨A, w, S, d, w', e1, q⟩ := q
  obtain ⟨x, ea, e1⟩ := bd_split e1
  exact ⟨A, w, S, x.1, x.2, ea, fun A1 vs H1 s1 S1 r1 => Aft.newT e1 S1 r1 (q.step s1)⟩
theorem snd_lst {es : Es} {xs : List Expr} {md : Nat} {pos : Pos} (h : PA X xs (rdA X.K (evEs P es))) : PE X (.List xs pos) (rd X.K (evE P (.lst md es))) := by
  refine PEimp (pe_lst h) fun σ H Q q => ?_
  obtain ⟨A, w, S, d, w', e1, q⟩ := q
  obtain ⟨x, ea, e1⟩ := bd_split e1
  exact ⟨A, w, S, x.1, x.2, ea, fun A1 vs H1 s1 S1 r1 => Aft.newL e1 S1 r1 (q.step s1)⟩
/-- an index, by values -/
def rIxD (K : PySem.W.Frag) : R2 := fun x y H Q => ∃ p xs i v, x = .ref p ∧ y = .int i ∧ (SqL K H p xs ∨ SqT K H p xs) ∧ atI xs i = some v ∧ Q v H
/-- .. of a dict -/
def rIxK : R2 := fun x y H Q => ∃ p kvs k v, x = .ref p ∧ y = .str k ∧ H p = some (.dK kvs) ∧ valV kvs (.inr k) = some v ∧ Q v H
theorem ix_dK (hu : X.A.units + 1 < cLine) : IxR X rIxK := by
  intro value slice pins s σ H x y v u Q I rx ry h hs
  obtain ⟨p, kvs, k, r, rfl, rfl, e, l, q⟩ := h
  obtain rfl : v = Value.ref p := rx
  have g : DGet H p (.str k) (some r) := by
    have := DGet.k (k := .inr k) e
    rw [l] at this
    exact this
  refine tail_any (dict_typeIs I g) PySem.F.slot_dict_getitem.lookup (d_getItem hu I g ry fun w' s' I' rw' => ?_) hs
  exact ⟨r, H, I', rw', q⟩
theorem ix_any : IxR X (rIxD X.K) := by
  intro value slice pins s σ H x y v u Q I rx ry h hs
  obtain ⟨p, xs, i, z, e1, e2, hq, he, q⟩ := h
  rcases hq with hq | hq
  · exact ix_list value slice pins s σ H x y v u Q I rx ry ⟨p, xs, i, z, e1, e2, hq, he, q⟩ hs
  · exact ix_tup value slice pins s σ H x y v u Q I rx ry ⟨p, xs, i, z, e1, e2, hq, he, q⟩ hs
theorem snd_ix {a i : E} {x y : Expr} {pos : Pos} (hu : X.A.units + 1 < cLine) (ha : Snd X P a x) (hi : Snd X P i y) (hy : okX y = true) : PE X (.Subscript x y pos) (rd X.K (evE P (.ix a i))) := by
  refine PEimp (pe_ix (ix_any.or (ix_dK hu)) ha.pe hi.pe (plainIx_ok hy)) (rd2 (k := fun d e w => match e with
    | .int k => (R.of (w.seq d)).bd fun xs => (R.of ((ixI xs.length k).bind fun j => xs[j]?)).bd fun d => .ok (d, w)
    | .str k => (R.of (dicL d k)).bd fun d => .ok (d, w)
    | _ => .err) fun A w σ d e r' w' x y H Q S r1 r2 e1 q => ?_)
  cases e with
  | int k =>
    obtain ⟨xs, ea, e1⟩ := bd_split e1
    obtain ⟨d', eb, e1⟩ := bd_split e1
    cases e1
    obtain ⟨a, vs, rfl, rs, hq⟩ := S.seq r1 (of_split ea)
    obtain ⟨j, e3, e4⟩ := Option.bind_eq_some_iff.mp (of_split eb)
    obtain ⟨v, hv, rv⟩ := rs.get e4
    refine .inl ⟨a, vs, k, v, rfl, r2, ?_, ?_, q.here S rv⟩
    · rcases hq with ⟨_, hq⟩ | ⟨_, hq⟩
      · exact .inr hq
      · exact .inl hq
    · show (ixN vs.length k).bind (fun j => vs[j]?) = some v
      rw [rs.length]
      exact Option.bind_eq_some_iff.mpr ⟨j, e3, hv⟩
  | str k =>
    obtain ⟨d', eb, e1⟩ := bd_split e1
    cases e1
    have eb := of_split eb
    cases d with
    | dic ks ds =>
      obtain ⟨a, kvs, rfl, q1, _, _, z, r⟩ := r1
      obtain ⟨v, e2, rv⟩ := lkp_at z.2.2 r eb
      exact .inr ⟨a, kvs, k, v, rfl, r2, q1, e2, q.here S rv⟩
    | _ => cases eb
  | _ => cases e1
/-- a part of a slice -/
def rdO (K : PySem.W.Frag) (f : Wd → R (Option Int × Wd)) : TO := fun σ H Q => ∃ A w, Sim K H A w σ ∧ ∃ o w', f w = .ok (o, w') ∧ ∀ A' H', Step A H A' H' → Sim K H' A' w' σ → Q o H'
theorem POimp {e : Option Expr} {t t' : TO} (h : PO X e t) (i : ∀ σ H Q, t' σ H Q → t σ H Q) : PO X e t' := ⟨fun pins s σ H Q I q => h.run pins s σ H Q I (i σ H Q q)⟩
theorem snd_ono : PO X none (rdO X.K (evO P .no)) := by
  refine POimp po_none fun σ H Q q => ?_
  obtain ⟨A, w, S, o, w', e1, q⟩ := q
  cases e1
  exact q A H (Step.refl A H) S
theorem snd_oso {e : E} {x : Expr} (h : PE X x (rd X.K (evE P e))) : PO X (some x) (rdO X.K (evO P (.so e))) := by
  refine POimp (po_some h) fun σ H Q q => ?_
  obtain ⟨A, w, S, o, w', e1, q⟩ := q
  obtain ⟨x, ea, e1⟩ := bd_split e1
  refine ⟨A, w, S, x.1, x.2, ea, fun A1 v H1 s1 S1 r1 => ?_⟩
  obtain ⟨d1, w1⟩ := x
  cases d1 with
  | int i =>
    cases e1
    exact ⟨i, r1, q A1 H1 s1 S1⟩
  | _ => cases e1
theorem snd_sl {md : Nat} {a : E} {lo hi : Oe} {x : Expr} {xl xh : Option Expr} {p2 pos : Pos} (ha : PE X x (rd X.K (evE P a))) (hl : PO X xl (rdO X.K (evO P lo))) (hh : PO X xh (rdO X.K (evO P hi))) :
    PE X (.Subscript x (.Slice xl xh none p2) pos) (rd X.K (evE P (.sl md a lo hi))) := by
  refine PEimp (pe_slice (sl_list.or sl_tupA) ha hl hh) fun σ H Q q => ?_
  obtain ⟨A, w, S, d, w', e1, q⟩ := q
  obtain ⟨x, ea, e1⟩ := bd_split e1
  obtain ⟨l, el, e1⟩ := bd_split e1
  obtain ⟨h, eh, e1⟩ := bd_split e1
  obtain ⟨xs, ex, e1⟩ := bd_split e1
  refine ⟨A, w, S, x.1, x.2, ea, fun A1 v H1 s1 S1 r1 => ⟨A1, x.2, S1, l.1, l.2, el, fun A2 H2 s2 S2 => ⟨A2, l.2, S2, h.1, h.2, eh, fun A3 H3 s3 S3 => ?_⟩⟩⟩
  have r3 := (r1.step s2.toCar).step s3.toCar
  obtain ⟨a, vs, rfl, rs, hq⟩ := S3.seq r3 (of_split ex)
  have q3 := q.step ((s1.trans s2).trans s3)
  rcases hq with ⟨ht, hq⟩ | ⟨ht, hq⟩
  · rw [ht, if_pos rfl] at e1
    obtain ⟨_, qn⟩ := Aft.newT e1 S3 (rs.cutD l.1 h.1) q3
    obtain ⟨rfl, rfl, _⟩ := newT_ok e1 (rs.cutD l.1 h.1)
    refine .inr ⟨a, vs, rfl, hq, fun z => q3.here S3 ⟨a, vs, rfl, hq, ?_⟩, fun _ => qn⟩
    have e : cut xs l.1 h.1 = xs := by
      unfold cut
      rw [← rs.length, z.1, z.2, List.drop_zero, Nat.sub_zero, rs.length, List.take_length]
    rw [e]
    exact rs
  · rw [ht, if_neg Bool.false_ne_true] at e1
    obtain ⟨_, qn⟩ := Aft.newL e1 S3 (rs.cutD l.1 h.1) q3
    exact .inl ⟨a, vs, rfl, hq, qn⟩
theorem snd_rev {md : Nat} {a : E} {x : Expr} {k : Nat} {p1 p2 p3 pos : Pos} (ha : PE X x (rd X.K (evE P a))) : PE X (.Subscript x (.Slice none none (some (.UnaryOp .USub (.Constant (.int 1) k p1) p2)) p3) pos) (rd X.K (evE P (.rev md a))) := by
  refine PEimp (pe_revL ha) fun σ H Q q => ?_
  obtain ⟨A, w, S, d, w', e1, q⟩ := q
  obtain ⟨x, ea, e1⟩ := bd_split e1
  obtain ⟨xs, ex, e1⟩ := bd_split e1
  split at e1
  · cases e1
  · rename_i ht
    refine ⟨A, w, S, x.1, x.2, ea, fun A1 v H1 s1 S1 r1 => ?_⟩
    obtain ⟨a, vs, rfl, rs, hq⟩ := S1.seq r1 (of_split ex)
    rcases hq with ⟨h, _⟩ | ⟨_, hq⟩
    · exact absurd h ht
    · obtain ⟨_, qn⟩ := Aft.newL e1 S1 rs.reverse (q.step s1)
      exact ⟨a, vs, rfl, hq, qn⟩
theorem bi_boot (b : Bi) : bootBuiltins (biName b) = some (biV b) ∧ (biName b ≠ "__name__") ∧ (biName b == ("__debug__" : Str)) = false := by
  cases b <;> exact ⟨by decide +kernel, by decide, by decide⟩
theorem snd_bi (G : GX T P lv N sc top X) {b : Bi} {md : Nat} {es : Es} {x : Expr} {xs : List Expr} {p pos : Pos} (h : PA X (x :: xs) (rdA X.K (evEs P es))) (hg : sc.names.lookup (biName b) = some .globalImplicit) (hf : biName b ∈ T.free) (hx : (x :: xs).all okX = true) :
    PE X (.Call (.Name (biName b) p) (x :: xs) [] pos) (rd X.K (evE P (.bi b md es))) := by
  have hs := bi_sound (X := X) b md G.calm G.dig G.gd G.hu
  obtain ⟨b1, b2, b3⟩ := bi_boot b
  have gl : Gl X (biName b) := by show X.env.kindOf _ = _; unfold Env.kindOf; rw [G.sco]; exact hg
  have key : ∀ σ H Q, rd X.K (evE P (.bi b md es)) σ H Q → tCB (rBi X.K b md) (rdA X.K (evEs P es)) σ H Q := fun σ H Q q => by
    obtain ⟨A, w, S, d, w', e1, q⟩ := q
    obtain ⟨y, ea, e1⟩ := bd_split e1
    exact ⟨A, w, S, y.1, y.2, ea, fun A1 vs H1 s1 S1 r1 => ⟨A1, y.2, σ, y.1, d, w', S1, r1, e1, q.step s1⟩⟩
  obtain ⟨o1, o2⟩ := Bool.and_eq_true_iff.mp (show (okX x && xs.all okX) = true from hx)
  unfold biV at hs b1
  by_cases ht : biTy b = true
  · rw [if_pos ht] at hs b1
    exact PEimp (pe_callTy hs gl (G.free _ hf) b1 h b2 b3 (starEach_cons o1) (noStars o2)) key
  · rw [if_neg ht] at hs b1
    exact PEimp (pe_callB hs gl (G.free _ hf) b1 h b2 b3 (starEach_cons o1) (noStars o2)) key
end
end Fz

/-! Q11b: a dict's display. -/
namespace Fz
open PySem PySem.Spec PyProof.Rows L2
section
variable {K : PySem.W.Frag} {H H' : Hp} {A : Ad} {p : Addr} {w : Wd} {σ : Sl}
theorem SqT.fill {a : Addr} {vs : List V} (k : ∀ a o, a ≠ p → H a = some o → H' a = some o) (e : H p = some (.dK [])) (h : SqT K H a vs) : SqT K H' a vs := by
  rcases h with (h | ⟨o, h⟩) | h
  · exact .inl (.inl (k _ _ (fun z => by subst z; rw [e] at h; cases h) h))
  · exact .inl (.inr ⟨o, k _ _ (fun z => by subst z; rw [e] at h; cases h) h⟩)
  · exact .inr h
theorem SqF.fill {a : Addr} {vs : List V} (k : ∀ a o, a ≠ p → H a = some o → H' a = some o) (e : H p = some (.dK [])) (h : SqF K H a vs) : SqF K H' a vs := by
  rcases h with ⟨o, h⟩ | h
  · exact .inl ⟨o, k _ _ (fun z => by subst z; rw [e] at h; cases h) h⟩
  · exact .inr h
mutual
theorem RD.fill (k : ∀ a o, a ≠ p → H a = some o → H' a = some o) (e : H p = some (.dK [])) : ∀ (d : D) (v : V), RD K H A d v → RD K H' A d v
  | .non, _, h => h
  | .bl _, _, h => h
  | .int _, _, h => h
  | .str _, _, h => h
  | .tup ds, _, h => by
    obtain ⟨a, vs, e1, q, r⟩ := h
    exact ⟨a, vs, e1, SqT.fill k e q, RDs.fill k e ds vs r⟩
  | .lst ds, _, h => by
    obtain ⟨a, vs, e1, q, x, z, r⟩ := h
    exact ⟨a, vs, e1, k _ _ (fun z => by subst z; rw [e] at q; cases q) q, x, z, RDs.fill k e ds vs r⟩
  | .fl ds, _, h => by
    obtain ⟨a, vs, e1, q, x, r⟩ := h
    exact ⟨a, vs, e1, k _ _ (fun z => by subst z; rw [e] at q; cases q) q, x, RDs.fill k e ds vs r⟩
  | .sc ds, _, h => by
    obtain ⟨a, vs, e1, q, r⟩ := h
    exact ⟨a, vs, e1, SqF.fill k e q, RDs.fill k e ds vs r⟩
  | .ref _, _, h => h
  | .g _, _, h => h
  | .dic ks ds, _, h => by
    obtain ⟨a, kvs, e1, q, x, z, y, r⟩ := h
    refine ⟨a, kvs, e1, k _ _ (fun z => ?_) q, x, z, y, RDs.fill k e ds _ r⟩
    subst z
    rw [e] at q
    cases q
    exact y.1 (List.map_eq_nil_iff.mp y.2.2.symm)
theorem RDs.fill (k : ∀ a o, a ≠ p → H a = some o → H' a = some o) (e : H p = some (.dK [])) : ∀ (ds : List D) (vs : List V), RDs K H A ds vs → RDs K H' A ds vs
  | [], _, h => h
  | d :: ds, _, h => by
    obtain ⟨v, r, e1, x, y⟩ := h
    exact ⟨v, r, e1, RD.fill k e d v x, RDs.fill k e ds r y⟩
end
theorem Sim.fill (S : Sim K H A w σ) (k : ∀ a o, a ≠ p → H a = some o → H' a = some o) (e : H p = some (.dK [])) (hp : ∃ o, H' p = some o) : Sim K H' A w σ where
  loc := fun i d q => let ⟨v, e1, r⟩ := S.loc i d q; ⟨v, e1, RD.fill k e d v r⟩
  len := S.len
  mu := RL.carry (fun xs vs h => RDs.fill k e xs vs h) (fun a _ vs h => k a _ (fun z => by subst z; rw [e] at h; cases h) h) S.mu
  ga := RL.carry (fun xs vs h => RDs.fill k e xs vs h) (fun a _ vs h => k a _ (fun z => by subst z; rw [e] at h; cases h) h) S.ga
  nd := S.nd
  ndg := S.ndg
  dj := S.dj
  djg := S.djg
  bt := fun a h => let ⟨o, q⟩ := S.bt a h; if z : a = p then z ▸ hp else ⟨o, k a o z q⟩
  cnt := fun a h => let ⟨vs, q⟩ := S.cnt a h; ⟨vs, k a _ (fun z => by subst z; rw [e] at q; cases q) q⟩
  cnd := S.cnd
  gk := S.gk
end
section
variable {X : Cx} {P : Pg}
/-- the keys, constants; the items' rules -/
inductive PrOk (X : Cx) (P : Pg) : List Str → Es → List (Option Expr) → List Expr → Prop where
  | nil : PrOk X P [] .nil [] []
  | cons {k : Str} {ks : List Str} {e : E} {es : Es} {j} {kp : Pos} {x : Expr} {keys : List (Option Expr)} {vals : List Expr} (h : PE X x (rd X.K (evE P e))) (r : PrOk X P ks es keys vals) : PrOk X P (k :: ks) (.cons e es) (some (.Constant (.str k) j kp) :: keys) (x :: vals)
theorem PrOk.run {pos : Pos} {ks : List Str} {es : Es} {keys : List (Option Expr)} {vals : List Expr} (h : PrOk X P ks es keys vals) : keys.all (·.isSome) = true ∧ keys.length = vals.length ∧ keys.length = ks.length ∧ ∃ trs, PPs X pos keys vals trs ∧
    ∀ σ H Q A w ds w', Sim X.K H A w σ → evEs P es w = .ok (ds, w') → (∀ A' vs H', Step A H A' H' → Sim X.K H' A' w' σ → RDs X.K H' A' ds vs → vs.length = ks.length → Q ((ks.map V.str).zip vs) H') → tPairs trs σ H Q := by
  induction h with
  | nil =>
    refine ⟨rfl, rfl, rfl, [], pps_nil, fun σ H Q A w ds w' S e q => ?_⟩
    cases e
    exact q A [] H (Step.refl A H) S rfl rfl
  | @cons k ks e es j kp x keys vals h r ih =>
    obtain ⟨i1, i2, i3, trs, ip, it⟩ := ih
    refine ⟨by simpa using i1, by simp [i2], by simp [i3], _, pps_cons pe_str h ip, fun σ H Q A w ds w' S ev q => ?_⟩
    obtain ⟨a, ea, ev⟩ := bd_split (show ((evE P e w).bd fun x => (evEs P es x.2).bd fun y => R.ok (x.1 :: y.1, y.2)) = .ok (ds, w') from ev)
    obtain ⟨b, eb, ev⟩ := bd_split ev
    cases ev
    show rd X.K (evE P e) σ H _
    refine ⟨A, w, S, a.1, a.2, ea, fun A1 v H1 s1 S1 r1 => it σ H1 _ A1 a.2 b.1 b.2 S1 eb fun A2 vs H2 s2 S2 r2 hl => ?_⟩
    exact q A2 (v :: vs) H2 (s1.trans s2) S2 (RDs.cons_iff.mpr ⟨r1.step s2.toCar, r2⟩) (by simp [hl])
theorem snd_dis {ks : List Str} {es : Es} {keys : List (Option Expr)} {vals : List Expr} {pos : Pos} (h : PrOk X P ks es keys vals) (h0 : keys ≠ []) (h15 : keys.length ≤ 15) : PE X (.Dict keys vals pos) (rd X.K (evE P (.dis ks es))) := by
  obtain ⟨i1, i2, i3, trs, ip, it⟩ := h.run (pos := pos)
  refine PEimp (pe_disp ip i1 i2 h0 h15) fun σ H Q q => ?_
  obtain ⟨A, w, S, d, w', e1, q⟩ := q
  obtain ⟨x, ea, e1⟩ := bd_split (show ((evEs P es w).bd fun x => if ks.Nodup ∧ ks ≠ [] ∧ ks.length ≤ 15 ∧ ks.length = x.1.length then R.ok (.dic ks x.1, x.2) else R.err) = .ok (d, w') from e1)
  split at e1
  case isFalse => cases e1
  rename_i hk
  cases e1
  intro p hp
  obtain ⟨⟨f1, f2, f4⟩, f3⟩ := S.fresh hp
  refine it σ (upd H p (.dK [])) _ A w x.1 x.2 (S.new hp) ea fun A1 vs H1 s1 S1 r1 hl => ?_
  obtain ⟨e2, o2⟩ := s1.kept p (.dK []) upd_same ⟨f1, f2, f4⟩
  have hz : (((ks.map Sum.inr).zip vs : List (Key × V)).map Prod.fst) = ks.map Sum.inr := List.map_fst_zip (by simp [hl])
  have hz2 : (((ks.map Sum.inr).zip vs : List (Key × V)).map Prod.snd) = vs := List.map_snd_zip (by simp [hl])
  refine ⟨e2, (ks.map Sum.inr).zip vs, ?_, ?_, ?_⟩
  · have hkv : ∀ (ks : List Str) (vs : List V), (ks.map V.str).zip vs = ((ks.map Sum.inr).zip vs : List (Key × V)).map (fun kv => (kV kv.1, kv.2)) := by
      intro ks
      induction ks with
      | nil => intro vs; rfl
      | cons k ks ih =>
        intro vs
        cases vs with
        | nil => rfl
        | cons v vs => simp only [List.map_cons, List.zip_cons_cons, ih vs]; rfl
    exact hkv ks vs
  · simp [hl]; omega
  · have hnd : (((ks.map Sum.inr).zip vs : List (Key × V)).map Prod.fst).Nodup := by
      rw [hz]
      exact List.nodup_iff_pairwise_ne.mpr (List.pairwise_map.mpr ((List.nodup_iff_pairwise_ne.mp hk.1).imp fun h z => h (Sum.inr.inj z)))
    rw [mergeK_nil hnd]
    generalize hkvs : (ks.map Sum.inr).zip vs = kvs at hz hz2 hnd
    have kk : ∀ a o, a ≠ p → H1 a = some o → upd H1 p (.dK kvs) a = some o := fun a o n e => by rw [upd_ne n]; exact e
    have hne : ∀ {a : Addr} {o : HO}, H a = some o → a ≠ p := fun {a o} e z => by subst z; rw [hp] at e; cases e
    refine q A1 (.ref p) (upd H1 p (.dK kvs)) ⟨⟨fun a o e x => ?_, fun a vs e => ?_, fun a o u e => ?_, s1.mu, s1.ga, s1.bad⟩, s1.cn, fun a ha => ?_⟩ (S1.fill kk e2 ⟨_, upd_same⟩) ?_
    · obtain ⟨y1, y2⟩ := s1.kept a o (upd_some hp e) x
      exact ⟨kk a o (hne e) y1, y2⟩
    · exact kk a _ (hne e) (s1.tup a vs (upd_some hp e))
    · exact kk a _ (hne e) (s1.frz a o u (upd_some hp e))
    · have hap : a ≠ p := fun z => f4 (z ▸ ha)
      rw [upd_ne hap, s1.cnk a ha, upd_ne hap]
    · refine ⟨p, kvs, rfl, upd_same, o2, by rw [s1.bad]; exact f3, ⟨hk.2.1, hk.1, hz⟩, ?_⟩
      rw [hz2]
      exact RDs.fill kk e2 x.1 vs r1
end
end Fz

/-! Q12: calls, methods, comprehensions; the checker of expressions and what it gives. -/
namespace Fz
open PySem PySem.Spec PyProof.Rows L2

/-- the receiver of a method -/
def okA : Expr → Bool
  | .Call (.Name _ _) [] [] _ => false
  | _ => true
theorem attr_ok {o : Expr} {n : Str} {env : Env} {w : Sem Value} (h : okA o = true) : attributeBase o n env w = w := by
  unfold attributeBase
  split
  · rename_i h2
    first
      | cases h
      | (subst h2; cases h)
      | (simp [okA] at h)
  · rfl
def kwN : List Keyword → Option (List Str)
  | [] => some []
  | ⟨some x, _, _⟩ :: r => (kwN r).map fun xs => x :: xs
  | ⟨none, _, _⟩ :: _ => none
theorem kwN_ok {pos : Pos} {env : Env} : ∀ {kws : List Keyword} {ks : List Str}, kwN kws = some ks → (backToKw pos (keywordEach kws env)).all (·.1.isSome) = true ∧ (backToKw pos (keywordEach kws env)).filterMap (·.1) = ks ∧ (backToKw pos (keywordEach kws env)).any (·.1.isNone) = false ∧ kws.length = ks.length
  | [], _, e => by cases e; exact ⟨rfl, rfl, rfl, rfl⟩
  | ⟨some x, v, p⟩ :: r, _, e => by
    obtain ⟨xs, e1, rfl⟩ := Option.map_eq_some_iff.mp (show (kwN r).map (fun xs => x :: xs) = some _ from e)
    obtain ⟨h1, h2, h3, h4⟩ := kwN_ok (pos := pos) (env := env) e1
    refine ⟨h1, ?_, h3, by rw [List.length_cons, List.length_cons, h4]⟩
    show x :: (backToKw pos (keywordEach r env)).filterMap (·.1) = x :: xs
    rw [h2]
  | ⟨none, _, _⟩ :: _, _, e => nomatch e
section
variable {T : Tb} {P : Pg} {lv : Nat} {N : List Str} {sc : Scope} {top : Bool} {X : Cx}
theorem PKimp {e : List Keyword} {t t' : TA} (h : PK X e t) (i : ∀ σ H Q, t' σ H Q → t σ H Q) : PK X e t' := ⟨fun pos pins s σ H Q I q => h.run pos pins s σ H Q I (i σ H Q q)⟩
theorem snd_knil : PK X [] (rdA X.K (evEs P .nil)) := by
  refine PKimp pk_nil fun σ H Q q => ?_
  obtain ⟨A, w, S, ds, w', e, q⟩ := q
  cases e
  exact q A [] H (Step.refl A H) S rfl
theorem snd_kcons {e : E} {r : Es} {x : Expr} {nm : Option Str} {kp : Pos} {ks : List Keyword} (he : PE X x (rd X.K (evE P e))) (hr : PK X ks (rdA X.K (evEs P r))) : PK X (⟨nm, x, kp⟩ :: ks) (rdA X.K (evEs P (.cons e r))) :=
  PKimp (pk_cons he hr) rdCons
/-- the lists' lengths are those of the terms -/
def Es.len : Es → Nat
  | .nil => 0
  | .cons _ r => r.len + 1
theorem evEs_len : ∀ {es : Es} {w : Wd} {ds : List D} {w' : Wd}, evEs P es w = .ok (ds, w') → ds.length = es.len
  | .nil, _, _, _, e => by cases e; rfl
  | .cons e r, w, ds, w', h => by
    obtain ⟨x, _, h⟩ := bd_split (show ((evE P e w).bd fun x => (evEs P r x.2).bd fun y => R.ok (x.1 :: y.1, y.2)) = .ok (ds, w') from h)
    obtain ⟨y, h2, h⟩ := bd_split h
    cases h
    show y.1.length + 1 = r.len + 1
    rw [evEs_len h2]
theorem arr_length : ∀ {p : List Nat} {ds es : List D}, arr p ds = some es → es.length = p.length
  | [], _, _, e => by cases e; rfl
  | i :: p, ds, es, e => by
    simp only [arr, Option.bind_eq_some_iff, Option.map_eq_some_iff] at e
    obtain ⟨v, _, ys, e2, rfl⟩ := e
    rw [List.length_cons, List.length_cons, arr_length e2]
def arity : Option (List Nat) → Nat → Nat
  | none, n => n
  | some p, _ => p.length
theorem snd_call (G : GX T P lv N sc top X) {j : Nat} {dd : Str × List Str} {pm : Option (List Nat)} {es ks : Es} {xs : List Expr} {kws : List Keyword} {kn : List Str} {p pos : Pos} (hj : T.defs[j]? = some dd) (hlv : j < lv) (hg : sc.names.lookup dd.1 = some .globalImplicit) (hd : (dd.1 == ("__debug__" : Str)) = false)
    (h1 : PA X xs (rdA X.K (evEs P es))) (h2 : PK X kws (rdA X.K (evEs P ks))) (hx : xs.all okX = true) (hk : kwN kws = some kn) (hb : (j, xs.length, kn, pm) ∈ T.binds) (l1 : es.len = xs.length) (l2 : ks.len = kws.length)
    (hl : arity pm (xs.length + kws.length) = dd.2.length) : PE X (.Call (.Name dd.1 p) xs kws pos) (rd X.K (evE P (.call j pm es ks))) := by
  obtain ⟨f, hm, hkp, run⟩ := call_sound G hj hlv
  refine ⟨fun pins s σ H Q I q => ?_⟩
  obtain ⟨A, w, S, d, w', e1, q⟩ := q
  obtain ⟨x, ea, e1⟩ := bd_split e1
  obtain ⟨y, eb, e1⟩ := bd_split e1
  obtain ⟨as, ec, e1⟩ := bd_split e1
  obtain ⟨bs, ed, e1⟩ := bd_split e1
  obtain ⟨r, ef, e1⟩ := bd_split e1
  cases e1
  have gl : Gl X dd.1 := by show X.env.kindOf _ = _; unfold Env.kindOf; rw [G.sco]; exact hg
  refine wpAny_Call_Name_kw (ld_glob I gl hm ?_ hd)
  obtain ⟨k1, k2, k3, k4⟩ := kwN_ok (pos := pos) (env := X.env) hk
  have l1' := evEs_len ea
  have l2' := evEs_len eb
  have lb : bs.length = dd.2.length := by
    rw [← hl]
    cases pm with
    | none =>
      have e := of_split ed
      cases e
      have : ∀ {ρ : Nat → Option D} {φ : Bool} {ds es : List D}, rsL ρ φ ds = some es → es.length = ds.length := fun {ρ φ ds} => by
        induction ds with
        | nil => intro es e; cases e; rfl
        | cons d ds ih =>
          intro es e
          simp only [rsL, Option.bind_eq_some_iff, Option.map_eq_some_iff] at e
          obtain ⟨_, _, ys, e2, rfl⟩ := e
          rw [List.length_cons, List.length_cons, ih e2]
      rw [this (of_split ec), List.length_append, l1', l2', l1, l2]
      rfl
    | some pp => exact arr_length (of_split ed)
  have fin : ∀ (A1 A2 : Ad) (H1 H2 : Hp) (s2 : Shared) (us ws : List Value) (vs zs : List V), Inv X pins σ H2 s2 → Step A H A1 H1 → Step A1 H1 A2 H2 → Vals vs us → Vals zs ws → RDs X.K H1 A1 x.1 vs → Sim X.K H2 A2 y.2 σ → RDs X.K H2 A2 y.1 zs →
      wpAny (model X.prog X.w) X.A (call (.ref f) us (kn.zip ws)) (EP X pins σ Q) X.xe s2 := fun A1 A2 H1 H2 s2 us ws vs zs I2 st1 st2 r1 r2 q1 S2 q2 =>
    run xs.length kn pm hb pins s2 σ H2 Q us ws vs zs A2 y.2 x.1 y.1 as bs r.1 r.2 I2 r1 r2 S2 (q1.step st2.toCar) q2 (l1'.trans l1) (by rw [l2', l2, k4]) (of_split ec) (of_split ed) lb ef (q.step (st1.trans st2))
  have e0 : ∀ (s1 : Shared), Inv X pins σ H s1 → xs = [] → x.1 = [] := fun _ _ z => by
    have : x.1.length = 0 := by rw [l1', l1, z]; rfl
    exact List.length_eq_zero_iff.mp this
  cases xs with
  | nil =>
    -- no positional values
    have hx0 := e0 s I rfl
    have hw0 : x.2 = w := by
      cases es with
      | nil => cases ea; rfl
      | cons _ _ => cases l1
    rw [hw0] at eb
    cases kws with
    | nil =>
      cases hk
      have hy0 : y.1 = [] := List.length_eq_zero_iff.mp (by rw [l2', l2]; rfl)
      have hw1 : y.2 = w := by
        cases ks with
        | nil => cases eb; rfl
        | cons _ _ => cases l2
      refine PySem.W.callWith_K0 I.kIn hkp ?_
      exact fin A A H H s [] [] [] [] I (Step.refl A H) (Step.refl A H) .nil .nil (by rw [hx0]; exact rfl) (by rw [hw1]; exact S) (by rw [hy0]; exact rfl)
    | cons k0 kws =>
      refine PySem.W.callWith_KW0 (h₀ := X.base) I.ok.mod.kin hkp k1 (thn (h2.run pos pins s σ H (fun zs H2 => ∃ A2, Step A H A2 H2 ∧ Sim X.K H2 A2 y.2 σ ∧ RDs X.K H2 A2 y.1 zs) I ⟨A, w, S, y.1, y.2, eb, fun A2 zs H2 st S2 r2 => ⟨A2, st, S2, r2⟩⟩) fun ws s2 ⟨zs, H2, I2, rz, A2, st, S2, r2⟩ => ⟨I2.kIn, ?_⟩) (by show (false || _) = false; rw [k3]; rfl)
      rw [k2]
      exact fin A A2 H H2 s2 [] ws [] zs I2 (Step.refl A H) st .nil rz (by rw [hx0]; exact rfl) S2 r2
  | cons x0 xs =>
    obtain ⟨o1, o2⟩ := Bool.and_eq_true_iff.mp (show (okX x0 && xs.all okX) = true from hx)
    have np : (backTo pos (starEach (x0 :: xs) X.env)).any (·.1) = false := noStars hx
    have main : wpAny (model X.prog X.w) X.A (spliced (backTo pos (starEach (x0 :: xs) X.env))) (AP X pins σ fun vs H1 => ∃ A1, Step A H A1 H1 ∧ Sim X.K H1 A1 x.2 σ ∧ RDs X.K H1 A1 x.1 vs) X.xe s :=
      h1.run pos pins s σ H _ I ⟨A, w, S, x.1, x.2, ea, fun A1 vs H1 st S1 r1 => ⟨A1, st, S1, r1⟩⟩
    cases kws with
    | nil =>
      cases hk
      have hy0 : y.1 = [] := List.length_eq_zero_iff.mp (by rw [l2', l2]; rfl)
      have hw1 : y.2 = x.2 := by
        cases ks with
        | nil => cases eb; rfl
        | cons _ _ => cases l2
      refine PySem.W.callWith_K (h₀ := X.base) I.ok.mod.kin hkp (thn main fun us s1 ⟨vs, H1, I1, rv, A1, st, S1, r1⟩ => ⟨I1.kIn, ?_⟩) (starEach_cons o1) (noStars o2)
      exact fin A1 A1 H1 H1 s1 us [] vs [] I1 st (Step.refl A1 H1) rv .nil r1 (by rw [hw1]; exact S1) (by rw [hy0]; exact rfl)
    | cons k0 kws =>
      refine PySem.W.callWith_KW (h₀ := X.base) I.ok.mod.kin hkp k1 (thn main fun us s1 ⟨vs, H1, I1, rv, A1, st, S1, r1⟩ => ?_) (by rw [np, k3]; rfl) (starEach_cons o1)
      refine thn (h2.run pos pins s1 σ H1 (fun zs H2 => ∃ A2, Step A1 H1 A2 H2 ∧ Sim X.K H2 A2 y.2 σ ∧ RDs X.K H2 A2 y.1 zs) I1 ⟨A1, x.2, S1, y.1, y.2, eb, fun A2 zs H2 st S2 r2 => ⟨A2, st, S2, r2⟩⟩) fun ws s2 ⟨zs, H2, I2, rz, A2, st2, S2, r2⟩ => ⟨I2.kIn, ?_⟩
      rw [k2]
      exact fin A1 A2 H1 H2 s2 us ws vs zs I2 st st2 rv rz r1 S2 r2
/-- a method of a list -/
theorem me_list {m : Me} {d : D} {ds : List D} {r : D} {w w' : Wd} {K : PySem.W.Frag} {H : Hp} {A : Ad} {σ : Sl} {v : V} (S : Sim K H A w σ) (rd1 : RD K H A d v) (e : meF m d ds w = .ok (r, w')) : tyV K "list" v H := by
  have go : ∀ {xs ys : List D} {w2 : Wd}, w.seq d = some xs → w.put d ys = some w2 → tyV K "list" v H := fun {xs ys w2} e1 e2 => by
    obtain ⟨a, us, zs, rfl, h, _⟩ := put_ok e2 S rd1
    exact .inl ⟨rfl, us, SqL.of h⟩
  cases m with
  | append =>
    match ds, e with
    | [], e => cases e
    | _ :: _ :: _, e => cases e
    | [x], e =>
      obtain ⟨xs, e1, e⟩ := bd_split (show ((R.of (w.seq d)).bd fun xs => if xs.length < mxLen then (R.of (w.put d (xs ++ [x]))).bd fun w' => R.ok (D.non, w') else R.err) = .ok (r, w') from e)
      split at e
      · obtain ⟨w2, e2, e⟩ := bd_split e
        exact go (of_split e1) (of_split e2)
      · cases e
  | extend =>
    match ds, e with
    | [], e => cases e
    | _ :: _ :: _, e => cases e
    | [x], e =>
      have e : (if isL x && !deq x d then (R.of (w.seq d)).bd fun xs => (R.of (w.seq x)).bd fun ys => if xs.length + ys.length ≤ mxLen then (R.of (w.put d (xs ++ ys))).bd fun w' => R.ok (D.non, w') else R.err else R.err) = .ok (r, w') := e
      split at e
      · obtain ⟨xs, e1, e⟩ := bd_split e
        obtain ⟨ys, e2, e⟩ := bd_split e
        split at e
        · obtain ⟨w2, e3, e⟩ := bd_split e
          exact go (of_split e1) (of_split e3)
        · cases e
      · cases e
  | pop =>
    match ds, e with
    | x :: _ :: _, e => cases x <;> cases e
    | [], e =>
      obtain ⟨xs, e1, e⟩ := bd_split (show ((R.of (w.seq d)).bd fun xs => (R.of xs[xs.length - 1]?).bd fun y => (R.of (w.put d xs.dropLast)).bd fun w' => R.ok (y, w')) = .ok (r, w') from e)
      obtain ⟨y, e2, e⟩ := bd_split e
      obtain ⟨w2, e3, e⟩ := bd_split e
      exact go (of_split e1) (of_split e3)
    | [x], e =>
      cases x with
      | int i =>
        obtain ⟨xs, e1, e⟩ := bd_split (show ((R.of (w.seq d)).bd fun xs => (R.of (ixI xs.length i)).bd fun k => (R.of xs[k]?).bd fun y => (R.of (w.put d (xs.eraseIdx k))).bd fun w' => R.ok (y, w')) = .ok (r, w') from e)
        obtain ⟨k, e4, e⟩ := bd_split e
        obtain ⟨y, e2, e⟩ := bd_split e
        obtain ⟨w2, e3, e⟩ := bd_split e
        exact go (of_split e1) (of_split e3)
      | _ => cases e
  | _ => cases e
def meId : Me → String
  | .append => "list.append"
  | .extend => "list.extend"
  | .pop => "list.pop"
  | _ => ""
theorem me_slot (m : Me) (h : (match m with | .append => true | .extend => true | .pop => true | _ => false) = true) :
    Slot "list" (meName m) (meId m) ∧ typeOf (.builtin (meId m)) = pure (.type "method_descriptor") ∧ MtR X (meId m) (rMe X.K m) := by
  cases m with
  | append => exact ⟨PySem.F.slot_list_append, PySem.F.type_list_append, me_append⟩
  | extend => exact ⟨PySem.F.slot_list_extend, PySem.F.type_list_extend, me_extend⟩
  | pop => exact ⟨PySem.F.slot_list_pop, PySem.F.type_list_pop, me_pop⟩
  | _ => cases h
theorem snd_me0 (m : Me) {o : E} {x : Expr} {apos cpos : Pos} (hm : (match m with | .append => true | .extend => true | .pop => true | _ => false) = true) (ho : PE X x (rd X.K (evE P o))) (ha : okA x = true) (hl : (apos.endLine == cpos.line) = true) :
    PE X (.Call (.Attribute x (meName m) apos) [] [] cpos) (rd X.K (evE P (.me m o .nil))) := by
  obtain ⟨h1, h2, h3⟩ := me_slot (X := X) m hm
  refine PEimp (pe_bm0 PySem.F.plainAttrs_list h1 h2 h3 ho (attr_ok ha) hl) fun σ H Q q => ?_
  obtain ⟨A, w, S, d, w', e1, q⟩ := q
  obtain ⟨x, ea, e1⟩ := bd_split e1
  have e1 : meF m x.1 [] x.2 = .ok (d, w') := e1
  exact ⟨A, w, S, x.1, x.2, ea, fun A1 v H1 s1 S1 r1 => ⟨me_list S1 r1 e1, A1, x.2, σ, x.1, [], d, w', S1, r1, rfl, e1, q.step s1⟩⟩
theorem snd_me1 (m : Me) {o e : E} {x y : Expr} {apos cpos : Pos} (hm : (match m with | .append => true | .extend => true | .pop => true | _ => false) = true) (ho : PE X x (rd X.K (evE P o))) (he : PE X y (rd X.K (evE P e))) (ha : okA x = true) (hl : (apos.endLine == cpos.line) = true) (hy : okX y = true) :
    PE X (.Call (.Attribute x (meName m) apos) [y] [] cpos) (rd X.K (evE P (.me m o (.cons e .nil)))) := by
  obtain ⟨h1, h2, h3⟩ := me_slot (X := X) m hm
  refine PEimp (pe_bm PySem.F.plainAttrs_list h1 h2 h3 ho (snd_cons he snd_nil hy) (attr_ok ha) (by rw [starEach_cons hy]; rfl) hl (starEach_cons hy) (by rfl)) fun σ H Q q => ?_
  obtain ⟨A, w, S, d, w', e1, q⟩ := q
  obtain ⟨x, ea, e1⟩ := bd_split e1
  obtain ⟨z, eb, e1⟩ := bd_split e1
  refine ⟨A, w, S, x.1, x.2, ea, fun A1 v H1 s1 S1 r1 => ⟨?_, A1, x.2, S1, z.1, z.2, eb, fun A2 vs H2 s2 S2 r2 => ⟨A2, z.2, σ, x.1, z.1, d, w', S2, r1.step s2.toCar, r2, e1, q.step (s1.trans s2)⟩⟩⟩
  -- the receiver is a list of ours: a ref
  have hr : (∃ k, x.1 = .ref k) ∨ ∃ k, x.1 = .g k := by
    have put : ∀ {d : D} {xs : List D} {w w2 : Wd}, w.put d xs = some w2 → (∃ k, d = .ref k) ∨ ∃ k, d = .g k := fun {d xs w w2} e => by
      cases d with
      | ref k => exact .inl ⟨k, rfl⟩
      | g k => exact .inr ⟨k, rfl⟩
      | _ => cases e
    have e1 : meF m x.1 z.1 z.2 = .ok (d, w') := e1
    cases m with
    | append =>
      match hz : z.1, e1 with
      | [], e1 => cases e1
      | _ :: _ :: _, e1 => cases e1
      | [t], e1 =>
        obtain ⟨xs, _, e1⟩ := bd_split (show ((R.of (z.2.seq x.1)).bd fun xs => if xs.length < mxLen then (R.of (z.2.put x.1 (xs ++ [t]))).bd fun w' => R.ok (D.non, w') else R.err) = .ok (d, w') from e1)
        split at e1
        · obtain ⟨w2, e2, _⟩ := bd_split e1
          exact put (of_split e2)
        · cases e1
    | extend =>
      match hz : z.1, e1 with
      | [], e1 => cases e1
      | _ :: _ :: _, e1 => cases e1
      | [t], e1 =>
        have e1 : (if isL t && !deq t x.1 then (R.of (z.2.seq x.1)).bd fun xs => (R.of (z.2.seq t)).bd fun ys => if xs.length + ys.length ≤ mxLen then (R.of (z.2.put x.1 (xs ++ ys))).bd fun w' => R.ok (D.non, w') else R.err else R.err) = .ok (d, w') := e1
        split at e1
        · obtain ⟨xs, _, e1⟩ := bd_split e1
          obtain ⟨ys, _, e1⟩ := bd_split e1
          split at e1
          · obtain ⟨w2, e2, _⟩ := bd_split e1
            exact put (of_split e2)
          · cases e1
        · cases e1
    | pop =>
      match hz : z.1, e1 with
      | t :: _ :: _, e1 => cases t <;> cases e1
      | [], e1 =>
        obtain ⟨xs, _, e1⟩ := bd_split (show ((R.of (z.2.seq x.1)).bd fun xs => (R.of xs[xs.length - 1]?).bd fun y => (R.of (z.2.put x.1 xs.dropLast)).bd fun w' => R.ok (y, w')) = .ok (d, w') from e1)
        obtain ⟨y, _, e1⟩ := bd_split e1
        obtain ⟨w2, e2, _⟩ := bd_split e1
        exact put (of_split e2)
      | [t], e1 =>
        cases t with
        | int i =>
          obtain ⟨xs, _, e1⟩ := bd_split (show ((R.of (z.2.seq x.1)).bd fun xs => (R.of (ixI xs.length i)).bd fun k => (R.of xs[k]?).bd fun y => (R.of (z.2.put x.1 (xs.eraseIdx k))).bd fun w' => R.ok (y, w')) = .ok (d, w') from e1)
          obtain ⟨k, _, e1⟩ := bd_split e1
          obtain ⟨y, _, e1⟩ := bd_split e1
          obtain ⟨w2, e2, _⟩ := bd_split e1
          exact put (of_split e2)
        | _ => cases e1
    | _ => cases hm
  rcases hr with ⟨k, hk⟩ | ⟨k, hk⟩
  · rw [hk] at r1
    obtain ⟨a, q1, rfl⟩ := r1
    obtain ⟨xs, vs, _, h, _⟩ := S1.mu.get q1
    exact .inl ⟨rfl, vs, SqL.of h⟩
  · rw [hk] at r1
    obtain ⟨a, q1, rfl⟩ := r1
    obtain ⟨xs, vs, _, h, _⟩ := S1.ga.get q1
    exact .inl ⟨rfl, vs, SqL.of h⟩

/-! ### what is walked -/
theorem snd_iseq {e : E} {tg x : Expr} (h : PE X x (rd X.K (evE P e))) : PI X tg x (rdI X.K (evI P (.seq e))) := by
  refine PIimp (pi_seq h) fun σ H Rr q => ?_
  obtain ⟨A, w, S, it, w', e1, q⟩ := q
  obtain ⟨x, ea, e1⟩ := bd_split e1
  obtain ⟨xs, ex, e1⟩ := bd_split e1
  cases e1
  refine ⟨A, w, S, x.1, x.2, ea, fun A1 v H1 s1 S1 r1 => ?_⟩
  obtain ⟨a, vs, rfl, rs, hq⟩ := S1.seq r1 (of_split ex)
  refine ⟨a, rfl, ?_⟩
  rcases hq with ⟨ht, hq⟩ | ⟨ht, hq⟩
  · exact .inr ⟨vs, hq, q A1 H1 _ s1 S1 (src_ok (of_split ex)) (walk_t (of_split ex) r1 ht)⟩
  · exact .inl ⟨vs, hq, q A1 H1 _ s1 S1 (src_ok (of_split ex)) (walk_l (of_split ex) r1 ht)⟩
theorem snd_rng1 (G : GX T P lv N sc top X) {e : E} {tg x : Expr} {p pos : Pos} (h : PE X x (rd X.K (evE P e))) (hg : sc.names.lookup ("range" : Str) = some .globalImplicit) (hf : ("range" : Str) ∈ T.free) (hx : okX x = true) :
    PI X tg (.Call (.Name "range" p) [x] [] pos) (rdI X.K (evI P (.rng (.cons e .nil)))) := by
  have gl : Gl X "range" := by show X.env.kindOf _ = _; unfold Env.kindOf; rw [G.sco]; exact hg
  refine PIimp (pi_range1 gl (G.free _ hf) (snd_cons h snd_nil hx) (starEach_cons hx)) fun σ H Rr q => ?_
  obtain ⟨A, w, S, it, w', e1, q⟩ := q
  obtain ⟨x, ea, e1⟩ := bd_split e1
  obtain ⟨xs, ex, e1⟩ := bd_split e1
  cases e1
  refine ⟨A, w, S, x.1, x.2, ea, fun A1 vs H1 s1 S1 r1 => ?_⟩
  have ex := of_split ex
  obtain ⟨ds, w1⟩ := x
  have hl : ds.length = 1 := evEs_len ea
  match ds, hl, ex, r1 with
  | [.int j], _, ex, r1 =>
    obtain ⟨v, rfl, rv⟩ := one_of r1
    have ex : (if rngOk j then some (rngL 0 j.toNat) else none) = some xs := ex
    split at ex
    · rename_i hj
      cases ex
      have hj := of_decide_eq_true hj
      exact ⟨j, by rw [show v = .int j from rv], hj.1, hj.2, q A1 H1 _ s1 S1 rfl walk_r⟩
    · cases ex
  | [.non], _, ex, _ => cases ex
  | [.bl _], _, ex, _ => cases ex
  | [.str _], _, ex, _ => cases ex
  | [.tup _], _, ex, _ => cases ex
  | [.lst _], _, ex, _ => cases ex
  | [.fl _], _, ex, _ => cases ex
  | [.sc _], _, ex, _ => cases ex
  | [.ref _], _, ex, _ => cases ex
  | [.g _], _, ex, _ => cases ex
  | [.dic _ _], _, ex, _ => cases ex
theorem rgV_rd {K : PySem.W.Frag} {H : Hp} {A : Ad} : ∀ (n : Nat) (a : Int), RDs K H A (rngL a n) ((List.range n).map fun i => V.int (a + (i : Nat)))
  | 0, _ => (rfl : _ = _)
  | n + 1, a => by
    rw [List.range_succ_eq_map, List.map_cons, List.map_map]
    refine RDs.cons_iff.mpr ⟨?_, ?_⟩
    · show _ = _
      congr 1
      omega
    · have h := rgV_rd (K := K) (H := H) (A := A) n (a + 1)
      have e : (List.map (fun i : Nat => V.int (a + 1 + (i : Nat))) (List.range n)) = (List.map ((fun i : Nat => V.int (a + (i : Nat))) ∘ Nat.succ) (List.range n)) := by
        refine List.map_congr_left fun i _ => ?_
        show V.int _ = V.int _
        congr 1
        have : ((Nat.succ i : Nat) : Int) = i + 1 := rfl
        omega
      rw [← e]
      exact h
theorem rgOk_of {i j : Int} {md : Nat} {tp : Bool} {w w' : Wd} {d : D} (h1 : rngOk i = true) (h2 : rngOk j = true) (h : (if tp then newT (rngL i (j - i).toNat) w else newL md (rngL i (j - i).toNat) w) = .ok (d, w')) : RgOk i j := by
  have h1 := of_decide_eq_true h1
  have h2 := of_decide_eq_true h2
  refine ⟨h1.1, h1.2, h2.1, h2.2, ?_⟩
  have : (rngL i (j - i).toNat).length ≤ mxLen := by
    cases tp with
    | true =>
      rw [if_pos rfl] at h
      unfold newT at h
      split at h
      · assumption
      · cases h
    | false =>
      rw [if_neg (by decide)] at h
      unfold newL at h
      split at h
      · assumption
      · cases h
  rw [rngL_length] at this
  exact Nat.le_trans this (by decide)
theorem lrg_fin {K : PySem.W.Frag} {A A1 : Ad} {H H1 : Hp} {σ : Sl} {i j : Int} {md : Nat} {tp : Bool} {w1 w' : Wd} {d : D} {Q : VK} (S : Sim K H1 A1 w1 σ) (s : Step A H A1 H1) (q : Aft K A H σ d w' Q) (h1 : rngOk i = true) (h2 : rngOk j = true)
    (h : (if tp then newT (rngL i (j - i).toNat) w1 else newL md (rngL i (j - i).toNat) w1) = .ok (d, w')) : RgOk i j ∧ ∀ p, H1 p = none → Q (.ref p) (upd H1 p (if tp then .tup (rgV i j) else .lst (rgV i j))) := by
  refine ⟨rgOk_of h1 h2 h, ?_⟩
  cases tp with
  | true =>
    rw [if_pos rfl] at h
    exact (Aft.newT h S (rgV_rd _ _) (q.step s)).2
  | false =>
    rw [if_neg (by decide)] at h
    exact (Aft.newL h S (rgV_rd _ _) (q.step s)).2
theorem snd_lrg1 (G : GX T P lv N sc top X) {e : E} {tp : Bool} {md : Nat} {x : Expr} {f : Str} {p p2 pos pos2 : Pos} (h : PE X x (rd X.K (evE P e))) (hf : f = if tp then ("tuple" : Str) else "list") (hg : sc.names.lookup ("range" : Str) = some .globalImplicit) (hg2 : sc.names.lookup f = some .globalImplicit) (hr : ("range" : Str) ∈ T.free) (hr2 : f ∈ T.free) (hx : okX x = true) :
    PE X (.Call (.Name f p2) [.Call (.Name "range" p) [x] [] pos] [] pos2) (rd X.K (evE P (.lrg tp md (.cons e .nil)))) := by
  have gl : Gl X "range" := by show X.env.kindOf _ = _; unfold Env.kindOf; rw [G.sco]; exact hg
  have gl2 : Gl X f := by show X.env.kindOf _ = _; unfold Env.kindOf; rw [G.sco]; exact hg2
  have rg := prg_1 (pos := pos) (p := p) gl (G.free _ hr) h (starEach_cons hx)
  have fin : ∀ σ H Q, rd X.K (evE P (.lrg tp md (.cons e .nil))) σ H Q → tRg1 (rd X.K (evE P e)) σ H (fun a b H1 => RgOk a b ∧ ∀ q, H1 q = none → Q (.ref q) (upd H1 q (if tp then .tup (rgV a b) else .lst (rgV a b)))) := fun σ H Q q => by
    obtain ⟨A, w, S, d, w', e1, q⟩ := q
    obtain ⟨x, ea, e1⟩ := bd_split e1
    obtain ⟨xs, ex, e1⟩ := bd_split e1
    obtain ⟨y, eb, ea⟩ := bd_split (show ((evE P e w).bd fun x => (evEs P .nil x.2).bd fun y => R.ok (x.1 :: y.1, y.2)) = .ok x from ea)
    cases ea
    refine ⟨A, w, S, y.1, y.2, eb, fun A1 v H1 s1 S1 r1 => ?_⟩
    have ex := of_split ex
    obtain ⟨d1, w1⟩ := y
    cases d1 with
    | int j =>
      have ex : (if rngOk j then some (rngL 0 j.toNat) else none) = some xs := ex
      split at ex
      · rename_i hj
        cases ex
        have h0 : (j - 0).toNat = j.toNat := by rw [Int.sub_zero]
        exact ⟨j, r1, lrg_fin S1 s1 q (by decide) hj (by rw [h0]; exact e1)⟩
      · cases ex
    | _ => cases ex
  cases tp with
  | true => subst hf; exact PEimp (pe_tupRg G.calm gl2 (G.free _ hr2) rg rfl) fin
  | false => subst hf; exact PEimp (pe_listRg G.calm gl2 (G.free _ hr2) rg rfl) fin
theorem snd_lrg2 (G : GX T P lv N sc top X) {e e2 : E} {tp : Bool} {md : Nat} {x y : Expr} {f : Str} {p p2 pos pos2 : Pos} (h : PE X x (rd X.K (evE P e))) (h2 : PE X y (rd X.K (evE P e2))) (hf : f = if tp then ("tuple" : Str) else "list") (hg : sc.names.lookup ("range" : Str) = some .globalImplicit) (hg2 : sc.names.lookup f = some .globalImplicit) (hr : ("range" : Str) ∈ T.free) (hr2 : f ∈ T.free) (hx : okX x = true) (hy : okX y = true) :
    PE X (.Call (.Name f p2) [.Call (.Name "range" p) [x, y] [] pos] [] pos2) (rd X.K (evE P (.lrg tp md (.cons e (.cons e2 .nil))))) := by
  have gl : Gl X "range" := by show X.env.kindOf _ = _; unfold Env.kindOf; rw [G.sco]; exact hg
  have gl2 : Gl X f := by show X.env.kindOf _ = _; unfold Env.kindOf; rw [G.sco]; exact hg2
  have rg := prg_2 (pos := pos) (p := p) gl (G.free _ hr) h h2 (starEach_cons hx) (starEach_cons hy) (noStars (by rw [List.all_cons, hy]; rfl))
  have fin : ∀ σ H Q, rd X.K (evE P (.lrg tp md (.cons e (.cons e2 .nil)))) σ H Q → tRg2 (rd X.K (evE P e)) (rd X.K (evE P e2)) σ H (fun a b H1 => RgOk a b ∧ ∀ q, H1 q = none → Q (.ref q) (upd H1 q (if tp then .tup (rgV a b) else .lst (rgV a b)))) := fun σ H Q q => by
    obtain ⟨A, w, S, d, w', e1, q⟩ := q
    obtain ⟨x, ea, e1⟩ := bd_split e1
    obtain ⟨xs, ex, e1⟩ := bd_split e1
    obtain ⟨y, eb, ea⟩ := bd_split (show ((evE P e w).bd fun x => (evEs P (.cons e2 .nil) x.2).bd fun y => R.ok (x.1 :: y.1, y.2)) = .ok x from ea)
    obtain ⟨z, ec, ea⟩ := bd_split ea
    cases ea
    obtain ⟨u, eu, ec⟩ := bd_split (show ((evE P e2 y.2).bd fun x => (evEs P .nil x.2).bd fun y => R.ok (x.1 :: y.1, y.2)) = .ok z from ec)
    cases ec
    refine ⟨A, w, S, y.1, y.2, eb, fun A1 v H1 s1 S1 r1 => ⟨A1, y.2, S1, u.1, u.2, eu, fun A2 v2 H2 s2 S2 r2 => ?_⟩⟩
    have ex := of_split ex
    obtain ⟨d1, w1⟩ := y
    obtain ⟨d2, w2⟩ := u
    cases d1 with
    | int i =>
      cases d2 with
      | int j =>
        have ex : (if rngOk i && rngOk j then some (rngL i (j - i).toNat) else none) = some xs := ex
        split at ex
        · rename_i hj
          cases ex
          obtain ⟨a1, a2⟩ := Bool.and_eq_true_iff.mp hj
          exact ⟨i, j, r1, r2, lrg_fin S2 (s1.trans s2) q a1 a2 e1⟩
        · cases ex
      | _ => cases ex
    | _ => cases d2 <;> cases ex
  cases tp with
  | true => subst hf; exact PEimp (pe_tupRg G.calm gl2 (G.free _ hr2) rg rfl) fin
  | false => subst hf; exact PEimp (pe_listRg G.calm gl2 (G.free _ hr2) rg rfl) fin
theorem three_of {K : PySem.W.Frag} {H : Hp} {A : Ad} {d e f : D} {vs : List V} (h : RDs K H A [d, e, f] vs) : ∃ v u t, vs = [v, u, t] ∧ RD K H A d v ∧ RD K H A e u ∧ RD K H A f t := by
  obtain ⟨v, r, rfl, x, y⟩ := h
  obtain ⟨u, t, rfl, z⟩ := two_of y
  exact ⟨v, u, t, rfl, x, z⟩
theorem snd_rng3 (G : GX T P lv N sc top X) {e e2 e3 : E} {tg x y z : Expr} {p pos : Pos} (h : PE X x (rd X.K (evE P e))) (h2 : PE X y (rd X.K (evE P e2))) (h3 : PE X z (rd X.K (evE P e3))) (hg : sc.names.lookup ("range" : Str) = some .globalImplicit) (hf : ("range" : Str) ∈ T.free) (hx : okX x = true) (hy : okX y = true) (hz : okX z = true) :
    PI X tg (.Call (.Name "range" p) [x, y, z] [] pos) (rdI X.K (evI P (.rng (.cons e (.cons e2 (.cons e3 .nil)))))) := by
  have gl : Gl X "range" := by show X.env.kindOf _ = _; unfold Env.kindOf; rw [G.sco]; exact hg
  refine PIimp (pi_range3 gl (G.free _ hf) (snd_cons h (snd_cons h2 (snd_cons h3 snd_nil hz) hy) hx) (starEach_cons hx) (noStars (by rw [List.all_cons, List.all_cons, hy, hz]; rfl))) fun σ H Rr q => ?_
  obtain ⟨A, w, S, it, w', e1, q⟩ := q
  obtain ⟨x, ea, e1⟩ := bd_split e1
  obtain ⟨xs, ex, e1⟩ := bd_split e1
  cases e1
  refine ⟨A, w, S, x.1, x.2, ea, fun A1 vs H1 s1 S1 r1 => ?_⟩
  have ex := of_split ex
  obtain ⟨ds, w1⟩ := x
  have hl : ds.length = 3 := evEs_len ea
  have hi : ∃ i j c, ds = [.int i, .int j, .int c] := by
    match ds, hl, ex with
    | [a, b, c], _, ex =>
      cases a with
      | int i => cases b with
        | int j => cases c with
          | int c => exact ⟨i, j, c, rfl⟩
          | _ => cases ex
        | _ => cases c <;> cases ex
      | _ => cases b <;> cases c <;> cases ex
  obtain ⟨i, j, c, hd⟩ := hi
  have hd : ds = [.int i, .int j, .int c] := hd
  subst hd
  obtain ⟨v, u, t, rfl, rv, ru, rt⟩ := three_of r1
  have ex : (if decide (c ≠ 0 ∧ c.natAbs < 1073741824) && Builtin.Range.small i j c then some (stepL i c (Builtin.Range.rangeSize i j c).toNat) else none) = some xs := ex
  split at ex
  · rename_i hj
    cases ex
    obtain ⟨a1, a2⟩ := Bool.and_eq_true_iff.mp hj
    have a1 := of_decide_eq_true a1
    exact ⟨i, j, c, _, by rw [show v = .int i from rv, show u = .int j from ru, show t = .int c from rt], ⟨a1.1, a1.2, a2, PyProof.Rows.rangeSize_toNat i j c⟩, q A1 H1 _ s1 S1 rfl walk_c⟩
  · cases ex
theorem snd_rng2 (G : GX T P lv N sc top X) {e e2 : E} {tg x y : Expr} {p pos : Pos} (h : PE X x (rd X.K (evE P e))) (h2 : PE X y (rd X.K (evE P e2))) (hg : sc.names.lookup ("range" : Str) = some .globalImplicit) (hf : ("range" : Str) ∈ T.free) (hx : okX x = true) (hy : okX y = true) :
    PI X tg (.Call (.Name "range" p) [x, y] [] pos) (rdI X.K (evI P (.rng (.cons e (.cons e2 .nil))))) := by
  have gl : Gl X "range" := by show X.env.kindOf _ = _; unfold Env.kindOf; rw [G.sco]; exact hg
  refine PIimp (pi_range2 gl (G.free _ hf) (snd_cons h (snd_cons h2 snd_nil hy) hx) (by rw [starEach_cons hx, starEach_cons hy]; rfl) (starEach_cons hy)) fun σ H Rr q => ?_
  obtain ⟨A, w, S, it, w', e1, q⟩ := q
  obtain ⟨x, ea, e1⟩ := bd_split e1
  obtain ⟨xs, ex, e1⟩ := bd_split e1
  cases e1
  refine ⟨A, w, S, x.1, x.2, ea, fun A1 vs H1 s1 S1 r1 => ?_⟩
  have ex := of_split ex
  obtain ⟨ds, w1⟩ := x
  have hl : ds.length = 2 := evEs_len ea
  have hi : ∃ i j, ds = [.int i, .int j] := by
    match ds, hl, ex with
    | [a, b], _, ex =>
      cases a with
      | int i => cases b with
        | int j => exact ⟨i, j, rfl⟩
        | _ => cases ex
      | _ => cases b <;> cases ex
  obtain ⟨i, j, hd⟩ := hi
  have hd : ds = [.int i, .int j] := hd
  subst hd
  obtain ⟨v, u, rfl, rv, ru⟩ := two_of r1
  have ex : (if rngOk i && rngOk j then some (rngL i (j - i).toNat) else none) = some xs := ex
  split at ex
  · rename_i hj
    cases ex
    obtain ⟨a1, a2⟩ := Bool.and_eq_true_iff.mp hj
    have a1 := of_decide_eq_true a1
    have a2 := of_decide_eq_true a2
    exact ⟨i, j, by rw [show v = .int i from rv, show u = .int j from ru], ⟨a1.1, a1.2, a2.1, a2.2⟩, q A1 H1 _ s1 S1 rfl walk_r⟩
  · cases ex
theorem snd_enu (G : GX T P lv N sc top X) {e : E} {x : Expr} {elts : List Expr} {kk : Nat} {p pos tpos : Pos} (h : PE X x (rd X.K (evE P e))) (hg : sc.names.lookup ("enumerate" : Str) = some .globalImplicit) (hf : ("enumerate" : Str) ∈ T.free) (hx : okX x = true) :
    PI X (.Tuple elts kk tpos) (.Call (.Name "enumerate" p) [x] [] pos) (rdI X.K (evI P (.enu e))) := by
  have gl : Gl X "enumerate" := by show X.env.kindOf _ = _; unfold Env.kindOf; rw [G.sco]; exact hg
  refine PIimp (pi_enu gl (G.free _ hf) (snd_cons h snd_nil hx) (starEach_cons hx)) fun σ H Rr q => ?_
  obtain ⟨A, w, S, it, w', e1, q⟩ := q
  obtain ⟨x, ea, e1⟩ := bd_split e1
  obtain ⟨xs, ex, e1⟩ := bd_split e1
  cases e1
  refine ⟨A, w, S, [x.1], x.2, by show (evE P e w).bd _ = _; rw [ea]; rfl, fun A1 vs H1 s1 S1 r1 => ?_⟩
  obtain ⟨v, rfl, rv⟩ := one_of r1
  obtain ⟨a, vs, rfl, rs, hq⟩ := S1.seq rv (of_split ex)
  refine ⟨a, rfl, ?_⟩
  rcases hq with ⟨ht, hq⟩ | ⟨ht, hq⟩
  · exact .inr ⟨vs, hq, q A1 H1 _ s1 S1 (src_ok (of_split ex)) (walk_et (of_split ex) rv ht)⟩
  · exact .inl ⟨vs, hq, q A1 H1 _ s1 S1 (src_ok (of_split ex)) (walk_e (of_split ex) rv ht)⟩
theorem snd_zip (G : GX T P lv N sc top X) {e e2 : E} {x y : Expr} {elts : List Expr} {kk : Nat} {p pos tpos : Pos} (h : PE X x (rd X.K (evE P e))) (h2 : PE X y (rd X.K (evE P e2))) (hg : sc.names.lookup ("zip" : Str) = some .globalImplicit) (hf : ("zip" : Str) ∈ T.free) (hx : okX x = true) (hy : okX y = true) :
    PI X (.Tuple elts kk tpos) (.Call (.Name "zip" p) [x, y] [] pos) (rdI X.K (evI P (.zip e e2))) := by
  have gl : Gl X "zip" := by show X.env.kindOf _ = _; unfold Env.kindOf; rw [G.sco]; exact hg
  refine PIimp (RZ.pi_zipA gl (G.free _ hf) (snd_cons h (snd_cons h2 snd_nil hy) hx) (starEach_cons hx) (by rw [starEach_cons hy]; rfl)) fun σ H Rr q => ?_
  obtain ⟨A, w, S, it, w', e1, q⟩ := q
  obtain ⟨x, ea, e1⟩ := bd_split e1
  obtain ⟨y, eb, e1⟩ := bd_split e1
  obtain ⟨xs, ex, e1⟩ := bd_split e1
  obtain ⟨ys, ey, e1⟩ := bd_split e1
  split at e1
  case isFalse => cases e1
  rename_i ht
  have ht : isT x.1 = isT y.1 := eq_of_beq ht
  cases e1
  have ex := of_split ex
  have ey := of_split ey
  refine ⟨A, w, S, [x.1, y.1], y.2, by show (evE P e w).bd _ = _; rw [ea]; show ((evE P e2 x.2).bd _).bd _ = _; rw [eb]; rfl, fun A1 vs H1 s1 S1 r1 => ?_⟩
  obtain ⟨v, u, rfl, rv, ru⟩ := two_of r1
  obtain ⟨a, vs, rfl, rs, hq⟩ := S1.seq rv ex
  obtain ⟨b, us, rfl, rs2, hq2⟩ := S1.seq ru ey
  refine ⟨a, b, vs, us, rfl, ?_⟩
  have ok : ((srcOf x.1).ok xs y.2 && (srcOf y.1).ok ys y.2) = true := by rw [src_ok ex, src_ok ey]; rfl
  rcases hq with ⟨t1, hq⟩ | ⟨t1, hq⟩
  · rcases hq2 with ⟨t2, hq2⟩ | ⟨t2, hq2⟩
    · exact .inr ⟨hq, hq2, q A1 H1 _ s1 S1 ok (walk_zt ex ey rv ru t1 t2)⟩
    · rw [t1, t2] at ht; cases ht
  · rcases hq2 with ⟨t2, hq2⟩ | ⟨t2, hq2⟩
    · rw [t1, t2] at ht; cases ht
    · exact .inl ⟨hq, hq2, q A1 H1 _ s1 S1 ok (walk_z ex ey rv ru t1 t2)⟩
end
end Fz

/-! Q13: comprehensions; the checker of expressions and what it gives. -/
namespace Fz
open PySem PySem.Spec PyProof.Rows L2
section
variable {T : Tb} {P : Pg} {lv : Nat} {N : List Str} {sc : Scope} {top : Bool} {X : Cx}
theorem wipe_wipe (σ : Sl) (own : List Nat) : wipe (wipe σ own) own = wipe σ own := by
  apply List.ext_getElem?
  intro j
  rw [wipe_get, wipe_get]
  by_cases h : j ∈ own
  · rw [if_pos h, if_pos h]
    cases σ[j]? <;> rfl
  · rw [if_neg h, if_neg h]
theorem coL_read {t : Tg} {fi : Wd → R (Itd × Wd)} {fc : Wd → R (Bool × Wd)} {fe : Wd → R (D × Wd)} {own : List Nat} {md : Nat} (hs : ∀ i ∈ slotsT t, i ∈ own) (σ : Sl) (H : Hp) (Q : VK)
    (q : rd X.K (fun w => (fi w).bd fun x => (coL (asg t) fc fe x.1.ok own x.2.σ x.1.xs x.2 []).bd fun r => newL md r.1 r.2) σ H Q) : tLc (rdI X.K fi) (gD X.K t) (rdT X.K fc) (rd X.K fe) own σ H Q := by
  obtain ⟨A, w, S, d, w', e1, q⟩ := q
  obtain ⟨x, ex, e1⟩ := bd_split e1
  obtain ⟨r, er, e1⟩ := bd_split e1
  refine ⟨A, w, S, x.1, x.2, ex, fun A1 H1 J st1 S1 ok1 wd D hD => ?_⟩
  have op : Car A1 H1 { A1 with cn := D :: A1.cn } (upd H1 D (.lst [])) := Car.opens hD _
  have hDn : D ∉ A1.cn := (S1.fresh hD).1.2.2
  -- what holds between the turns
  let W : Nat → Hp → Prop := fun i Hh => i ≤ x.1.xs.length ∧ ∃ (A' : Ad) (w1 : Wd) (acc : List Fz.D) (vs : List V), Car { A1 with cn := D :: A1.cn } (upd H1 D (.lst [])) A' Hh ∧ A'.cn = D :: A1.cn ∧ (∀ b ∈ A1.cn, Hh b = H1 b) ∧
    Sim X.K Hh A' w1 σ ∧ w1.σ = x.2.σ ∧ Hh D = some (.lst vs) ∧ RDs X.K Hh A' acc vs ∧ x.1.ok w1 = true ∧ coL (asg t) fc fe x.1.ok own x.2.σ (x.1.xs.drop i) w1 acc = .ok r
  refine ⟨fun i m Hh => m = x.1.xs.length - i ∧ W i Hh, ⟨x.1.xs.length, by simp, Nat.zero_le _, { A1 with cn := D :: A1.cn }, x.2, [], [], Car.refl _ _, rfl, fun b hb => upd_ne (fun z => hDn (z ▸ hb)), S1.opens hD [], rfl, upd_same, rfl, ok1, er⟩, ?_⟩
  rintro i m Hh ⟨rfl, hi, A', w1, acc, vs, c, hcn, hk, S', hσ, hd, hacc, ok', hrun⟩
  have c1 : Car A1 H1 A' Hh := op.trans c
  by_cases hlt : i < x.1.xs.length
  · right
    obtain ⟨g1, g2⟩ := wd.go A' Hh w1 σ i c1 S' ok' hlt
    refine ⟨g1, W (i + 1), fun H' hw => ⟨_, by omega, rfl, hw⟩, fun v H' hy => ?_⟩
    obtain ⟨st2, S2, hv⟩ := g2 v H' hy
    have hxi : x.1.xs[i]? = some (x.1.xs[i]) := List.getElem?_eq_getElem hlt
    rw [List.drop_eq_getElem_cons hlt] at hrun
    obtain ⟨wa, ea, hrun⟩ := bd_split hrun
    obtain ⟨b, eb, hrun⟩ := bd_split hrun
    refine ⟨A', _, _, wa, S2.wiped own, hv _ hxi, by rw [hσ]; exact of_split ea, fun σ2 S3 m3 g3 ho => ⟨(ho own hs).trans (wipe_wipe σ own), A', wa, S3, b.1, b.2, eb, fun A3 H3 st3 S4 => ?_⟩⟩
    have sA : Step A' Hh A3 H3 := st2.trans st3
    cases hb : b.1 with
    | true =>
      rw [hb, if_pos rfl] at hrun
      refine iteT ?_
      obtain ⟨z, ez, hrun⟩ := bd_split hrun
      refine ⟨A3, b.2, S4, z.1, z.2, ez, fun A4 y H4 st4 S5 r5 => ?_⟩
      have sB : Step A' Hh A4 H4 := sA.trans st4
      have hD4 : H4 D = some (.lst vs) := (sB.cnk D (by rw [hcn]; exact List.mem_cons_self)).trans hd
      have hm4 : D ∈ A4.cn := by rw [sB.cn, hcn]; exact List.mem_cons_self
      split at hrun
      · rename_i hok
        obtain ⟨ok5, hz⟩ := Bool.and_eq_true_iff.mp hok
        have cg : Car A4 H4 A4 (upd H4 D (.lst (vs ++ [y]))) := Car.store (.inr (.inr hm4)) hD4
        refine ⟨vs, hD4, Nat.lt_of_lt_of_le (by rw [hacc.length]; exact of_decide_eq_true hz) (by decide), by omega, A4, { z.2 with σ := x.2.σ }, acc ++ [z.1], vs ++ [y], (c.trans sB.toCar).trans cg, by rw [sB.cn]; exact hcn, fun b hb => ?_, ?_, rfl, upd_same, ?_, ?_, ?_⟩
        · rw [upd_ne (show b ≠ D from fun z => hDn (z ▸ hb))]
          exact (sB.cnk b (by rw [hcn]; exact List.mem_cons_of_mem _ hb)).trans (hk b hb)
        · exact (S5.grow hm4 hD4 (vs ++ [y])).back S1 ((c1.trans sB.toCar).trans cg)
        · exact RDs.append ((hacc.step sB.toCar).step cg) (RDs.one (r5.step cg))
        · exact ok5
        · exact hrun
      · cases hrun
    | false =>
      rw [hb, if_neg Bool.false_ne_true] at hrun
      refine iteF ?_
      split at hrun
      · rename_i ok4
        refine ⟨by omega, A3, { b.2 with σ := x.2.σ }, acc, vs, c.trans sA.toCar, by rw [sA.cn]; exact hcn, fun b hb => ?_, ?_, rfl, ?_, hacc.step sA.toCar, ?_, ?_⟩
        · exact (sA.cnk b (by rw [hcn]; exact List.mem_cons_of_mem _ hb)).trans (hk b hb)
        · exact S4.back S1 (c1.trans sA.toCar)
        · exact (sA.cnk D (by rw [hcn]; exact List.mem_cons_self)).trans hd
        · exact ok4
        · exact hrun
      · cases hrun
  · left
    obtain rfl : i = x.1.xs.length := Nat.le_antisymm hi (Nat.le_of_not_lt hlt)
    refine ⟨wd.stop A' Hh w1 σ c1 S' ok', ?_⟩
    rw [List.drop_length] at hrun
    cases hrun
    obtain ⟨A2, c2, hc2, S2, r2⟩ := S'.closes e1 hcn hDn hd hacc
    have call := c1.trans c2
    exact q A2 (.ref D) Hh (st1.trans ⟨call, hc2, hk⟩) S2 r2
end
end Fz

/-! Q14: the checker of expressions and what it gives. -/
namespace Fz
open PySem PySem.Spec PyProof.Rows L2

def visB (sc : Scope) (x : Str) : Bool := match sc.names.lookup x with
  | some .local => true
  | some .cell => true
  | some .free => true
  | _ => false
theorem visB_ok {sc : Scope} {x : Str} (h : visB sc x = true) : Vis sc x := by
  unfold visB at h
  cases q : sc.names.lookup x with
  | none => rw [q] at h; cases h
  | some k =>
    rw [q] at h
    cases k with
    | «local» => exact .inl q
    | cell => exact .inr (.inl q)
    | free => exact .inr (.inr q)
    | _ => cases h
def glB (sc : Scope) (x : Str) : Bool := (match sc.names.lookup x with
  | some .globalImplicit => true
  | _ => false) && !(x == ("__debug__" : Str))
theorem glB_ok {sc : Scope} {x : Str} (h : glB sc x = true) : sc.names.lookup x = some .globalImplicit ∧ (x == ("__debug__" : Str)) = false := by
  obtain ⟨h1, h2⟩ := Bool.and_eq_true_iff.mp h
  refine ⟨?_, by simpa using h2⟩
  cases q : sc.names.lookup x with
  | none => rw [q] at h1; cases h1
  | some k =>
    rw [q] at h1
    cases k <;> first | rfl | cases h1
def ckK : D → Expr → Bool
  | .non, .Constant .none _ _ => true
  | .bl b, .Constant (.bool c) _ _ => b == c
  | .int i, .Constant (.int j) _ _ => decide (i = j)
  | .str s, .Constant (.str z) _ _ => decide (s = z)
  | _, _ => false
def opB : Operator → Operator → Bool
  | .Add, .Add => true
  | .Sub, .Sub => true
  | .Mult, .Mult => true
  | .Mod, .Mod => true
  | .Pow, .Pow => true
  | .LShift, .LShift => true
  | .BitXor, .BitXor => true
  | .BitAnd, .BitAnd => true
  | .FloorDiv, .FloorDiv => true
  | _, _ => false
theorem opB_ok : ∀ {a b : Operator}, opB a b = true → a = b := by
  intro a b h
  cases a <;> cases b <;> first | rfl | cases h
def cmB : CmpOp → CmpOp → Bool
  | .Eq, .Eq => true
  | .NotEq, .NotEq => true
  | .Lt, .Lt => true
  | .LtE, .LtE => true
  | .Gt, .Gt => true
  | .GtE, .GtE => true
  | .Is, .Is => true
  | .IsNot, .IsNot => true
  | .In, .In => true
  | .NotIn, .NotIn => true
  | _, _ => false
theorem cmB_ok : ∀ {a b : CmpOp}, cmB a b = true → a = b := by
  intro a b h
  cases a <;> cases b <;> first | rfl | cases h
def meB : Me → Bool
  | .append => true
  | .extend => true
  | .pop => true
  | _ => false
def ownN (N : List Str) (own : List Nat) : List (Str × Nat) := own.map fun i => (N.getD i "", i)
theorem ownN_slots (N : List Str) (own : List Nat) : (ownN N own).map (·.2) = own := by
  unfold ownN
  rw [List.map_map]
  exact List.map_id _
section
variable (T : Tb) (lv : Nat) (N : List Str)
mutual
def ckE : Scope → Bool → E → Expr → Bool
  | sc, _, .v i, .Name x _ => decide (N[i]? = some x) && (visB sc x && (!(x == ("__debug__" : Str)) && !(x == ("__classdict__" : Str))))
  | _, _, .k d, ex => ckK d ex
  | sc, _, .gl i, .Name x _ => (match T.cons[i]? with
    | some c => decide (c.1 = x)
    | none => false) && glB sc x
  | sc, top, .op o _ a b, .BinOp x o' y _ => opB (oper o) o' && (ckE sc top a x && ckE sc top b y)
  | sc, top, .neg a, .UnaryOp .USub x _ => ckE sc top a x
  | sc, top, .no a, .UnaryOp .Not x _ => ckE sc top a x
  | sc, top, .an a b, .BoolOp .And (x :: y :: r) p => ckE sc top a x && (match r with
    | [] => ckE sc top b y
    | z :: r => (match b with
      | .an _ _ => true
      | _ => false) && ckE sc top b (.BoolOp .And (y :: z :: r) p))
  | sc, top, .or a b, .BoolOp .Or (x :: y :: r) p => ckE sc top a x && (match r with
    | [] => ckE sc top b y
    | z :: r => (match b with
      | .or _ _ => true
      | _ => false) && ckE sc top b (.BoolOp .Or (y :: z :: r) p))
  | sc, top, .cm c a b, .Compare x [o] [y] _ => cmB (cmOp c) o && (okX y && (ckE sc top a x && ckE sc top b y))
  | sc, top, .ch a c b c2 d, .Compare x [o, o2] [y, z] _ => cmB (cmOp c) o && (cmB (cmOp c2) o2 && (okX y && (okX z && (ckE sc top a x && (ckE sc top b y && ckE sc top d z)))))
  | sc, top, .ite c a b, .IfExp x y z _ => ckE sc top c x && (ckE sc top a y && ckE sc top b z)
  | sc, top, .tup es, .Tuple xs _ _ => ckEs sc top es xs
  | sc, top, .lst _ es, .List xs _ => ckEs sc top es xs
  | sc, top, .ix a i, .Subscript x y _ => okX y && (ckE sc top a x && ckE sc top i y)
  | sc, top, .lrg tp _ (.cons e .nil), .Call (.Name f _) [.Call (.Name r _) [x] [] _] [] _ => decide (r = ("range" : Str)) && (decide (f = if tp then ("tuple" : Str) else "list") && (glB sc r && (glB sc f && (decide (r ∈ T.free) && (decide (f ∈ T.free) && (okX x && ckE sc top e x))))))
  | sc, top, .lrg tp _ (.cons e (.cons e2 .nil)), .Call (.Name f _) [.Call (.Name r _) [x, y] [] _] [] _ => decide (r = ("range" : Str)) && (decide (f = if tp then ("tuple" : Str) else "list") && (glB sc r && (glB sc f && (decide (r ∈ T.free) && (decide (f ∈ T.free) && (okX x && (okX y && (ckE sc top e x && ckE sc top e2 y))))))))
  | sc, top, .dis ks es, .Dict keys vals _ => (!keys.isEmpty && Nat.ble keys.length 15) && ckDs sc top ks es keys vals
  | sc, top, .sl _ a lo hi, .Subscript x (.Slice xl xh none _) _ => ckE sc top a x && (ckO sc top lo xl && ckO sc top hi xh)
  | sc, top, .rev _ a, .Subscript x (.Slice none none (some (.UnaryOp .USub (.Constant (.int 1) _ _) _)) _) _ => ckE sc top a x
  | sc, top, .call j pm es ks, .Call (.Name x _) xs kws _ => (match T.defs[j]? with
    | some dd => decide (dd.1 = x) && decide (arity pm (xs.length + kws.length) = dd.2.length)
    | none => false) && (decide (j < lv) && (glB sc x && (ckEs sc top es xs && (ckKs sc top ks kws && (match kwN kws with
      | some kn => decide ((j, xs.length, kn, pm) ∈ T.binds)
      | none => false)))))
  | sc, top, .bi b _ es, .Call (.Name x _) (x0 :: xs) [] _ => decide (x = biName b) && (glB sc x && (decide (x ∈ T.free) && ckEs sc top es (x0 :: xs)))
  | sc, top, .me m o .nil, .Call (.Attribute x nm ap) [] [] cp => meB m && (decide (nm = meName m) && (okA x && ((ap.endLine == cp.line) && ckE sc top o x)))
  | sc, top, .me m o (.cons e .nil), .Call (.Attribute x nm ap) [y] [] cp => meB m && (decide (nm = meName m) && (okA x && ((ap.endLine == cp.line) && (okX y && (ckE sc top o x && ckE sc top e y)))))
  | sc, top, .co _ t it c e own, .ListComp x [⟨tg, iter, ifs, 0⟩] scope _ => ckI sc top it tg iter && (okX iter && (ckT N (relS scope sc) false t tg && (ckC (relS scope sc) false c ifs && (ckE (relS scope sc) false e x && (blkC N sc scope (ownN N own) && (slotsT t).all (fun i => own.contains i))))))
  | _, _, _, _ => false
def ckEs : Scope → Bool → Es → List Expr → Bool
  | _, _, .nil, [] => true
  | sc, top, .cons e r, x :: xs => okX x && (ckE sc top e x && ckEs sc top r xs)
  | _, _, _, _ => false
def ckDs : Scope → Bool → List Str → Es → List (Option Expr) → List Expr → Bool
  | _, _, [], .nil, [], [] => true
  | sc, top, k :: ks, .cons e r, some (.Constant (.str x) _ _) :: keys, v :: vals => decide (k = x) && (ckE sc top e v && ckDs sc top ks r keys vals)
  | _, _, _, _, _, _ => false
def ckKs : Scope → Bool → Es → List Keyword → Bool
  | _, _, .nil, [] => true
  | sc, top, .cons e r, ⟨_, x, _⟩ :: xs => ckE sc top e x && ckKs sc top r xs
  | _, _, _, _ => false
def ckO : Scope → Bool → Oe → Option Expr → Bool
  | _, _, .no, none => true
  | sc, top, .so e, some x => ckE sc top e x
  | _, _, _, _ => false
def ckC : Scope → Bool → Oe → List Expr → Bool
  | _, _, .no, [] => true
  | sc, top, .so e, [x] => ckE sc top e x
  | _, _, _, _ => false
def ckI : Scope → Bool → It → Expr → Expr → Bool
  | sc, top, .seq e, _, x => ckE sc top e x
  | sc, top, .rng (.cons e .nil), _, .Call (.Name x _) [y] [] _ => decide (x = ("range" : Str)) && (glB sc x && (decide (x ∈ T.free) && (okX y && ckE sc top e y)))
  | sc, top, .rng (.cons e (.cons e2 .nil)), _, .Call (.Name x _) [y, z] [] _ => decide (x = ("range" : Str)) && (glB sc x && (decide (x ∈ T.free) && (okX y && (okX z && (ckE sc top e y && ckE sc top e2 z)))))
  | sc, top, .rng (.cons e (.cons e2 (.cons e3 .nil))), _, .Call (.Name x _) [y, z, z2] [] _ => decide (x = ("range" : Str)) && (glB sc x && (decide (x ∈ T.free) && (okX y && (okX z && (okX z2 && (ckE sc top e y && (ckE sc top e2 z && ckE sc top e3 z2)))))))
  | sc, top, .enu e, .Tuple _ _ _, .Call (.Name x _) [y] [] _ => decide (x = ("enumerate" : Str)) && (glB sc x && (decide (x ∈ T.free) && (okX y && ckE sc top e y)))
  | sc, top, .zip e e2, .Tuple _ _ _, .Call (.Name x _) [y, z] [] _ => decide (x = ("zip" : Str)) && (glB sc x && (decide (x ∈ T.free) && (okX y && (okX z && (ckE sc top e y && ckE sc top e2 z)))))
  | _, _, _, _, _ => false
end
end
section
variable {T : Tb} {P : Pg} {lv : Nat} {N : List Str}
theorem and1 {a b : Bool} (h : (a && b) = true) : a = true ∧ b = true := Bool.and_eq_true_iff.mp h
theorem ckEs_ok {sc : Scope} {top : Bool} : ∀ {es : Es} {xs : List Expr}, ckEs T lv N sc top es xs = true → xs.all okX = true ∧ es.len = xs.length
  | .nil, [], _ => ⟨rfl, rfl⟩
  | .nil, _ :: _, h => nomatch h
  | .cons _ _, [], h => nomatch h
  | .cons e r, x :: xs, h => by
    obtain ⟨h1, h2⟩ := and1 h
    obtain ⟨h3, h4⟩ := and1 h2
    obtain ⟨i1, i2⟩ := ckEs_ok h4
    exact ⟨by rw [List.all_cons, h1, i1]; rfl, by show r.len + 1 = xs.length + 1; rw [i2]⟩
theorem ckKs_ok {sc : Scope} {top : Bool} : ∀ {es : Es} {xs : List Keyword}, ckKs T lv N sc top es xs = true → es.len = xs.length
  | .nil, [], _ => rfl
  | .nil, _ :: _, h => nomatch h
  | .cons _ _, [], h => nomatch h
  | .cons e r, ⟨nm, x, kp⟩ :: xs, h => by
    obtain ⟨h1, h2⟩ := and1 h
    show r.len + 1 = xs.length + 1
    rw [ckKs_ok h2]
theorem snd_k {X : Cx} {d : D} {ex : Expr} (h : ckK d ex = true) : Snd X P (.k d) ex := by
  cases ex with
  | Constant c k pos =>
    refine Snd.plain ?_ rfl
    cases d with
    | non =>
      cases c with
      | none => exact snd_const pe_non fun _ _ => rfl
      | _ => cases h
    | bl b =>
      cases c with
      | bool c =>
        obtain rfl : b = c := eq_of_beq h
        exact snd_const pe_bl fun _ _ => rfl
      | _ => cases h
    | int i =>
      cases c with
      | int j =>
        obtain rfl : i = j := of_decide_eq_true h
        exact snd_const pe_int fun _ _ => rfl
      | _ => cases h
    | str s =>
      cases c with
      | str z =>
        obtain rfl : s = z := of_decide_eq_true h
        exact snd_const pe_str fun _ _ => rfl
      | _ => cases h
    | _ => cases h
  | _ => cases d <;> cases h
mutual
theorem sndE : ∀ (e : E) (sc : Scope) (top : Bool) (X : Cx) (ex : Expr), GX T P lv N sc top X → ckE T lv N sc top e ex = true → Snd X P e ex
  | .v i, sc, top, X, ex, G, h => by
    cases ex with
    | Name x pos =>
      obtain ⟨h1, h2⟩ := and1 h
      obtain ⟨h2, h3⟩ := and1 h2
      obtain ⟨h3, h4⟩ := and1 h3
      exact Snd.plain (snd_var G (of_decide_eq_true h1) (visB_ok h2) (by simpa using h3) (by simpa using h4)) rfl
    | _ => cases h
  | .k d, sc, top, X, ex, G, h => snd_k h
  | .gl i, sc, top, X, ex, G, h => by
    cases ex with
    | Name x pos =>
      obtain ⟨h1, h2⟩ := and1 h
      obtain ⟨h2, h3⟩ := glB_ok h2
      cases q : T.cons[i]? with
      | none => rw [q] at h1; cases h1
      | some c =>
        rw [q] at h1
        obtain rfl : c.1 = x := of_decide_eq_true h1
        exact Snd.plain (snd_glob G q h2 h3) rfl
    | _ => cases h
  | .op o md a b, sc, top, X, ex, G, h => by
    cases ex with
    | BinOp x o' y pos =>
      obtain ⟨h1, h2⟩ := and1 h
      obtain ⟨h2, h3⟩ := and1 h2
      obtain rfl := opB_ok h1
      exact Snd.plain (snd_op G (sndE a sc top X x G h2) (sndE b sc top X y G h3)) rfl
    | _ => cases h
  | .neg a, sc, top, X, ex, G, h => by
    cases ex with
    | UnaryOp op x pos =>
      cases op with
      | USub => exact Snd.plain (snd_neg G (sndE a sc top X x G h)) rfl
      | _ => cases h
    | _ => cases h
  | .no a, sc, top, X, ex, G, h => by
    cases ex with
    | UnaryOp op x pos =>
      cases op with
      | Not => exact snd_not G (sndE a sc top X x G h)
      | _ => cases h
    | _ => cases h
  | .an a b, sc, top, X, ex, G, h => by
    cases ex with
    | BoolOp op vs pos =>
      cases op with
      | Or => cases h
      | And =>
        match vs, h with
        | [], h => cases h
        | [_], h => cases h
        | [x, y], h =>
          obtain ⟨h1, h2⟩ := and1 h
          obtain ⟨p1, p2⟩ := snd_one (pos := pos) .And (sndE b sc top X y G h2)
          exact snd_and G (sndE a sc top X x G h1) p1 p2
        | x :: y :: z :: r, h =>
          obtain ⟨h1, h2⟩ := and1 h
          obtain ⟨h2, h3⟩ := and1 h2
          have s := sndE b sc top X (.BoolOp .And (y :: z :: r) pos) G h3
          exact snd_and G (sndE a sc top X x G h1) s.pe (s.pw _ _ _ rfl)
    | _ => cases h
  | .or a b, sc, top, X, ex, G, h => by
    cases ex with
    | BoolOp op vs pos =>
      cases op with
      | And => cases h
      | Or =>
        match vs, h with
        | [], h => cases h
        | [_], h => cases h
        | [x, y], h =>
          obtain ⟨h1, h2⟩ := and1 h
          obtain ⟨p1, p2⟩ := snd_one (pos := pos) .Or (sndE b sc top X y G h2)
          exact snd_or G (sndE a sc top X x G h1) p1 p2
        | x :: y :: z :: r, h =>
          obtain ⟨h1, h2⟩ := and1 h
          obtain ⟨h2, h3⟩ := and1 h2
          have s := sndE b sc top X (.BoolOp .Or (y :: z :: r) pos) G h3
          exact snd_or G (sndE a sc top X x G h1) s.pe (s.pw _ _ _ rfl)
    | _ => cases h
  | .cm c a b, sc, top, X, ex, G, h => by
    cases ex with
    | Compare x os ys pos =>
      match os, ys, h with
      | [o], [y], h =>
        obtain ⟨h1, h2⟩ := and1 h
        obtain ⟨h2, h3⟩ := and1 h2
        obtain ⟨h3, h4⟩ := and1 h3
        obtain rfl := cmB_ok h1
        exact snd_cm G (sndE a sc top X x G h3) (sndE b sc top X y G h4) h2
      | [], _, h => cases h
      | [_], [], h => cases h
      | [_], _ :: _ :: _, h => cases h
      | _ :: _ :: _, _, h => cases h
    | _ => cases h
  | .ch a c b c2 d, sc, top, X, ex, G, h => by
    cases ex with
    | Compare x os ys pos =>
      match os, ys, h with
      | [o, o2], [y, z], h =>
        obtain ⟨h1, h2⟩ := and1 h
        obtain ⟨h2, h3⟩ := and1 h2
        obtain ⟨h3, h4⟩ := and1 h3
        obtain ⟨h4, h5⟩ := and1 h4
        obtain ⟨h5, h6⟩ := and1 h5
        obtain ⟨h6, h7⟩ := and1 h6
        obtain rfl := cmB_ok h1
        obtain rfl := cmB_ok h2
        exact snd_ch G (sndE a sc top X x G h5) (sndE b sc top X y G h6) (sndE d sc top X z G h7) h3 h4
      | [], _, h => cases h
      | [_], _, h => cases h
      | [_, _], [], h => cases h
      | [_, _], [_], h => cases h
      | [_, _], _ :: _ :: _ :: _, h => cases h
      | _ :: _ :: _ :: _, _, h => cases h
    | _ => cases h
  | .ite c a b, sc, top, X, ex, G, h => by
    cases ex with
    | IfExp x y z pos =>
      obtain ⟨h1, h2⟩ := and1 h
      obtain ⟨h2, h3⟩ := and1 h2
      exact snd_ite G (sndE c sc top X x G h1) (sndE a sc top X y G h2) (sndE b sc top X z G h3)
    | _ => cases h
  | .tup es, sc, top, X, ex, G, h => by
    cases ex with
    | Tuple xs k pos => exact Snd.plain (snd_tup (sndEs es sc top X xs G h)) rfl
    | _ => cases h
  | .lst md es, sc, top, X, ex, G, h => by
    cases ex with
    | List xs pos => exact Snd.plain (snd_lst (sndEs es sc top X xs G h)) rfl
    | _ => cases h
  | .ix a i, sc, top, X, ex, G, h => by
    cases ex with
    | Subscript x y pos =>
      obtain ⟨h1, h2⟩ := and1 h
      obtain ⟨h2, h3⟩ := and1 h2
      exact Snd.plain (snd_ix G.hu1 (sndE a sc top X x G h2) (sndE i sc top X y G h3) h1) rfl
    | _ => cases h
  | .lrg tp md es, sc, top, X, ex, G, h => by
    match es, ex, h with
    | .cons e .nil, .Call (.Name f p2) [.Call (.Name r p) [x] [] pos] [] pos2, h =>
      obtain ⟨h1, k1⟩ := and1 h
      obtain ⟨h2, k2⟩ := and1 k1
      obtain ⟨h3, k3⟩ := and1 k2
      obtain ⟨h4, k4⟩ := and1 k3
      obtain ⟨h5, k5⟩ := and1 k4
      obtain ⟨h6, k6⟩ := and1 k5
      obtain ⟨h7, k7⟩ := and1 k6
      obtain rfl : r = "range" := of_decide_eq_true h1
      exact Snd.plain (snd_lrg1 G (sndE e sc top X x G k7).pe (of_decide_eq_true h2) (glB_ok h3).1 (glB_ok h4).1 (of_decide_eq_true h5) (of_decide_eq_true h6) h7) rfl
    | .cons e (.cons e2 .nil), .Call (.Name f p2) [.Call (.Name r p) [x, y] [] pos] [] pos2, h =>
      obtain ⟨h1, k1⟩ := and1 h
      obtain ⟨h2, k2⟩ := and1 k1
      obtain ⟨h3, k3⟩ := and1 k2
      obtain ⟨h4, k4⟩ := and1 k3
      obtain ⟨h5, k5⟩ := and1 k4
      obtain ⟨h6, k6⟩ := and1 k5
      obtain ⟨h7, k7⟩ := and1 k6
      obtain ⟨h8, k8⟩ := and1 k7
      obtain ⟨h9, k9⟩ := and1 k8
      obtain rfl : r = "range" := of_decide_eq_true h1
      exact Snd.plain (snd_lrg2 G (sndE e sc top X x G h9).pe (sndE e2 sc top X y G k9).pe (of_decide_eq_true h2) (glB_ok h3).1 (glB_ok h4).1 (of_decide_eq_true h5) (of_decide_eq_true h6) h7 h8) rfl
  | .dis ks es, sc, top, X, ex, G, h => by
    cases ex with
    | Dict keys vals pos =>
      obtain ⟨h1, h2⟩ := and1 h
      obtain ⟨h3, h4⟩ := and1 h1
      exact Snd.plain (snd_dis (sndDs es ks sc top X keys vals G h2) (by intro z; subst z; cases h3) (Nat.le_of_ble_eq_true h4)) rfl
    | _ => cases h
  | .sl md a lo hi, sc, top, X, ex, G, h => by
    cases ex with
    | Subscript x y pos =>
      cases y with
      | Slice xl xh st p2 =>
        cases st with
        | none =>
          obtain ⟨h1, h2⟩ := and1 h
          obtain ⟨h2, h3⟩ := and1 h2
          exact Snd.plain (snd_sl (sndE a sc top X x G h1).pe (sndO lo sc top X xl G h2) (sndO hi sc top X xh G h3)) rfl
        | some _ => cases h
      | _ => cases h
    | _ => cases h
  | .rev md a, sc, top, X, ex, G, h => by
    have hx : ∃ x k p1 p2 p3 pos, ex = .Subscript x (.Slice none none (some (.UnaryOp .USub (.Constant (.int 1) k p1) p2)) p3) pos ∧ ckE T lv N sc top a x = true := by
      unfold ckE at h
      split at h <;> first | (cases h; done) | skip
      all_goals (try rename_i heq; try cases heq)
      all_goals first
        | exact ⟨_, _, _, _, _, _, rfl, h⟩
        | contradiction
    obtain ⟨x, k, p1, p2, p3, pos, rfl, h⟩ := hx
    exact Snd.plain (snd_rev (sndE a sc top X x G h).pe) rfl
  | .call j pm es ks, sc, top, X, ex, G, h => by
    cases ex with
    | Call f xs kws pos =>
      cases f with
      | Name x p =>
        obtain ⟨h1, k2⟩ := and1 h
        obtain ⟨h2, k3⟩ := and1 k2
        obtain ⟨h3, k4⟩ := and1 k3
        obtain ⟨h4, k5⟩ := and1 k4
        obtain ⟨h5, h6⟩ := and1 k5
        obtain ⟨g1, g2⟩ := glB_ok h3
        cases q : T.defs[j]? with
        | none => rw [q] at h1; cases h1
        | some dd =>
          rw [q] at h1
          obtain ⟨h7, h8⟩ := and1 h1
          obtain rfl : dd.1 = x := of_decide_eq_true h7
          cases q2 : kwN kws with
          | none => rw [q2] at h6; cases h6
          | some kn =>
            rw [q2] at h6
            obtain ⟨o1, o2⟩ := ckEs_ok h4
            exact Snd.plain (snd_call G q (of_decide_eq_true h2) g1 g2 (sndEs es sc top X xs G h4) (sndKs ks sc top X kws G h5) o1 q2 (of_decide_eq_true h6) o2 (ckKs_ok h5) (of_decide_eq_true h8)) rfl
      | _ => cases h
    | _ => cases h
  | .bi b md es, sc, top, X, ex, G, h => by
    cases ex with
    | Call f xs kws pos =>
      cases f with
      | Name x p =>
        cases xs with
        | nil => cases h
        | cons x0 xs =>
          cases kws with
          | cons _ _ => cases h
          | nil =>
            obtain ⟨h1, h2⟩ := and1 h
            obtain ⟨h2, h3⟩ := and1 h2
            obtain ⟨h3, h4⟩ := and1 h3
            obtain rfl : x = biName b := of_decide_eq_true h1
            obtain ⟨g1, g2⟩ := glB_ok h2
            exact Snd.plain (snd_bi G (sndEs es sc top X (x0 :: xs) G h4) g1 (of_decide_eq_true h3) (ckEs_ok h4).1) rfl
      | _ => cases xs <;> cases h
    | _ => cases h
  | .me m o es, sc, top, X, ex, G, h => by
    cases ex with
    | Call f xs kws pos =>
      cases f with
      | Attribute x nm ap =>
        match es, xs, kws, h with
        | .nil, [], [], h =>
          obtain ⟨h1, h2⟩ := and1 h
          obtain ⟨h2, h3⟩ := and1 h2
          obtain ⟨h3, h4⟩ := and1 h3
          obtain ⟨h4, h5⟩ := and1 h4
          obtain rfl : nm = meName m := of_decide_eq_true h2
          exact Snd.plain (snd_me0 m (by cases m <;> first | rfl | cases h1) (sndE o sc top X x G h5).pe h3 h4) rfl
        | .cons e .nil, [y], [], h =>
          obtain ⟨h1, h2⟩ := and1 h
          obtain ⟨h2, h3⟩ := and1 h2
          obtain ⟨h3, h4⟩ := and1 h3
          obtain ⟨h4, h5⟩ := and1 h4
          obtain ⟨h5, h6⟩ := and1 h5
          obtain ⟨h6, h7⟩ := and1 h6
          obtain rfl : nm = meName m := of_decide_eq_true h2
          exact Snd.plain (snd_me1 m (by cases m <;> first | rfl | cases h1) (sndE o sc top X x G h6).pe (sndE e sc top X y G h7).pe h3 h4 h5) rfl
        | .nil, _ :: _, _, h => cases h
        | .nil, [], _ :: _, h => cases h
        | .cons _ .nil, [], _, h => cases h
        | .cons _ .nil, [_], _ :: _, h => cases h
        | .cons _ .nil, _ :: _ :: _, _, h => cases h
        | .cons _ (.cons _ _), _, _, h => cases h
      | _ => cases es with
        | nil => cases h
        | cons _ r => cases r <;> cases h
    | _ => cases es with
      | nil => cases h
      | cons _ r => cases r <;> cases h
  | .co md t it c e own, sc, top, X, ex, G, h => by
    have hx : ∃ x tg iter ifs scope pos, ex = .ListComp x [⟨tg, iter, ifs, 0⟩] scope pos ∧ (ckI T lv N sc top it tg iter && (okX iter && (ckT N (relS scope sc) false t tg && (ckC T lv N (relS scope sc) false c ifs && (ckE T lv N (relS scope sc) false e x && (blkC N sc scope (ownN N own) && (slotsT t).all (fun i => own.contains i))))))) = true := by
      unfold ckE at h
      split at h <;> first | (cases h; done) | skip
      all_goals (try rename_i heq; try cases heq)
      all_goals first
        | exact ⟨_, _, _, _, _, _, rfl, h⟩
        | contradiction
    obtain ⟨x, tg, iter, ifs, scope, pos, rfl, h⟩ := hx
    obtain ⟨h1, h2⟩ := and1 h
    obtain ⟨h2, h3⟩ := and1 h2
    obtain ⟨h3, h4⟩ := and1 h3
    obtain ⟨h4, h5⟩ := and1 h4
    obtain ⟨h5, h6⟩ := and1 h5
    obtain ⟨h6, h7⟩ := and1 h6
    have ok := blkOk_by h6
    have hs : ∀ i ∈ slotsT t, i ∈ own := fun i hi => by simpa using List.all_eq_true.mp h7 i hi
    refine Snd.plain (PEimp (pe_lc (own := ownN N own) (wi := rdI X.K (evI P it)) (g := gD X.K t) (tt := rdT X.K (evC P c)) (te := rd X.K (evE P e)) G.calm (by rw [G.hN]; exact G.nd) (sndI it sc top X tg iter G h1) (by rw [G.hN, G.sco]; exact ok)
      (fun s H C cl fp => sndT (G.blk ok.kind s H C cl fp) t tg h3) (fun s H C cl fp => sndC c _ false _ ifs (G.blk ok.kind s H C cl fp) h4)
      (fun s H C cl fp => (sndE e _ false _ x (G.blk ok.kind s H C cl fp) h5).pe) (folded_ok h2)) fun σ H Q q => ?_) rfl
    rw [ownN_slots]
    exact coL_read hs σ H Q q
theorem sndEs : ∀ (es : Es) (sc : Scope) (top : Bool) (X : Cx) (xs : List Expr), GX T P lv N sc top X → ckEs T lv N sc top es xs = true → PA X xs (rdA X.K (evEs P es))
  | .nil, sc, top, X, xs, G, h => by
    cases xs with
    | nil => exact snd_nil
    | cons _ _ => cases h
  | .cons e r, sc, top, X, xs, G, h => by
    cases xs with
    | nil => cases h
    | cons x xs =>
      obtain ⟨h1, h2⟩ := and1 h
      obtain ⟨h2, h3⟩ := and1 h2
      exact snd_cons (sndE e sc top X x G h2).pe (sndEs r sc top X xs G h3) h1
theorem sndKs : ∀ (es : Es) (sc : Scope) (top : Bool) (X : Cx) (xs : List Keyword), GX T P lv N sc top X → ckKs T lv N sc top es xs = true → PK X xs (rdA X.K (evEs P es))
  | .nil, sc, top, X, xs, G, h => by
    cases xs with
    | nil => exact snd_knil
    | cons _ _ => cases h
  | .cons e r, sc, top, X, xs, G, h => by
    cases xs with
    | nil => cases h
    | cons x xs =>
      obtain ⟨nm, x, kp⟩ := x
      obtain ⟨h2, h3⟩ := and1 h
      exact snd_kcons (sndE e sc top X x G h2).pe (sndKs r sc top X xs G h3)
theorem sndO : ∀ (o : Oe) (sc : Scope) (top : Bool) (X : Cx) (x : Option Expr), GX T P lv N sc top X → ckO T lv N sc top o x = true → PO X x (rdO X.K (evO P o))
  | .no, sc, top, X, x, G, h => by
    cases x with
    | none => exact snd_ono
    | some _ => cases h
  | .so e, sc, top, X, x, G, h => by
    cases x with
    | none => cases h
    | some x => exact snd_oso (sndE e sc top X x G h).pe
theorem sndC : ∀ (o : Oe) (sc : Scope) (top : Bool) (X : Cx) (xs : List Expr), GX T P lv N sc top X → ckC T lv N sc top o xs = true → PTs X xs (rdT X.K (evC P o))
  | .no, sc, top, X, xs, G, h => by
    cases xs with
    | nil =>
      refine ⟨fun pins s σ H Q I q => pts_nil.run pins s σ H Q I ?_⟩
      obtain ⟨A, w, S, b, w', e, q⟩ := q
      cases e
      exact q A H (Step.refl A H) S
    | cons _ _ => cases h
  | .so e, sc, top, X, xs, G, h => by
    match xs, h with
    | [], h => cases h
    | [x], h => exact pts_one (sndE e sc top X x G h).pt
    | _ :: _ :: _, h => cases h
theorem sndDs : ∀ (es : Es) (ks : List Str) (sc : Scope) (top : Bool) (X : Cx) (keys : List (Option Expr)) (vals : List Expr), GX T P lv N sc top X → ckDs T lv N sc top ks es keys vals = true → PrOk X P ks es keys vals
  | .nil, ks, sc, top, X, keys, vals, G, h => by
    match ks, keys, vals, h with
    | [], [], [], h => exact .nil
    | [], [], _ :: _, h => cases h
    | [], _ :: _, _, h => cases h
    | _ :: _, [], _, h => cases h
    | _ :: _, none :: _, _, h => cases h
    | _ :: _, some k :: _, vals, h => cases k <;> first | (cases h; done) | (rename_i c _ _; cases c <;> first | (cases h; done) | (cases vals <;> cases h))
  | .cons e r, ks, sc, top, X, keys, vals, G, h => by
    match ks, keys, vals, h with
    | k :: ks, some (.Constant (.str x) _ _) :: keys, v :: vals, h =>
      obtain ⟨h1, h2⟩ := and1 h
      obtain ⟨h2, h3⟩ := and1 h2
      have e1 := of_decide_eq_true h1
      subst e1
      exact .cons (sndE e sc top X _ G h2).pe (sndDs r _ sc top X _ _ G h3)
theorem sndI : ∀ (it : It) (sc : Scope) (top : Bool) (X : Cx) (tg iter : Expr), GX T P lv N sc top X → ckI T lv N sc top it tg iter = true → PI X tg iter (rdI X.K (evI P it))
  | .seq e, sc, top, X, tg, iter, G, h => snd_iseq (sndE e sc top X iter G h).pe
  | .rng es, sc, top, X, tg, iter, G, h => by
    cases iter with
    | Call f xs kws pos =>
      cases f with
      | Name x p =>
        match es, xs, kws, h with
        | .cons e .nil, [y], [], h =>
          obtain ⟨h1, h2⟩ := and1 h
          obtain ⟨h2, h3⟩ := and1 h2
          obtain ⟨h3, h4⟩ := and1 h3
          obtain ⟨h4, h5⟩ := and1 h4
          obtain rfl : x = "range" := of_decide_eq_true h1
          exact snd_rng1 G (sndE e sc top X y G h5).pe (glB_ok h2).1 (of_decide_eq_true h3) h4
        | .cons e (.cons e2 .nil), [y, z], [], h =>
          obtain ⟨h1, h2⟩ := and1 h
          obtain ⟨h2, h3⟩ := and1 h2
          obtain ⟨h3, h4⟩ := and1 h3
          obtain ⟨h4, h5⟩ := and1 h4
          obtain ⟨h5, h6⟩ := and1 h5
          obtain ⟨h6, h7⟩ := and1 h6
          obtain rfl : x = "range" := of_decide_eq_true h1
          exact snd_rng2 G (sndE e sc top X y G h6).pe (sndE e2 sc top X z G h7).pe (glB_ok h2).1 (of_decide_eq_true h3) h4 h5
        | .cons e (.cons e2 (.cons e3 .nil)), [y, z, z2], [], h =>
          obtain ⟨h1, h2⟩ := and1 h
          obtain ⟨h2, h3⟩ := and1 h2
          obtain ⟨h3, h4⟩ := and1 h3
          obtain ⟨h4, h5⟩ := and1 h4
          obtain ⟨h5, h6⟩ := and1 h5
          obtain ⟨h6, h7⟩ := and1 h6
          obtain ⟨h7, h8⟩ := and1 h7
          obtain ⟨h8, h9⟩ := and1 h8
          obtain rfl : x = "range" := of_decide_eq_true h1
          exact snd_rng3 G (sndE e sc top X y G h7).pe (sndE e2 sc top X z G h8).pe (sndE e3 sc top X z2 G h9).pe (glB_ok h2).1 (of_decide_eq_true h3) h4 h5 h6
        | .nil, _, _, h => cases h
        | .cons _ .nil, [], _, h => cases h
        | .cons _ .nil, [_], _ :: _, h => cases h
        | .cons _ .nil, _ :: _ :: _, _, h => cases h
        | .cons _ (.cons _ .nil), [], _, h => cases h
        | .cons _ (.cons _ .nil), [_], _, h => cases h
        | .cons _ (.cons _ .nil), [_, _], _ :: _, h => cases h
        | .cons _ (.cons _ .nil), _ :: _ :: _ :: _, _, h => cases h
        | .cons _ (.cons _ (.cons _ .nil)), [], _, h => cases h
        | .cons _ (.cons _ (.cons _ .nil)), [_], _, h => cases h
        | .cons _ (.cons _ (.cons _ .nil)), [_, _], _, h => cases h
        | .cons _ (.cons _ (.cons _ .nil)), [_, _, _], _ :: _, h => cases h
        | .cons _ (.cons _ (.cons _ .nil)), _ :: _ :: _ :: _ :: _, _, h => cases h
        | .cons _ (.cons _ (.cons _ (.cons _ _))), _, _, h => cases h
      | _ => 
        exfalso
        unfold ckI at h
        split at h <;> first | (cases h; done) | (rename_i heq; cases heq)
    | _ => 
      exfalso
      unfold ckI at h
      split at h <;> first | (cases h; done) | (rename_i heq; cases heq)
  | .enu e, sc, top, X, tg, iter, G, h => by
    have hx : ∃ elts kk tp x p y pos, tg = .Tuple elts kk tp ∧ iter = .Call (.Name x p) [y] [] pos ∧ (decide (x = ("enumerate" : Str)) && (glB sc x && (decide (x ∈ T.free) && (okX y && ckE T lv N sc top e y)))) = true := by
      unfold ckI at h
      split at h
      all_goals (try (rename_i heq; cases heq; done))
      all_goals first
        | (cases h; done)
        | (rename_i heq _; cases heq; exact ⟨_, _, _, _, _, _, _, rfl, rfl, h⟩)
        | (rename_i heq; cases heq; exact ⟨_, _, _, _, _, _, _, rfl, rfl, h⟩)
    obtain ⟨elts, kk, tp, x, p, y, pos, rfl, rfl, h⟩ := hx
    obtain ⟨h1, h2⟩ := and1 h
    obtain ⟨h2, h3⟩ := and1 h2
    obtain ⟨h3, h4⟩ := and1 h3
    obtain ⟨h4, h5⟩ := and1 h4
    obtain rfl : x = "enumerate" := of_decide_eq_true h1
    exact snd_enu G (sndE e sc top X y G h5).pe (glB_ok h2).1 (of_decide_eq_true h3) h4
  | .zip e e2, sc, top, X, tg, iter, G, h => by
    have hx : ∃ elts kk tp x p y z pos, tg = .Tuple elts kk tp ∧ iter = .Call (.Name x p) [y, z] [] pos ∧ (decide (x = ("zip" : Str)) && (glB sc x && (decide (x ∈ T.free) && (okX y && (okX z && (ckE T lv N sc top e y && ckE T lv N sc top e2 z)))))) = true := by
      unfold ckI at h
      split at h
      all_goals (try (rename_i heq; cases heq; done))
      all_goals first
        | (cases h; done)
        | (rename_i heq _; cases heq; exact ⟨_, _, _, _, _, _, _, _, rfl, rfl, h⟩)
        | (rename_i heq; cases heq; exact ⟨_, _, _, _, _, _, _, _, rfl, rfl, h⟩)
    obtain ⟨elts, kk, tp, x, p, y, z, pos, rfl, rfl, h⟩ := hx
    obtain ⟨h1, h2⟩ := and1 h
    obtain ⟨h2, h3⟩ := and1 h2
    obtain ⟨h3, h4⟩ := and1 h3
    obtain ⟨h4, h5⟩ := and1 h4
    obtain ⟨h5, h6⟩ := and1 h5
    obtain ⟨h6, h7⟩ := and1 h6
    obtain rfl : x = "zip" := of_decide_eq_true h1
    exact snd_zip G (sndE e sc top X y G h6).pe (sndE e2 sc top X z G h7).pe (glB_ok h2).1 (of_decide_eq_true h3) h4 h5
end
end
end Fz

/-! Q15: statements. -/
namespace Fz
open PySem PySem.Spec PyProof.Rows L2

/-- what is wanted behind a statement's run -/
def EndD (K : PySem.W.Frag) (A : Ad) (H : Hp) (fl : Fl) (w' : Wd) (D : Ends) : Prop := match fl with
  | .nx => ∀ A' σ' H', Step A H A' H' → Sim K H' A' w' σ' → D.nx σ' H'
  | .bk => ∀ A' σ' H', Step A H A' H' → Sim K H' A' w' σ' → D.bk σ' H'
  | .ct => ∀ A' σ' H', Step A H A' H' → Sim K H' A' w' σ' → D.ct σ' H'
  | .rt d => ∀ A' v σ' H', Step A H A' H' → Sim K H' A' w' σ' → RD K H' A' d v → D.rt v H'
def rdS (K : PySem.W.Frag) (f : Wd → R (Fl × Wd)) : TS := fun D σ H => ∃ A w, Sim K H A w σ ∧ ∃ fl w', f w = .ok (fl, w') ∧ EndD K A H fl w' D
theorem PSimp {X : Cx} {e : Stmt} {t t' : TS} (h : PS X e t) (i : ∀ D σ H, t' D σ H → t D σ H) : PS X e t' := ⟨fun pins s σ H D I q => h.run pins s σ H D I (i D σ H q)⟩
theorem PSsimp {X : Cx} {e : List Stmt} {t t' : TS} (h : PSs X e t) (i : ∀ D σ H, t' D σ H → t D σ H) : PSs X e t' := ⟨fun pins s σ H D I q => h.run pins s σ H D I (i D σ H q)⟩
theorem EndD.step {K : PySem.W.Frag} {A A1 : Ad} {H H1 : Hp} {fl : Fl} {w' : Wd} {D : Ends} (q : EndD K A H fl w' D) (s : Step A H A1 H1) : EndD K A1 H1 fl w' D := by
  cases fl with
  | nx => exact fun A' σ' H' s' S => q A' σ' H' (s.trans s') S
  | bk => exact fun A' σ' H' s' S => q A' σ' H' (s.trans s') S
  | ct => exact fun A' σ' H' s' S => q A' σ' H' (s.trans s') S
  | rt d => exact fun A' v σ' H' s' S r => q A' v σ' H' (s.trans s') S r

/-! ### a loop's turn ends: names forgotten, own lists frozen -/
section
variable {K : PySem.W.Frag} {H : Hp} {A : Ad} {w : Wd} {σ : Sl}
theorem nodupA {l : List Addr} (h : l.Nodup) {i j : Nat} {x : Addr} (a : l[i]? = some x) (b : l[j]? = some x) : i = j := by
  obtain ⟨h1, e1⟩ := List.getElem?_eq_some_iff.mp a
  obtain ⟨h2, e2⟩ := List.getElem?_eq_some_iff.mp b
  exact (List.getElem_inj h).mp (e1.trans e2.symm)
theorem Sim.kill (S : Sim K H A w σ) (vs : List Nat) : Sim K H A { w with σ := wipeD w.σ vs } σ := by
  refine ⟨fun i d e => ?_, (wipeD_length _ _).trans S.len, S.mu, S.ga, S.nd, S.ndg, S.dj, S.djg, S.bt, S.cnt, S.cnd, S.gk⟩
  have e : (wipeD w.σ vs)[i]? = some (some d) := e
  rw [wipeD_get] at e
  by_cases h : i ∈ vs
  · rw [if_pos h] at e
    cases q : w.σ[i]? <;> rw [q] at e <;> cases e
  · rw [if_neg h] at e
    exact S.loc i d e
theorem keepO_ok {L : Nat} {m : List (List D)} : ∀ {σ σ' : List (Option D)}, keepO L m σ = some σ' → σ'.length = σ.length ∧ ∀ (i : Nat) d, σ'[i]? = some (some d) → ∃ d0, σ[i]? = some (some d0) ∧ rs (keep L m) true d0 = some d
  | [], _, e => by cases e; exact ⟨rfl, fun i d e => by simp at e⟩
  | none :: r, _, e => by
    obtain ⟨xs, e1, rfl⟩ := Option.map_eq_some_iff.mp (show (keepO L m r).map (fun xs => none :: xs) = some _ from e)
    obtain ⟨h1, h2⟩ := keepO_ok e1
    refine ⟨by rw [List.length_cons, List.length_cons, h1], fun i d e => ?_⟩
    cases i with
    | zero => simp at e
    | succ i => exact h2 i d (by simpa using e)
  | some x :: r, _, e => by
    obtain ⟨y, e0, e⟩ := Option.bind_eq_some_iff.mp (show (rs (keep L m) true x).bind (fun y => (keepO L m r).map fun xs => some y :: xs) = some _ from e)
    obtain ⟨xs, e1, rfl⟩ := Option.map_eq_some_iff.mp e
    obtain ⟨h1, h2⟩ := keepO_ok e1
    refine ⟨by rw [List.length_cons, List.length_cons, h1], fun i d e => ?_⟩
    cases i with
    | zero =>
      have ed : y = d := by simpa using e
      subst ed
      exact ⟨x, rfl, e0⟩
    | succ i => exact h2 i d (by simpa using e)
theorem Sim.gc {L : Nat} {w' : Wd} (S : Sim K H A w σ) (e : w.gc L = some w') : Sim K H { A with mu := A.mu.take L } w' σ ∧ w'.g = w.g := by
  unfold Wd.gc at e
  simp only [Option.bind_eq_some_iff, Option.map_eq_some_iff] at e
  obtain ⟨σ1, e1, m1, e2, rfl⟩ := e
  have ho : ∀ a, A.out a → ({ A with mu := A.mu.take L } : Ad).out a := fun a h => ⟨fun z => h.1 (List.mem_of_mem_take z), h.2.1, h.2.2⟩
  have hk : ∀ (k : Nat) a d', keep L w.m k = some d' → A.mu[k]? = some a → RD K H { A with mu := A.mu.take L } d' (.ref a) := fun k a d' h1 h2 => by
    refine up_rd S ho (fun a _ h => h) rfl (fun k a hl h => ?_) (fun k a ys vs hl h1 h2 h3 => ?_) 4 k a d' h1 h2
    · rw [List.getElem?_take_of_lt hl]
      exact h
    · refine ⟨a, vs, rfl, h2, ⟨fun z => ?_, (S.dj a (List.mem_of_getElem? h1)).1, fun z => (S.cnd a z).1 (List.mem_of_getElem? h1)⟩, (S.dj a (List.mem_of_getElem? h1)).2, h3⟩
      obtain ⟨j, hj⟩ := List.getElem?_of_mem z
      have hj2 : j < L := by
        obtain ⟨l, _⟩ := List.getElem?_eq_some_iff.mp hj
        rw [List.length_take] at l
        omega
      rw [List.getElem?_take_of_lt hj2] at hj
      have := nodupA S.nd hj h1
      omega
  have hL : ∀ (ds es : List D) (vs : List V), rsL (keep L w.m) true ds = some es → RDs K H A ds vs → RDs K H { A with mu := A.mu.take L } es vs := fun ds es vs e r => rsL_rd hk ho (fun a _ h => h) rfl ds vs es e r
  refine ⟨⟨fun i d e => ?_, (keepO_ok e1).1.trans S.len, ?_, ?_, S.nd.sublist (List.take_sublist _ _), S.ndg, fun a h => S.dj a (List.mem_of_mem_take h), S.djg, S.bt, S.cnt, fun a h => ⟨fun z => (S.cnd a h).1 (List.mem_of_mem_take z), (S.cnd a h).2⟩, S.gk⟩, rfl⟩
  · obtain ⟨d0, h1, h2⟩ := (keepO_ok e1).2 i d e
    obtain ⟨v, h3, r⟩ := S.loc i d0 h1
    exact ⟨v, h3, rs_rd hk ho (fun a _ h => h) rfl d0 v d h2 r⟩
  · -- the own lists that stay
    have go : ∀ {as : List Addr} {ms ms' : List (List D)} (n : Nat), RL K H A as ms → keepM L w.m (ms.take n) = some ms' → RL K H { A with mu := A.mu.take L } (as.take n) ms' := fun {as} => by
      induction as with
      | nil =>
        intro ms ms' n h e
        rw [show ms = [] from h, List.take_nil] at e
        cases e
        rw [List.take_nil]
        exact rfl
      | cons a as ih =>
        intro ms ms' n h e
        obtain ⟨xs, r, vs, rfl, h1, h2, h3⟩ := h
        cases n with
        | zero => cases e; exact rfl
        | succ n =>
          rw [List.take_succ_cons] at e ⊢
          obtain ⟨ys, e3, e⟩ := Option.bind_eq_some_iff.mp (show (rsL (keep L w.m) true xs).bind (fun y => (keepM L w.m (r.take n)).map fun zs => y :: zs) = some ms' from e)
          obtain ⟨zs, e4, rfl⟩ := Option.map_eq_some_iff.mp e
          exact ⟨ys, zs, vs, rfl, h1, hL xs ys vs e3 h2, ih n h3 e4⟩
    exact go L S.mu e2
  · exact RL.gok (A := A) (A' := { A with mu := A.mu.take L }) (fun _ _ h _ => h) (.inl rfl) (fun _ h => h) S.gk S.ga
theorem post_ok {A0 : Ad} {H0 : Hp} {kill : List Nat} {gc : Bool} {L : Nat} {w' : Wd} (s : Step A0 H0 A H) (S : Sim K H A w σ) (e : postF kill gc L w = some w') (hL : L = A0.mu.length) : ∃ A', Step A0 H0 A' H ∧ Sim K H A' w' σ ∧ w'.g = w.g := by
  unfold postF at e
  have S1 := S.kill kill
  cases gc with
  | false =>
    cases e
    exact ⟨A, s, S1, rfl⟩
  | true =>
    obtain ⟨S2, hg⟩ := S1.gc (show (Wd.gc { w with σ := wipeD w.σ kill } L) = some w' from e)
    refine ⟨{ A with mu := A.mu.take L }, ⟨⟨fun a o h x => ?_, s.tup, s.frz, fun k a h => ?_, s.ga, s.bad⟩, s.cn, s.cnk⟩, S2, hg⟩
    · obtain ⟨q, y⟩ := s.kept a o h x
      exact ⟨q, fun z => y.1 (List.mem_of_mem_take z), y.2⟩
    · have hk : k < L := by
        rw [hL]
        exact (List.getElem?_eq_some_iff.mp h).1
      show (A.mu.take L)[k]? = some a
      rw [List.getElem?_take_of_lt hk]
      exact s.mu k a h
end
section
variable {T : Tb} {P : Pg} {lv : Nat} {N : List Str} {sc : Scope} {X : Cx}
/-! ### simple statements -/
def noComp : Expr → Bool
  | .ListComp _ _ _ _ => false
  | .SetComp _ _ _ _ => false
  | .DictComp _ _ _ _ _ => false
  | _ => true
theorem swaps_no {e : Expr} {t : Option Expr} {l : Nat} {env : Env} (h : noComp e = true) : swapsWith e t l env = pure false := by
  cases e <;> first | rfl | cases h
theorem snd_ex {e : E} {x : Expr} {pos : Pos} (h : PE X x (rd X.K (evE P e))) (hc : noComp x = true) : PS X (.Expr x pos) (rdS X.K (exS P (.ex e))) := by
  refine PSimp (ps_expr h (swaps_no hc)) fun D σ H q => ?_
  obtain ⟨A, w, S, fl, w', e1, q⟩ := q
  obtain ⟨x, ea, e1⟩ := bd_split e1
  cases e1
  exact ⟨A, w, S, x.1, x.2, ea, fun A1 v H1 s1 S1 r1 => q A1 σ H1 s1 S1⟩
theorem snd_ret {e : E} {x : Expr} {pos : Pos} (h : PE X x (rd X.K (evE P e))) : PS X (.Return (some x) pos) (rdS X.K (exS P (.ret e))) := by
  refine PSimp (ps_ret h) fun D σ H q => ?_
  obtain ⟨A, w, S, fl, w', e1, q⟩ := q
  obtain ⟨x, ea, e1⟩ := bd_split e1
  cases e1
  exact ⟨A, w, S, x.1, x.2, ea, fun A1 v H1 s1 S1 r1 => q A1 v σ H1 s1 S1 r1⟩
theorem snd_retn {pos : Pos} : PS X (.Return none pos) (rdS X.K (exS P .retn)) := by
  refine PSimp ps_retN fun D σ H q => ?_
  obtain ⟨A, w, S, fl, w', e1, q⟩ := q
  cases e1
  exact q A .non σ H (Step.refl A H) S rfl
theorem snd_brk {pos : Pos} : PS X (.Break pos) (rdS X.K (exS P .brk)) := by
  refine PSimp ps_break fun D σ H q => ?_
  obtain ⟨A, w, S, fl, w', e1, q⟩ := q
  cases e1
  exact q A σ H (Step.refl A H) S
theorem snd_cnt {pos : Pos} : PS X (.Continue pos) (rdS X.K (exS P .cnt)) := by
  refine PSimp ps_continue fun D σ H q => ?_
  obtain ⟨A, w, S, fl, w', e1, q⟩ := q
  cases e1
  exact q A σ H (Step.refl A H) S
theorem snd_pas {pos : Pos} : PS X (.Pass pos) (rdS X.K (exS P .pas)) := by
  refine PSimp ps_pass fun D σ H q => ?_
  obtain ⟨A, w, S, fl, w', e1, q⟩ := q
  cases e1
  exact q A σ H (Step.refl A H) S
theorem snd_dead {st : Stmt} : PS X st (rdS X.K (exS P .dead)) := by
  refine PSimp ps_never fun D σ H q => ?_
  obtain ⟨A, w, S, fl, w', e1, q⟩ := q
  cases e1
theorem snd_if {c : E} {a b : List S} {x : Expr} {xs ys : List Stmt} {pos : Pos} (hc : PT X x (rdT X.K (evT P c))) (ha : PSs X xs (rdS X.K (exB P a))) (hb : PSs X ys (rdS X.K (exB P b))) : PS X (.If x xs ys pos) (rdS X.K (exS P (.ite c a b))) := by
  refine PSimp (ps_if hc ha hb) fun D σ H q => ?_
  obtain ⟨A, w, S, fl, w', e1, q⟩ := q
  obtain ⟨x, ea, e1⟩ := bd_split e1
  refine ⟨A, w, S, x.1, x.2, ea, fun A1 H1 s1 S1 => ?_⟩
  cases hx : x.1 with
  | true =>
    rw [hx, if_pos rfl] at e1
    rw [if_pos rfl]
    exact ⟨A1, x.2, S1, fl, w', e1, q.step s1⟩
  | false =>
    rw [hx, if_neg Bool.false_ne_true] at e1
    rw [if_neg Bool.false_ne_true]
    exact ⟨A1, x.2, S1, fl, w', e1, q.step s1⟩
/-- target = value, plainly -/
theorem set_read {t : Tg} {f : Wd → R (D × Wd)} (D : Ends) (σ : Sl) (H : Hp) (q : rdS X.K (fun w => (f w).bd fun x => (R.of (asg t x.1 x.2)).bd fun w' => .ok (.nx, w')) D σ H) : tAsg (rd X.K f) (gD X.K t) D σ H := by
  obtain ⟨A, w, S, fl, w', e1, q⟩ := q
  obtain ⟨x, ea, e1⟩ := bd_split e1
  obtain ⟨w2, eb, e1⟩ := bd_split e1
  cases e1
  exact ⟨A, w, S, x.1, x.2, ea, fun A1 v H1 s1 S1 r1 => ⟨A1, x.2, x.1, w', S1, r1, of_split eb, fun σ' S' _ _ _ => q A1 σ' H1 s1 S'⟩⟩
theorem snd_set {t : Tg} {e : E} {tg x : Expr} {pos : Pos} (h : PE X x (rd X.K (evE P e))) (ht : PG X tg (gD X.K t)) (hc : noComp x = true) (hs : noStar tg = true) (hw : swappedStores [tg] x X.env = pure none) : PS X (.Assign [tg] x pos) (rdS X.K (exS P (.set t e))) :=
  PSimp (ps_asg h ht (swaps_no hc) hw (by rw [assignEach_cons hs]; rfl)) set_read
/-- a comprehension stored to a name -/
theorem snd_setc (G : GX T P lv N sc true X) {i : Nat} {md : Nat} {t : Tg} {it : It} {c : Oe} {e : E} {own : List Nat} {y : Str} {x tg iter : Expr} {ifs : List Expr} {scope : Scope} {pos py spos : Pos} (hy : N[i]? = some y) (hl : sc.names.lookup y = some .local)
    (hline : (py.line == pos.line) = true) (ha : (scope.names.any fun (n, k) => n == y && (k == .local || k == .cell)) = false) (h1 : ckI T lv N sc true it tg iter = true) (h2 : okX iter = true) (h3 : ckT N (relS scope sc) false t tg = true) (h4 : ckC T lv N (relS scope sc) false c ifs = true)
    (h5 : ckE T lv N (relS scope sc) false e x = true) (h6 : blkC N sc scope (ownN N own) = true) (h7 : (slotsT t).all (fun i => own.contains i) = true) :
    PS X (.Assign [.Name y py] (.ListComp x [⟨tg, iter, ifs, 0⟩] scope pos) spos) (rdS X.K (exS P (.set (.nm i) (.co md t it c e own)))) := by
  have ok := blkOk_by h6
  have hs : ∀ i ∈ slotsT t, i ∈ own := fun i hi => by simpa using List.all_eq_true.mp h7 i hi
  have kd : X.env.scope.kind = .function := by rw [G.sco]; exact G.kind
  have hl' : X.env.scope.names.lookup y = some .local := by rw [G.sco]; exact hl
  refine PSimp (ps_setLc (own := ownN N own) (i := i) (wi := rdI X.K (evI P it)) (g := gD X.K t) (tt := rdT X.K (evC P c)) (te := rd X.K (evE P e)) G.calm (by rw [G.hN]; exact G.nd) (by rw [G.hN]; exact hy) hl' (sw_true kd hl' hline ha)
    (sndI it sc true X tg iter G h1) (by rw [G.hN, G.sco]; exact ok)
    (fun s H C cl fp => sndT (G.blk ok.kind s H C cl fp) t tg h3) (fun s H C cl fp => sndC c _ false _ ifs (G.blk ok.kind s H C cl fp) h4)
    (fun s H C cl fp => (sndE e _ false _ x (G.blk ok.kind s H C cl fp) h5).pe) (folded_ok h2)) fun D σ H q => ?_
  rw [ownN_slots]
  obtain ⟨A, w, S, fl, w', e1, q⟩ := q
  obtain ⟨z, ea, e1⟩ := bd_split e1
  cases e1
  exact coL_read (md := md) hs σ H _ ⟨A, w, S, z.1, z.2, ea, fun A1 v H1 s1 S1 r1 => q A1 _ H1 s1 (S1.set i r1)⟩
/-- a, b = x, y: stored from the right -/
theorem snd_par2 (G : GX T P lv N sc true X) {i j : Nat} {ea eb : E} {xa xb : Expr} {x y : Str} {px py pt pt2 pos : Pos} {kt k2 : Nat} (hi : N[i]? = some x) (hj : N[j]? = some y) (hij : i ≠ j) (lx : sc.names.lookup x = some .local) (ly : sc.names.lookup y = some .local)
    (ha : PA X [xa, xb] (rdA X.K (evEs P (.cons ea (.cons eb .nil))))) (hw : swappedStores [.Tuple [.Name x px, .Name y py] kt pt] (.Tuple [xa, xb] k2 pt2) X.env = pure (some [x, y])) :
    PS X (.Assign [.Tuple [.Name x px, .Name y py] kt pt] (.Tuple [xa, xb] k2 pt2) pos) (rdS X.K (exS P (.set (.tu [.nm i, .nm j]) (.tup (.cons ea (.cons eb .nil)))))) := by
  refine PSimp (ps_par (i := i) (j := j) G.calm (by rw [G.hN]; exact G.nd) (by rw [G.hN]; exact hi) (by rw [G.hN]; exact hj) hij (by rw [G.sco]; exact lx) (by rw [G.sco]; exact ly) ha hw) fun D σ H q => ?_
  obtain ⟨A, w, S, fl, w', e1, q⟩ := q
  obtain ⟨z, e2, e1⟩ := bd_split e1
  obtain ⟨w2, e3, e1⟩ := bd_split e1
  cases e1
  obtain ⟨t, e4, e2⟩ := bd_split e2
  refine ⟨A, w, S, t.1, t.2, e4, fun A1 vs H1 s1 S1 r1 => ?_⟩
  have hl := evEs_len e4
  obtain ⟨ez, ed, _⟩ := newT_ok e2 r1
  match ht : t.1, hl with
  | [d1, d2], _ =>
    rw [ht] at r1
    obtain ⟨v, u, rfl, rv, ru⟩ := two_of r1
    refine ⟨v, u, rfl, ?_⟩
    have e5 := of_split e3
    rw [ed, ez, ht] at e5
    cases e5
    exact q A1 _ H1 s1 ((S1.set i rv).set j ru)
theorem snd_par3 (G : GX T P lv N sc true X) {i j l : Nat} {ea eb ec : E} {xa xb xc : Expr} {x y z : Str} {px py pz pt pt2 pos : Pos} {kt k2 : Nat} (hi : N[i]? = some x) (hj : N[j]? = some y) (hl : N[l]? = some z) (hij : i ≠ j) (hil : i ≠ l) (hjl : j ≠ l)
    (lx : sc.names.lookup x = some .local) (ly : sc.names.lookup y = some .local) (lz : sc.names.lookup z = some .local)
    (ha : PA X [xa, xb, xc] (rdA X.K (evEs P (.cons ea (.cons eb (.cons ec .nil)))))) (hw : swappedStores [.Tuple [.Name x px, .Name y py, .Name z pz] kt pt] (.Tuple [xa, xb, xc] k2 pt2) X.env = pure (some [x, y, z])) :
    PS X (.Assign [.Tuple [.Name x px, .Name y py, .Name z pz] kt pt] (.Tuple [xa, xb, xc] k2 pt2) pos) (rdS X.K (exS P (.set (.tu [.nm i, .nm j, .nm l]) (.tup (.cons ea (.cons eb (.cons ec .nil))))))) := by
  refine PSimp (ps_par3 (i := i) (j := j) (l := l) G.calm (by rw [G.hN]; exact G.nd) (by rw [G.hN]; exact hi) (by rw [G.hN]; exact hj) (by rw [G.hN]; exact hl) hij hil hjl (by rw [G.sco]; exact lx) (by rw [G.sco]; exact ly) (by rw [G.sco]; exact lz) ha hw) fun D σ H q => ?_
  obtain ⟨A, w, S, fl, w', e1, q⟩ := q
  obtain ⟨z, e2, e1⟩ := bd_split e1
  obtain ⟨w2, e3, e1⟩ := bd_split e1
  cases e1
  obtain ⟨t, e4, e2⟩ := bd_split e2
  refine ⟨A, w, S, t.1, t.2, e4, fun A1 vs H1 s1 S1 r1 => ?_⟩
  have hl := evEs_len e4
  obtain ⟨ez, ed, _⟩ := newT_ok e2 r1
  match ht : t.1, hl with
  | [d1, d2, d3], _ =>
    rw [ht] at r1
    obtain ⟨v, r, rfl, rv, r2⟩ := r1
    obtain ⟨u, t3, rfl, ru, rt⟩ := two_of r2
    refine ⟨v, u, t3, rfl, ?_⟩
    have e5 := of_split e3
    rw [ed, ez, ht] at e5
    cases e5
    exact q A1 _ H1 s1 (((S1.set i rv).set j ru).set l rt)
theorem swaps_sub {e o i : Expr} {p : Pos} {l : Nat} {env : Env} : swapsWith e (some (.Subscript o i p)) l env = pure false := by
  cases e <;> rfl
theorem snd_put (G : GX T P lv N sc true X) {o i e : E} {x y z : Expr} {p pos : Pos} (he : PE X z (rd X.K (evE P e))) (ho : PE X x (rd X.K (evE P o))) (hi : PE X y (rd X.K (evE P i))) (hy : okX y = true) : PS X (.Assign [.Subscript x y p] z pos) (rdS X.K (exS P (.put o i e))) := by
  refine PSimp (ps_asg he (pg_sub ho hi set_list (by intro v; cases y <;> first | rfl | cases hy)) (show swapsWithSole [.Subscript x y p] z pos.line X.env = pure false from swaps_sub (o := x) (i := y) (p := p) (l := pos.line) (env := X.env)) rfl rfl) fun D σ H q => ?_
  obtain ⟨A, w, S, fl, w', e1, q⟩ := q
  obtain ⟨z, ea, e1⟩ := bd_split e1
  obtain ⟨x, eb, e1⟩ := bd_split e1
  obtain ⟨y, ec, e1⟩ := bd_split e1
  refine ⟨A, w, S, z.1, z.2, ea, fun A1 v H1 s1 S1 r1 => ⟨A1, z.2, S1, x.1, x.2, eb, fun A2 u H2 s2 S2 r2 => ⟨A2, x.2, S2, y.1, y.2, ec, fun A3 t H3 s3 S3 r3 => ?_⟩⟩⟩
  obtain ⟨d3, w3⟩ := y
  cases d3 with
  | int k =>
    obtain ⟨xs, ed, e1⟩ := bd_split e1
    obtain ⟨j, ef, e1⟩ := bd_split e1
    obtain ⟨w4, eg, e1⟩ := bd_split e1
    cases e1
    obtain ⟨a, us, ys, rfl, h1, h2, h3, h4⟩ := put_ok (of_split eg) S3 (r2.step s3.toCar)
    have e5 := of_split ed
    rw [h2] at e5
    cases e5
    obtain ⟨s4, S4⟩ := h4 _ (h3.set j ((r1.step s2.toCar).step s3.toCar))
    refine ⟨a, us, k, j, rfl, r3, h1, by rw [h3.length]; exact of_split ef, q A3 σ _ (((s1.trans s2).trans s3).trans s4) S4⟩
  | _ => cases e1

/-! ### blocks, loops -/
theorem snd_bnil : PSs X [] (rdS X.K (exB P [])) := by
  refine PSsimp pss_nil fun D σ H q => ?_
  obtain ⟨A, w, S, fl, w', e1, q⟩ := q
  cases e1
  exact q A σ H (Step.refl A H) S
theorem snd_bcons {s : S} {r : List S} {st : Stmt} {sts : List Stmt} (h1 : PS X st (rdS X.K (exS P s))) (h2 : PSs X sts (rdS X.K (exB P r))) : PSs X (st :: sts) (rdS X.K (exB P (s :: r))) := by
  refine PSsimp (pss_cons h1 h2) fun D σ H q => ?_
  obtain ⟨A, w, S, fl, w', e1, q⟩ := q
  obtain ⟨x, ea, e1⟩ := bd_split (show ((exS P s w).bd fun x => match x.1 with
    | .nx => exB P r x.2
    | f => .ok (f, x.2)) = .ok (fl, w') from e1)
  obtain ⟨f1, w1⟩ := x
  refine ⟨A, w, S, f1, w1, ea, ?_⟩
  cases f1 with
  | nx => exact fun A1 σ1 H1 s1 S1 => ⟨A1, w1, S1, fl, w', e1, q.step s1⟩
  | bk => cases e1; exact q
  | ct => cases e1; exact q
  | rt d => cases e1; exact q
theorem snd_for (G : GX T P lv N sc true X) {t : Tg} {it : It} {body : List S} {kill : List Nat} {gc : Bool} {tg iter : Expr} {sts : List Stmt} {pos : Pos} (hi : PI X tg iter (rdI X.K (evI P it))) (hx : okX iter = true) (ht : PG X tg (gD X.K t)) (hb : PSs X sts (rdS X.K (exB P body))) :
    PS X (.For tg iter sts [] pos) (rdS X.K (exS P (.for t it body kill gc))) := by
  refine PSimp (ps_for (by rw [G.xe]; exact PassesOwn.never) G.calm hi ht hb (folded_ok hx)) fun D σ H q => ?_
  obtain ⟨A, w, S, fl, w', e1, q⟩ := q
  obtain ⟨x, ea, e1⟩ := bd_split e1
  refine ⟨A, w, S, x.1, x.2, ea, fun A1 H1 J s1 S1 ok1 wd => ?_⟩
  have hL : x.2.m.length = A1.mu.length := S1.mu.length
  let W : Nat → Sl → Hp → Prop := fun i σ' Hh => i ≤ x.1.xs.length ∧ ∃ (A' : Ad) (w1 : Wd), Step A1 H1 A' Hh ∧ Sim X.K Hh A' w1 σ' ∧ x.1.ok w1 = true ∧
    forL (asg t) (exB P body) (postF kill gc x.2.m.length) x.1.ok (x.1.xs.drop i) w1 = .ok (fl, w')
  refine ⟨fun i m σ' Hh => m = x.1.xs.length - i ∧ W i σ' Hh, ⟨x.1.xs.length, by simp, Nat.zero_le _, A1, x.2, Step.refl A1 H1, S1, ok1, e1⟩, ?_⟩
  rintro i m σ' Hh ⟨rfl, hile, A', w1, st, S', ok', hrun⟩
  by_cases hlt : i < x.1.xs.length
  · right
    obtain ⟨g1, g2⟩ := wd.go A' Hh w1 σ' i st.toCar S' ok' hlt
    refine ⟨g1, W (i + 1), fun σ2 H2 hw => ⟨_, by omega, rfl, hw⟩, fun v H2 hy => ?_⟩
    obtain ⟨st2, S2, hv⟩ := g2 v H2 hy
    rw [List.drop_eq_getElem_cons hlt] at hrun
    obtain ⟨wa, eb, hrun⟩ := bd_split hrun
    obtain ⟨r, ec, hrun⟩ := bd_split hrun
    refine ⟨A', w1, _, wa, S2, hv _ (List.getElem?_eq_getElem hlt), of_split eb, fun σ3 S3 _ _ _ => ⟨A', wa, S3, r.1, r.2, ec, ?_⟩⟩
    have s12 : Step A1 H1 A' H2 := st.trans st2
    have next : ∀ {z}, (R.of (postF kill gc x.2.m.length r.2)).bd (fun w3 => if x.1.ok w3 then forL (asg t) (exB P body) (postF kill gc x.2.m.length) x.1.ok (x.1.xs.drop (i + 1)) w3 else .err) = .ok z → z = (fl, w') →
        ∀ A4 σ4 H4, Step A' H2 A4 H4 → Sim X.K H4 A4 r.2 σ4 → W (i + 1) σ4 H4 := fun {z} h hz A4 σ4 H4 s4 S4 => by
      subst hz
      obtain ⟨w3, e3, h⟩ := bd_split h
      obtain ⟨A5, s5, S5, _⟩ := post_ok (s12.trans s4) S4 (of_split e3) hL
      split at h
      · rename_i ok3
        exact ⟨hlt, A5, w3, s5, S5, ok3, h⟩
      · cases h
    cases hr : r.1 with
    | bk =>
      rw [hr] at hrun
      cases hrun
      exact fun A4 σ4 H4 s4 S4 => q A4 σ4 H4 (s1.trans (s12.trans s4)) S4
    | rt d =>
      rw [hr] at hrun
      cases hrun
      exact fun A4 v4 σ4 H4 s4 S4 r4 => q A4 v4 σ4 H4 (s1.trans (s12.trans s4)) S4 r4
    | nx =>
      rw [hr] at hrun
      exact next hrun rfl
    | ct =>
      rw [hr] at hrun
      exact next hrun rfl
  · left
    obtain rfl : i = x.1.xs.length := Nat.le_antisymm hile (Nat.le_of_not_lt hlt)
    refine ⟨wd.stop A' Hh w1 σ' st.toCar S' ok', ?_⟩
    rw [List.drop_length] at hrun
    cases hrun
    exact q A' σ' Hh (s1.trans st) S'
theorem snd_whl (G : GX T P lv N sc true X) {c : E} {body : List S} {kill : List Nat} {gc : Bool} {x : Expr} {sts : List Stmt} {pos : Pos} (hc : PT X x (rdT X.K (evT P c))) (hb : PSs X sts (rdS X.K (exB P body))) :
    PS X (.While x sts [] pos) (rdS X.K (exS P (.whl c body kill gc))) := by
  refine PSimp (ps_while (by rw [G.xe]; exact PassesOwn.never) hc hb) fun D σ H q => ?_
  obtain ⟨A, w, S, fl, w', e1, q⟩ := q
  have hL : w.m.length = A.mu.length := S.mu.length
  have e1 : whlL (evT P c) (exB P body) (postF kill gc w.m.length) fuel w = .ok (fl, w') := e1
  let W : Nat → Sl → Hp → Prop := fun m σ' Hh => ∃ (A' : Ad) (w1 : Wd), Step A H A' Hh ∧ Sim X.K Hh A' w1 σ' ∧ whlL (evT P c) (exB P body) (postF kill gc w.m.length) m w1 = .ok (fl, w')
  refine ⟨W, ⟨fuel, A, w, Step.refl A H, S, e1⟩, ?_⟩
  rintro m σ' Hh ⟨A', w1, st, S', hrun⟩
  cases m with
  | zero => cases hrun
  | succ m =>
    obtain ⟨r, ea, hrun⟩ := bd_split hrun
    refine ⟨A', w1, S', r.1, r.2, ea, fun A2 H2 s2 S2 => ?_⟩
    cases hr : r.1 with
    | false =>
      rw [hr, if_neg Bool.false_ne_true] at hrun
      rw [if_neg Bool.false_ne_true]
      cases hrun
      exact q A2 σ' H2 (st.trans s2) S2
    | true =>
      rw [hr, if_pos rfl] at hrun
      rw [if_pos rfl]
      obtain ⟨z, eb, hrun⟩ := bd_split hrun
      refine ⟨W m, fun σ3 H3 hw => ⟨m, Nat.lt_succ_self m, hw⟩, A2, r.2, S2, z.1, z.2, eb, ?_⟩
      have s12 : Step A H A2 H2 := st.trans s2
      have next : (R.of (postF kill gc w.m.length z.2)).bd (fun w3 => whlL (evT P c) (exB P body) (postF kill gc w.m.length) m w3) = .ok (fl, w') → ∀ A4 σ4 H4, Step A2 H2 A4 H4 → Sim X.K H4 A4 z.2 σ4 → W m σ4 H4 := fun h A4 σ4 H4 s4 S4 => by
        obtain ⟨w3, e3, h⟩ := bd_split h
        obtain ⟨A5, s5, S5, _⟩ := post_ok (s12.trans s4) S4 (of_split e3) hL
        exact ⟨A5, w3, s5, S5, h⟩
      cases hz : z.1 with
      | bk =>
        rw [hz] at hrun
        cases hrun
        exact fun A4 σ4 H4 s4 S4 => q A4 σ4 H4 (s12.trans s4) S4
      | rt d =>
        rw [hz] at hrun
        cases hrun
        exact fun A4 v4 σ4 H4 s4 S4 r4 => q A4 v4 σ4 H4 (s12.trans s4) S4 r4
      | nx =>
        rw [hz] at hrun
        exact next hrun
      | ct =>
        rw [hz] at hrun
        exact next hrun
end
end Fz

/-! Q16: the checker of statements; defs. -/
namespace Fz
open PySem PySem.Spec PyProof.Rows L2

/-- which names a = b of tuples stores from the right: none: the model does not say -/
def swS (sc : Scope) (t v : Expr) : Option (Option (List Str)) := match t, v with
  | .Tuple ts _ _, .Tuple vs _ _ =>
    if (!(ts.length == 2 || ts.length == 3) || vs.length != ts.length) = true then some none else
    if (vs.any fun | .Starred .. => true | _ => false) = true then some none else
    let line := (ts.head?.map (·.pos.line)).getD 0
    let names := ts.filterMap fun
      | .Name id pos => if sc.names.lookup id == some .local && pos.line == line then some id else none
      | _ => none
    if (names.length != ts.length || names.eraseDups.length != names.length) = true then some none else
    if vs.all (foldedForSure 8) = true then some none else
    if vs.all (constantsAlone 8) = true then none else some (some names)
  | .List _ _, .Tuple _ _ _ => none
  | _, _ => some none
theorem swS_ok {sc : Scope} {t v : Expr} {env : Env} {o : Option (List Str)} (hs : env.scope = sc) (hk : sc.kind = .function) (h : swS sc t v = some o) : swappedStores [t] v env = pure o := by
  have bk : (env.blockKind != .function) = false := by
    unfold Env.blockKind
    rw [hs, hk]
    rfl
  have ko : ∀ x, env.kindOf x = sc.names.lookup x := fun x => by unfold Env.kindOf; rw [hs]
  cases t with
  | Tuple ts k pos =>
    cases v with
    | Tuple vs k2 pos2 =>
      unfold swappedStores
      simp only [swS] at h
      simp only [bk, Bool.or_false, ko, pure_bind]
      split at h
      · rename_i h1
        cases h
        exact (if_pos h1)
      · rename_i h1
        refine (if_neg h1).trans ?_
        split at h
        · rename_i h2
          cases h
          try simp only [pure_bind]
          exact (if_pos h2)
        · rename_i h2
          try simp only [pure_bind]
          refine (if_neg h2).trans ?_
          split at h
          · rename_i h3
            cases h
            try simp only [pure_bind]
            exact (if_pos h3)
          · rename_i h3
            try simp only [pure_bind]
            refine (if_neg h3).trans ?_
            split at h
            · rename_i h4
              cases h
              try simp only [pure_bind]
              exact (if_pos h4)
            · rename_i h4
              try simp only [pure_bind]
              refine (if_neg h4).trans ?_
              split at h
              · cases h
              · rename_i h5
                cases h
                try simp only [pure_bind]
                exact (if_neg h5)
    | _ => cases h; rfl
  | List ts pos =>
    cases v with
    | Tuple vs k2 pos2 => cases h
    | _ => cases h; rfl
  | _ => cases h; rfl

section
variable (T : Tb) (lv : Nat) (N : List Str) (sc : Scope)
def locB (i : Nat) (x : Str) : Bool := decide (N[i]? = some x) && (match sc.names.lookup x with
  | some .local => true
  | _ => false)
def ckPar (t : Tg) (e : E) (tg x : Expr) (names : List Str) : Bool := match t, e, tg, x with
  | .tu [.nm i, .nm j], .tup (.cons ea (.cons eb .nil)), .Tuple [.Name a _, .Name b _] _ _, .Tuple [xa, xb] _ _ =>
    locB N sc i a && (locB N sc j b && (!(i == j) && (decide (names = [a, b]) && ckEs T lv N sc true (.cons ea (.cons eb .nil)) [xa, xb])))
  | .tu [.nm i, .nm j, .nm l], .tup (.cons ea (.cons eb (.cons ec .nil))), .Tuple [.Name a _, .Name b _, .Name c _] _ _, .Tuple [xa, xb, xc] _ _ =>
    locB N sc i a && (locB N sc j b && (locB N sc l c && (!(i == j) && (!(i == l) && (!(j == l) && (decide (names = [a, b, c]) && ckEs T lv N sc true (.cons ea (.cons eb (.cons ec .nil))) [xa, xb, xc]))))))
  | _, _, _, _ => false
def ckCo (t : Tg) (e : E) (tg x : Expr) : Bool := match t, e, tg, x with
  | .nm i, .co _ t it c e own, .Name y py, .ListComp x [⟨tg, iter, ifs, 0⟩] scope pos =>
    locB N sc i y && ((py.line == pos.line) && (!(scope.names.any fun (n, k) => n == y && (k == .local || k == .cell)) && (ckI T lv N sc true it tg iter && (okX iter && (ckT N (relS scope sc) false t tg && (ckC T lv N (relS scope sc) false c ifs &&
      (ckE T lv N (relS scope sc) false e x && (blkC N sc scope (ownN N own) && (slotsT t).all (fun i => own.contains i)))))))))
  | _, _, _, _ => false
def ckSet (t : Tg) (e : E) (tg x : Expr) : Bool :=
  if noComp x then noStar tg && (match swS sc tg x with
    | some none => ckT N sc true t tg && ckE T lv N sc true e x
    | some (some names) => ckPar T lv N sc t e tg x names
    | none => false)
  else ckCo T lv N sc t e tg x
mutual
def ckS : S → Stmt → Bool
  | .set t e, .Assign [tg] x _ => ckSet T lv N sc t e tg x
  | .put o i e, .Assign [.Subscript x y _] z _ => okX y && (ckE T lv N sc true e z && (ckE T lv N sc true o x && ckE T lv N sc true i y))
  | .ex e, .Expr x _ => noComp x && ckE T lv N sc true e x
  | .ret e, .Return (some x) _ => ckE T lv N sc true e x
  | .retn, .Return none _ => true
  | .brk, .Break _ => true
  | .cnt, .Continue _ => true
  | .pas, .Pass _ => true
  | .dead, _ => true
  | .ite c a b, .If x xs ys _ => ckE T lv N sc true c x && (ckB a xs && ckB b ys)
  | .for t it body _ _, .For tg iter sts [] _ => okX iter && (ckI T lv N sc true it tg iter && (ckT N sc true t tg && ckB body sts))
  | .whl c body _ _, .While x sts [] _ => ckE T lv N sc true c x && ckB body sts
  | _, _ => false
def ckB : List S → List Stmt → Bool
  | [], [] => true
  | s :: r, st :: sts => ckS s st && ckB r sts
  | _, _ => false
end
end
section
variable {T : Tb} {P : Pg} {lv : Nat} {N : List Str} {sc : Scope} {X : Cx}
theorem locB_ok {i : Nat} {x : Str} (h : locB N sc i x = true) : N[i]? = some x ∧ sc.names.lookup x = some .local := by
  obtain ⟨h1, h2⟩ := and1 h
  refine ⟨of_decide_eq_true h1, ?_⟩
  cases q : sc.names.lookup x with
  | none => rw [q] at h2; cases h2
  | some k =>
    rw [q] at h2
    cases k <;> first | rfl | cases h2
theorem ne_ok {i j : Nat} (h : (!(i == j)) = true) : i ≠ j := by simpa using h
theorem sndSet (G : GX T P lv N sc true X) {t : Tg} {e : E} {tg x : Expr} {pos : Pos} (h : ckSet T lv N sc t e tg x = true) : PS X (.Assign [tg] x pos) (rdS X.K (exS P (.set t e))) := by
  unfold ckSet at h
  split at h
  · rename_i hc
    obtain ⟨h1, h2⟩ := and1 h
    cases q : swS sc tg x with
    | none => rw [q] at h2; cases h2
    | some o =>
      rw [q] at h2
      have hw := swS_ok G.sco G.kind q
      cases o with
      | none =>
        obtain ⟨h3, h4⟩ := and1 h2
        exact snd_set (sndE e sc true X x G h4).pe (sndT G t tg h3) hc h1 hw
      | some names =>
        have h2 : ckPar T lv N sc t e tg x names = true := h2
        unfold ckPar at h2
        split at h2
        · obtain ⟨h3, k⟩ := and1 h2
          obtain ⟨h4, k⟩ := and1 k
          obtain ⟨h5, k⟩ := and1 k
          obtain ⟨h6, kz⟩ := and1 k
          have h6 := of_decide_eq_true h6
          subst h6
          obtain ⟨a1, a2⟩ := locB_ok h3
          obtain ⟨b1, b2⟩ := locB_ok h4
          exact snd_par2 G a1 b1 (ne_ok h5) a2 b2 (sndEs _ sc true X _ G kz) hw
        · obtain ⟨h3, k⟩ := and1 h2
          obtain ⟨h4, k⟩ := and1 k
          obtain ⟨h5, k⟩ := and1 k
          obtain ⟨h6, k⟩ := and1 k
          obtain ⟨h7, k⟩ := and1 k
          obtain ⟨h8, k⟩ := and1 k
          obtain ⟨h9, kz⟩ := and1 k
          have h9 := of_decide_eq_true h9
          subst h9
          obtain ⟨a1, a2⟩ := locB_ok h3
          obtain ⟨b1, b2⟩ := locB_ok h4
          obtain ⟨c1, c2⟩ := locB_ok h5
          exact snd_par3 G a1 b1 c1 (ne_ok h6) (ne_ok h7) (ne_ok h8) a2 b2 c2 (sndEs _ sc true X _ G kz) hw
        · cases h2
  · unfold ckCo at h
    split at h
    · obtain ⟨h1, k⟩ := and1 h
      obtain ⟨h2, k⟩ := and1 k
      obtain ⟨h3, k⟩ := and1 k
      obtain ⟨h4, k⟩ := and1 k
      obtain ⟨h5, k⟩ := and1 k
      obtain ⟨h6, k⟩ := and1 k
      obtain ⟨h7, k⟩ := and1 k
      obtain ⟨h8, k⟩ := and1 k
      obtain ⟨h9, h10⟩ := and1 k
      obtain ⟨a1, a2⟩ := locB_ok h1
      exact snd_setc G a1 a2 h2 (by simpa using h3) h4 h5 h6 h7 h8 h9 h10
    · cases h
mutual
theorem sndS (G : GX T P lv N sc true X) : ∀ (s : S) (st : Stmt), ckS T lv N sc s st = true → PS X st (rdS X.K (exS P s))
  | .set t e, st, h => by
    cases st with
    | Assign tgs x pos =>
      match tgs, h with
      | [], h => cases h
      | [tg], h => exact sndSet G h
      | _ :: _ :: _, h => cases h
    | _ => cases h
  | .put o i e, st, h => by
    cases st with
    | Assign tgs z pos =>
      match tgs, h with
      | [], h => cases h
      | [tg], h =>
        cases tg with
        | Subscript x y p =>
          obtain ⟨h1, k⟩ := and1 h
          obtain ⟨h2, k⟩ := and1 k
          obtain ⟨h3, h4⟩ := and1 k
          exact snd_put G (sndE e sc true X z G h2).pe (sndE o sc true X x G h3).pe (sndE i sc true X y G h4).pe h1
        | _ => cases h
      | t1 :: _ :: _, h => cases t1 <;> cases h
    | _ => cases h
  | .ex e, st, h => by
    cases st with
    | Expr x pos =>
      obtain ⟨h1, h2⟩ := and1 h
      exact snd_ex (sndE e sc true X x G h2).pe h1
    | _ => cases h
  | .ret e, st, h => by
    cases st with
    | Return x pos =>
      cases x with
      | none => cases h
      | some x => exact snd_ret (sndE e sc true X x G h).pe
    | _ => cases h
  | .retn, st, h => by
    cases st with
    | Return x pos =>
      cases x with
      | none => exact snd_retn
      | some x => cases h
    | _ => cases h
  | .brk, st, h => by
    cases st with
    | Break pos => exact snd_brk
    | _ => cases h
  | .cnt, st, h => by
    cases st with
    | Continue pos => exact snd_cnt
    | _ => cases h
  | .pas, st, h => by
    cases st with
    | Pass pos => exact snd_pas
    | _ => cases h
  | .dead, st, h => snd_dead
  | .ite c a b, st, h => by
    cases st with
    | If x xs ys pos =>
      obtain ⟨h1, k⟩ := and1 h
      obtain ⟨h2, h3⟩ := and1 k
      exact snd_if (sndE c sc true X x G h1).pt (sndB G a xs h2) (sndB G b ys h3)
    | _ => cases h
  | .for t it body kill gc, st, h => by
    cases st with
    | For tg iter sts el pos =>
      cases el with
      | nil =>
        obtain ⟨h1, k⟩ := and1 h
        obtain ⟨h2, k⟩ := and1 k
        obtain ⟨h3, h4⟩ := and1 k
        exact snd_for G (sndI it sc true X tg iter G h2) h1 (sndT G t tg h3) (sndB G body sts h4)
      | cons _ _ => cases h
    | _ => cases h
  | .whl c body kill gc, st, h => by
    cases st with
    | While x sts el pos =>
      cases el with
      | nil =>
        obtain ⟨h1, h2⟩ := and1 h
        exact snd_whl G (sndE c sc true X x G h1).pt (sndB G body sts h2)
      | cons _ _ => cases h
    | _ => cases h
theorem sndB (G : GX T P lv N sc true X) : ∀ (b : List S) (sts : List Stmt), ckB T lv N sc b sts = true → PSs X sts (rdS X.K (exB P b))
  | [], sts, h => by
    cases sts with
    | nil => exact snd_bnil
    | cons _ _ => cases h
  | s :: r, sts, h => by
    cases sts with
    | nil => cases h
    | cons st sts =>
      obtain ⟨h1, h2⟩ := and1 h
      exact snd_bcons (sndS G s st h1) (sndB G r sts h2)
end
end

/-! ### defs -/
structure DefC where
  name : Str
  ps : List Str
  N : List Str
  body : List S
/-- the defs below n -/
def Fn (C : List D) (ds : List DefC) : Nat → Nat → List D → List (List D) → R (D × List (List D))
  | 0 => fun _ _ _ => .err
  | n + 1 => fun j => if j = n then (match ds[n]? with
    | some d => exD ⟨Fn C ds n, C⟩ d.N.length d.body
    | none => fun _ _ => .err) else Fn C ds n j
theorem Fn_lt {C : List D} {ds : List DefC} {j : Nat} : ∀ {n : Nat}, j < n → Fn C ds n j = Fn C ds (j + 1) j
  | 0, h => absurd h (Nat.not_lt_zero _)
  | n + 1, h => by
    by_cases e : j = n
    · subst e
      rfl
    · show (if j = n then _ else Fn C ds n j) = _
      rw [if_neg e]
      exact Fn_lt (by omega)
theorem Fn_at {C : List D} {ds : List DefC} {j : Nat} {d : DefC} (h : ds[j]? = some d) : Fn C ds (j + 1) j = exD ⟨Fn C ds j, C⟩ d.N.length d.body := by
  show (if j = j then _ else _) = _
  rw [if_pos rfl, h]
mutual
theorem give_ok {m : List (List D)} (n : Nat) (hn : ∀ k d', up D.lst 0 m false n k = some d' → okRet d' = true) : ∀ (d d' : D), rs (up D.lst 0 m false n) false d = some d' → okRet d' = true
  | .non, _, e => by cases e; rfl
  | .bl _, _, e => by cases e; rfl
  | .int _, _, e => by cases e; rfl
  | .str _, _, e => by cases e; rfl
  | .tup ds, _, e => by
    obtain ⟨es, e1, rfl⟩ := Option.map_eq_some_iff.mp (show (rsL (up D.lst 0 m false n) false ds).map D.tup = some _ from e)
    exact gives_ok n hn ds es e1
  | .lst ds, _, e => by
    obtain ⟨es, e1, rfl⟩ := Option.map_eq_some_iff.mp (show (rsL (up D.lst 0 m false n) false ds).map D.lst = some _ from e)
    exact gives_ok n hn ds es e1
  | .fl ds, _, e => by cases e
  | .sc ds, _, e => by cases e
  | .ref k, d', e => hn k d' e
  | .g k, _, e => by cases e; rfl
  | .dic ks ds, _, e => by
    obtain ⟨es, e1, rfl⟩ := Option.map_eq_some_iff.mp (show (rsL (up D.lst 0 m false n) false ds).map (D.dic ks) = some _ from e)
    exact gives_ok n hn ds es e1
theorem gives_ok {m : List (List D)} (n : Nat) (hn : ∀ k d', up D.lst 0 m false n k = some d' → okRet d' = true) : ∀ (ds ds' : List D), rsL (up D.lst 0 m false n) false ds = some ds' → okRets ds' = true
  | [], _, e => by cases e; rfl
  | d :: ds, _, e => by
    simp only [rsL, Option.bind_eq_some_iff, Option.map_eq_some_iff] at e
    obtain ⟨y, e1, ys, e2, rfl⟩ := e
    show (okRet y && okRets ys) = true
    rw [give_ok n hn d y e1, gives_ok n hn ds ys e2]
    rfl
end
theorem up_ok {m : List (List D)} : ∀ (n k : Nat) (d' : D), up D.lst 0 m false n k = some d' → okRet d' = true
  | 0, k, d', e => by cases e
  | n + 1, k, d', e => by
    have e : ((m[k]?).bind fun ds => (rsL (up D.lst 0 m false n) false ds).map D.lst) = some d' := e
    simp only [Option.bind_eq_some_iff, Option.map_eq_some_iff] at e
    obtain ⟨ds, _, ys, e2, rfl⟩ := e
    exact gives_ok n (up_ok n) ds ys e2
theorem exD_ret {P : Pg} {n : Nat} {body : List S} {ds : List D} {g : List (List D)} {r : D} {g' : List (List D)} (e : exD P n body ds g = .ok (r, g')) : okRet r = true := by
  unfold exD at e
  obtain ⟨x, _, e⟩ := bd_split e
  split at e
  · obtain ⟨d', e1, e⟩ := bd_split e
    cases e
    exact give_ok 4 (up_ok 4) _ _ (of_split e1)
  · cases e; rfl
  · cases e
def scopeB (N ps : List Str) (sc : Scope) : Bool := (match sc.kind with
  | .function => true
  | _ => false) && (!sc.isCoroutine && (!sc.isGenerator && (decide N.Nodup && (decide (N.take ps.length = ps) && (ps.all (fun x => match sc.names.lookup x with
    | some .local => true
    | some .cell => true
    | _ => false) && sc.names.all fun y => match y.2 with
    | .free => false
    | _ => true)))))
theorem scopeB_ok {N ps : List Str} {sc : Scope} (h : scopeB N ps sc = true) : FnScope N ps sc := by
  obtain ⟨h1, k⟩ := and1 h
  obtain ⟨h2, k⟩ := and1 k
  obtain ⟨h3, k⟩ := and1 k
  obtain ⟨h4, k⟩ := and1 k
  obtain ⟨h5, k⟩ := and1 k
  obtain ⟨h6, h7⟩ := and1 k
  refine ⟨?_, by simpa using h2, by simpa using h3, of_decide_eq_true h4, of_decide_eq_true h5, fun x hx => ?_, fun y hy z => ?_⟩
  · cases q : sc.kind <;> first | rfl | (rw [q] at h1; cases h1)
  · have q := List.all_eq_true.mp h6 x hx
    cases e : sc.names.lookup x with
    | none => rw [e] at q; cases q
    | some k => 
      rw [e] at q
      cases k with
      | «local» => exact .inl rfl
      | cell => exact .inr rfl
      | _ => cases q
  · have q := List.all_eq_true.mp h7 y hy
    rw [z] at q
    cases q
section
variable {P : Program} {w : World} {K : PySem.W.Frag} {mg : Str → Option Value} {base : Heap}
theorem Room.guards {A : Around} {qual : Str} {scope : Scope} {n f : Nat} {cd : Value} (h : A.guards = some []) : (A.deeper (envOfC qual scope n f cd)).guards = some [] := by
  first
    | exact h
    | (unfold Around.deeper; simp [h])
/-- a def keeps its promise -/
theorem def_ok {T : Tb} {Pr : Pg} {j : Nat} {dc : DefC} {fd : FuncData} {f : Addr} {params : Arguments} {stmts : List Stmt} {scope : Scope} {dvs : List V} {kws : List (Str × V)} {nm : Str} (F : FunD K nm dc.name params stmts scope dvs kws f fd)
    (hs : scopeB dc.N dc.ps scope = true) (hb : ckB T j dc.N scope dc.body stmts = true) (dig : base.NoDigits)
    (free : ∀ x ∈ T.free, mg x = none)
    (defs : ∀ (i : Nat) d, T.defs[i]? = some d → i < j → ∃ f fd, mg d.1 = some (.ref f) ∧ PySem.W.keepIn K (.ref f) = true ∧ FnG P w K mg base j f fd d.2 (spD K (Pr.F i) d.2.length) ∧
      (∀ n ks p, (i, n, ks, p) ∈ T.binds → BindOk fd d.2 n ks p) ∧ ∀ ds g r g', Pr.F i ds g = .ok (r, g') → okRet r = true)
    (cons : ∀ (i : Nat) c, T.cons[i]? = some c → Pr.C[i]? = some c.2 ∧ ∃ u v, mg c.1 = some u ∧ RelV v u ∧ ∀ H A, RD K H A c.2 v) :
    FnG P w K mg base (j + 1) f fd dc.ps (spD K (exD Pr dc.N.length dc.body) dc.ps.length) := by
  have S := scopeB_ok hs
  obtain ⟨oc, od, dV, kV, doc, pm, an, cdv, ct, osl, rfl, lk, hcd, _, _⟩ := F.ex
  refine ⟨fun A outer s H args us vs Q E hr hg e0 hbd rv hsp => ?_⟩
  obtain ⟨Ad0, g, ds, d, g', m0, c0, S0, r0, l0, e1, q⟩ := hsp
  have hl : vs.length = dc.ps.length := r0.length.trans l0
  have kx : K.In s.heap := e0.mod.kin.keeps fun b o e => (e0.bs b o e).1
  have lim : s.heap.NoLimit := e0.mod.nolimit.keeps fun b o e => (e0.bs b o e).1
  have kinds : ∀ y ∈ dc.ps.zip us, scope.names.lookup y.1 = some .local ∨ (scope.names.lookup y.1 = some .cell ∧ ((cellsFrom (s.heap.objs.size + 1) scope.names []).lookup y.1).isSome = true) := by
    rintro ⟨n, v⟩ hy
    rcases S.par n (List.of_mem_zip hy).1 with q | q
    · exact .inl q
    · exact .inr ⟨q, PySem.W.cellsFrom_some _ _ _ (.inl q)⟩
  refine codeAny_call_function hr.depth (kx _ _ lk) rfl S.co S.gen rfl (PySem.W.codeRec_of kx hcd) (hbd _ _ _ _ ?_)
  refine wpAny_newFunctionEnv_cells S.kind kinds fun env he s1 x => ?_
  subst he
  refine ⟨lim.keeps x.toInCall.keep, codeAny_func ?_⟩
  have I : Inv (cxOf CX0 P w K mg base dc.N dc.name scope f cdv A outer s H E) [] (L2.start dc.N vs) H s1 := inv_start S hr.hd e0 hl rv x
  have G : GX T Pr j dc.N scope true ((cxOf CX0 P w K mg base dc.N dc.name scope f cdv A outer s H E).nox) :=
    ⟨rfl, S.nd, rfl, S.kind, rfl, rfl, hr.deeper _, Room.guards hg, dig, fun _ _ => rfl, free, defs, cons⟩
  have body := (sndB G dc.body stmts hb).nox
  obtain ⟨z, e2, e3⟩ := bd_split (show ((exB Pr dc.body ⟨ds.map some ++ List.replicate (dc.N.length - ds.length) none, [], g⟩).bd fun x => match x.1 with
    | .rt d => (R.of (give x.2 d)).bd fun d' => R.ok (d', x.2.g)
    | .nx => R.ok (D.non, x.2.g)
    | _ => R.err) = .ok (d, g') from e1)
  have hpl : dc.ps.length ≤ dc.N.length := by
    have := congrArg List.length S.pre
    rw [List.length_take] at this
    omega
  -- the slots at the entry
  have St : Sim K H Ad0 ⟨ds.map some ++ List.replicate (dc.N.length - ds.length) none, [], g⟩ (L2.start dc.N vs) := by
    refine ⟨fun i d e => ?_, ?_, S0.mu, S0.ga, S0.nd, S0.ndg, S0.dj, S0.djg, S0.bt, S0.cnt, S0.cnd, S0.gk⟩
    · have hi : i < ds.length := by
        by_cases hi : i < ds.length
        · exact hi
        · have e : (ds.map some ++ List.replicate (dc.N.length - ds.length) none)[i]? = some (some d) := e
          rw [List.getElem?_append_right (by simpa using hi), List.getElem?_replicate] at e
          split at e <;> cases e
      have e : (ds.map some ++ List.replicate (dc.N.length - ds.length) none)[i]? = some (some d) := e
      rw [List.getElem?_append_left (by simpa using hi), List.getElem?_map] at e
      cases e4 : ds[i]? with
      | none => rw [e4] at e; cases e
      | some d2 =>
        rw [e4] at e
        cases e
        obtain ⟨v, h1, h2⟩ := r0.get e4
        refine ⟨v, ?_, h2⟩
        unfold L2.start
        rw [List.getElem?_append_left (by rw [List.length_map, r0.length]; exact hi), List.getElem?_map, h1]
        rfl
    · show (ds.map some ++ List.replicate (dc.N.length - ds.length) none).length = (L2.start dc.N vs).length
      unfold L2.start
      rw [List.length_append, List.length_append, List.length_map, List.length_map, List.length_replicate, List.length_replicate, r0.length]
  have back : ∀ {A' : Ad} {w' : Wd} {σ' : Sl} {H' : Hp}, Step Ad0 H A' H' → Sim K H' A' w' σ' → Step Ad0 H ⟨[], A'.ga, A'.bad, []⟩ H' ∧ Sim K H' ⟨[], A'.ga, A'.bad, []⟩ ⟨[], [], w'.g⟩ [] := fun {A' w' σ' H'} st S' => by
    have hc : A'.cn = [] := st.cn.trans c0
    refine ⟨⟨⟨fun a o h x => ?_, st.tup, st.frz, fun k a h => ?_, st.ga, st.bad⟩, c0.symm, st.cnk⟩, fun i d e => by simp at e, rfl, rfl, ?_, List.nodup_nil, S'.ndg, (fun a h => nomatch h), S'.djg, S'.bt, (fun a h => nomatch h), (fun a h => nomatch h), S'.gk⟩
    · obtain ⟨h1, h2⟩ := st.kept a o h x
      exact ⟨h1, List.not_mem_nil, h2.2.1, List.not_mem_nil⟩
    · rw [m0] at h
      simp at h
    · exact RL.gok (A := A') (A' := ⟨[], A'.ga, A'.bad, []⟩) (fun _ _ h _ => h) (.inl rfl) (fun _ h => h) S'.gk S'.ga
  have fin : ∀ {σ' : Sl} {H' : Hp} {v : V} {u : Value} {s' : Shared}, Inv (cxOf CX0 P w K mg base dc.N dc.name scope f cdv A outer s H E) [] σ' H' s' → RelV v u → Q v H' → CE outer P w H s Q u s' :=
    fun {σ' H' v u s'} J r q => ⟨v, H', J.os, J.bare, J.base, J.hok, r, q⟩
  refine wpAny_mono (body.run [] s1 (L2.start dc.N vs) H { nx := fun _ H' => Q .non H', rt := Q } I ⟨Ad0, _, St, z.1, z.2, e2, ?_⟩) (fun fl s' hs => ?_) fun e s' hs => hs
  · cases hz : z.1 with
    | nx =>
      rw [hz] at e3
      cases e3
      exact fun A' σ' H' st S' => let ⟨a, b⟩ := back st S'; q _ .non H' a rfl b rfl
    | rt d1 =>
      rw [hz] at e3
      obtain ⟨d2, e4, e3⟩ := bd_split e3
      cases e3
      refine fun A' v σ' H' st S' r => ?_
      obtain ⟨a, b⟩ := back st S'
      have hc : A'.cn = [] := st.cn.trans c0
      refine q _ v H' a rfl b ?_
      refine rs_rd (A := A') (A' := ⟨[], A'.ga, A'.bad, []⟩) (fun k a d' e h => up_rd (K := K) (A' := ⟨[], A'.ga, A'.bad, []⟩) S' (fun a h => ⟨List.not_mem_nil, h.2.1, List.not_mem_nil⟩) (fun a _ h => h) rfl (fun k a h => absurd h (Nat.not_lt_zero _)) (fun k a ys vs _ h1 h2 h3 => ?_) 4 k a d' e h) (fun a h => ⟨List.not_mem_nil, h.2.1, List.not_mem_nil⟩) (fun a _ h => h) rfl d1 v d (of_split e4) r
      obtain ⟨d3, d4⟩ := S'.dj a (List.mem_of_getElem? h1)
      exact ⟨a, vs, rfl, h2, ⟨List.not_mem_nil, d3, List.not_mem_nil⟩, d4, h3⟩
    | bk => rw [hz] at e3; cases e3
    | ct => rw [hz] at e3; cases e3
  · cases fl with
    | ret u =>
      obtain ⟨v, σ', H', J, r, q⟩ := hs
      exact fin J r q
    | next =>
      obtain ⟨σ', H', J, q⟩ := hs
      exact fin (v := V.non) (u := Value.none) J rfl q
    | brk =>
      obtain ⟨_, _, _, q⟩ := hs
      exact False.elim q
    | cont =>
      obtain ⟨_, _, _, q⟩ := hs
      exact False.elim q
end
end Fz

/-! Q17: the program's end: all defs keep their promises; the law's call. -/
namespace Fz
open PySem PySem.Spec PyProof.Rows L2

/-! ### the law's call -/
theorem law_callG {P : Program} {w : World} {K : PySem.W.Frag} {mg mb : Str → Option Value} {k : Nat} {fa a : Addr} {fd : FuncData} {x : Str} {sp : Sp} {s1 : Shared} {vs : List Value} {ns : List Int}
    (KX : K.In s1.heap) (hns : s1.heap.Ns mainGlobals mg) (hb : s1.heap.Ns builtinsNs mb) (hbb : ∀ x : Str, x ≠ "__name__" → mb x = bootBuiltins x) (hlim : s1.heap.NoLimit) (hdig : s1.heap.NoDigits) (hg : s1.gens = #[])
    (ha : s1.heap.get? a = some { cls := .type "list", data := .seq vs.toArray }) (hi : IntsAre vs ns) (hl : ns.length ≤ sizeLine) (hr : Room k callerA)
    (F : ∀ base : Heap, K.In base → base.Ns mainGlobals mg → base.NoDigits → FnG P w K mg base k fa fd [x] sp) (hbind : ∀ (s : Shared) (u : Value), BindsTo s fd ⟨[u], []⟩ [(x, u)])
    (hsp : ∀ H : Hp, SqF K H a (ns.map V.int) → sp [.ref a] H (fun v _ => v = .bl true) fun _ _ _ => False) :
    codeAny (model P w) callerA (.call (.ref fa) ⟨[.ref a], []⟩) (fun r s' => r = .ok (.ret (.bool true)) ∧ OldK s1.heap s'.heap ∧ s'.os = s1.os ∧ AllBare s'.gens) s1 := by
  have rv := vals_ints hi
  have lv := hi.length
  -- with an abstract heap that holds the script alone, or nothing
  have core : ∀ H : Hp, SqF K H a (ns.map V.int) → HOk P w H s1.heap → (∀ b u, H b = some u → b = a ∧ ∃ o ys, u = .frz o (.lst ys)) → (H a ≠ none → K.lookup a = none) →
      codeAny (model P w) callerA (.call (.ref fa) ⟨[.ref a], []⟩) (fun r s' => r = .ok (.ret (.bool true)) ∧ OldK s1.heap s'.heap ∧ s'.os = s1.os ∧ AllBare s'.gens) s1 := by
    intro H hS hok hA hK
    have dictH : ∀ {b : Addr} {o : Obj} {es : Array DictEntry} {ep : Nat}, s1.heap.get? b = some o → o.data = .dict es ep → H b = none := fun {b o es ep} e d => by
      cases q : H b with
      | none => rfl
      | some u =>
        obtain ⟨rfl, _⟩ := hA b u q
        rw [ha] at e
        cases e
        cases (show Data.seq vs.toArray _ = Data.dict es ep from d)
    have nsH : ∀ {b : Addr} {m : Str → Option Value}, s1.heap.Ns b m → (hidT s1.heap H).Ns b m := fun {b m} ⟨o, es, ep, e, d, r⟩ => ⟨o, es, ep, hidT_get e (dictH e d), d, r⟩
    have kIn : K.In (hidT s1.heap H) := fun b o e => hidT_get (KX b o e) (by
      cases q : H b with
      | none => rfl
      | some u =>
        obtain ⟨rfl, _⟩ := hA b u q
        rw [hK (by rw [q]; exact fun z => nomatch z)] at e
        cases e)
    have mod : Mod K mg (hidT s1.heap H) := ⟨kIn, nsH hns, ⟨mb, nsH hb, hbb⟩, let ⟨mc, h1, h2⟩ := hlim; ⟨mc, nsH h1, h2⟩⟩
    have dig : (hidT s1.heap H).NoDigits := let ⟨mc, h1, h2⟩ := hdig; ⟨mc, nsH h1, h2⟩
    have e0 : Env0 P w K mg (hidT s1.heap H) callerA [] s1 H := ⟨rfl, mod, fun b o e => of_hidT e, Nat.le_of_eq (hidT_size _ _), trivial, (fun b hb => nomatch hb), hok, .of_eq hg⟩
    refine codeAny_mono ((F _ kIn (nsH hns) dig).run callerA [] s1 H ⟨[.ref a], []⟩ [.ref a] [.ref a] _ _ hr rfl e0 (hbind s1 (.ref a)) (.cons rfl .nil) (hsp H hS)) fun r s' h => ?_
    cases r with
    | error e => exact False.elim h
    | ok fl =>
      cases fl with
      | next => exact False.elim h
      | brk => exact False.elim h
      | cont => exact False.elim h
      | ret u =>
        obtain ⟨v, H', os, bare, un, hok', r', q⟩ := h
        obtain rfl : v = .bl true := q
        obtain rfl : u = Value.bool true := r'
        refine ⟨rfl, OldK.of_keep fun b o e => ?_, os, bare⟩
        cases q : H b with
        | none => exact un.keep b o e q (fun z => nomatch z) (fun z => nomatch z)
        | some u =>
          obtain ⟨_, ob, ys, rfl⟩ := hA b u q
          have e1 := (hok b _ q).1
          have e2 := (hok' b _ (un.frzs b ob _ q)).1
          rw [e] at e1
          cases e1
          exact e2
  cases hk : K.lookup a with
  | some o =>
    have e := KX a o hk
    rw [ha] at e
    cases e
    exact core (fun _ => none) (.inr (.inr ⟨_, vs.toArray, _, hk, rfl, rfl, rfl, by rw [List.size_toArray, lv]; exact hl, rv⟩)) (fun b u z => nomatch z) (fun b u z => nomatch z) fun z => absurd rfl z
  | none =>
    let o : Obj := { cls := .type "list", data := .seq vs.toArray }
    have at_ : ∀ b u, (if b = a then some (HO.frz o (.lst (ns.map V.int))) else none) = some u → b = a ∧ u = .frz o (.lst (ns.map V.int)) := fun b u z => by
      by_cases hb : b = a
      · rw [if_pos hb] at z
        cases z
        exact ⟨hb, rfl⟩
      · rw [if_neg hb] at z
        cases z
    refine core (fun b => if b = a then some (.frz o (.lst (ns.map V.int))) else none) (.inl ⟨o, if_pos rfl⟩) (fun b u z => ?_) (fun b u z => ?_) fun _ => hk
    · obtain ⟨rfl, rfl⟩ := at_ b u z
      exact ⟨ha, by rw [List.length_map]; exact hl, vs, _, rv, ha⟩
    · obtain ⟨e1, e2⟩ := at_ b u z
      exact ⟨e1, _, _, e2⟩
theorem intD_rds {K : PySem.W.Frag} {H : Hp} {A : Ad} : ∀ ns : List Int, RDs K H A (ns.map D.int) (ns.map V.int)
  | [] => rfl
  | n :: ns => ⟨_, _, rfl, rfl, intD_rds ns⟩
/-- the end of a law's row -/
theorem walk_ofG {l : PySem.W.OpenLaw} {n k : Nat} {q : Program} {loose : List Str} {XP : (Str → Option Value) → Heap → Prop} {YP : World → Heap → Prop} {d : DefRec} {x : Str} {Fl : List D → List (List D) → R (D × List (List D))}
    (hn : l.most = some n) (hn2 : n ≤ sizeLine) (hdf : d.params.defaults = []) (hr : Room k callerA)
    (F : ∀ (w : World) (mg : Str → Option Value) (fa : Addr) (h : Heap), YP w h → h.Ns mainGlobals mg → mg d.name = some (.ref fa) →
      ∃ (K : PySem.W.Frag) (fd : FuncData), K.In h ∧ (∀ (s : Shared) (u : Value), BindsTo s fd ⟨[u], []⟩ [(x, u)]) ∧
        ∀ base : Heap, K.In base → base.Ns mainGlobals mg → base.NoDigits → FnG l.prog w K mg base k fa fd [x] (spD K Fl 1))
    (hrun : ∀ ns : List Int, ns.length ≤ n → ∃ g', Fl [.sc (ns.map D.int)] [] = .ok (.bl true, g')) :
    PySem.W.WalkO q loose XP YP l.row.toRowW d [] (fun f vs => PySem.call f vs) := by
  refine Att.attach_call hn hdf fun w s0 s1 mg mb fa o pm cd doc a vs ns G Y ho hd hcd hmg hobj hints hlen hg => ?_
  obtain ⟨K, fd, KX, hb, hF⟩ := F w mg fa _ Y G.T.g hmg
  obtain ⟨g', hrun⟩ := hrun ns hlen
  refine law_callG KX G.T.g G.T.b G.T.builtins G.T.nolimit G.T.nodigits hg hobj hints (Nat.le_trans hlen hn2) hr hF hb fun H hS => ?_
  refine ⟨⟨[], [], [], []⟩, [], [.sc (ns.map D.int)], .bl true, g', rfl, rfl, ⟨fun i d e => by simp at e, rfl, rfl, rfl, List.nodup_nil, List.nodup_nil, (fun a h => nomatch h), (fun a h => nomatch h), (fun a h => nomatch h), (fun a h => nomatch h), (fun a h => nomatch h), fun xs h => nomatch h⟩, ?_, rfl, hrun, fun A' v H' _ _ _ r => r⟩
  exact ⟨_, [], rfl, ⟨a, _, rfl, hS, intD_rds ns⟩, rfl⟩

/-! ### all defs -/
/-- a def of the text: its row's statement -/
def stName : Stmt → Str
  | .FunctionDef n _ _ _ _ _ _ _ _ _ => n
  | _ => ""
def dOf (st : Stmt) : He.DefD := ⟨(stName st, none), stName st, stName st, defArgs st, defBody st, defScope st, [], []⟩
def faOf (ds : List DefC) (free : List Str) (nums : List (Str × Int)) : List He.Fa := ds.map (fun d => He.Fa.glo d.name) ++ (free.map He.Fa.free ++ nums.map fun p => He.Fa.int p.1 p.2)
theorem says_all {fa : List He.Fa} {fn : List He.DefD} {K : PySem.W.Frag} (c : He.SaysD fa fn K) {f : He.Fa} (h : f ∈ fa) : f.ok K = true := by
  obtain ⟨i, hi⟩ := List.getElem?_of_mem h
  exact c.fact i hi
def ckAll (T : Tb) : Nat → List DefC → List Stmt → Bool
  | _, [], [] => true
  | j, d :: ds, st :: sts => decide (stName st = d.name) && (scopeB d.N d.ps (defScope st) && (ckB T j d.N (defScope st) d.body (defBody st) && ckAll T (j + 1) ds sts))
  | _, _, _ => false
theorem ckAll_at {T : Tb} : ∀ {j : Nat} {ds : List DefC} {sts : List Stmt}, ckAll T j ds sts = true → ∀ (i : Nat) d, ds[i]? = some d → ∃ st, sts[i]? = some st ∧ stName st = d.name ∧ scopeB d.N d.ps (defScope st) = true ∧ ckB T (j + i) d.N (defScope st) d.body (defBody st) = true
  | _, [], _, _, i, d, e => by simp at e
  | _, _ :: _, [], h, _, _, _ => nomatch h
  | j, d :: ds, st :: sts, h, i, d', e => by
    obtain ⟨h1, k⟩ := and1 h
    obtain ⟨h2, k⟩ := and1 k
    obtain ⟨h3, h4⟩ := and1 k
    cases i with
    | zero =>
      cases e
      exact ⟨st, rfl, of_decide_eq_true h1, h2, h3⟩
    | succ i =>
      obtain ⟨st', a, b, c, d2⟩ := ckAll_at h4 i d' e
      exact ⟨st', a, b, c, by rw [show j + (i + 1) = j + 1 + i by omega]; exact d2⟩
def tbOf (ds : List DefC) (free : List Str) (nums : List (Str × Int)) (binds : List (Nat × Nat × List Str × Option (List Nat))) : Tb := ⟨free, ds.map fun d => (d.name, d.ps), nums.map fun p => (p.1, D.int p.2), binds⟩
def cOf (nums : List (Str × Int)) : List D := nums.map fun p => D.int p.2
/-- how the calls bind, by the defs' heads -/
def BindsAll (ds : List DefC) (sts : List Stmt) (binds : List (Nat × Nat × List Str × Option (List Nat))) : Prop :=
  ∀ b ∈ binds, ∀ d st, ds[b.1]? = some d → sts[b.1]? = some st → ∀ (kV doc pm : Value) (an : Option Addr) (cdv ct : Value) (us ws zs : List Value), us.length = b.2.1 → ws.length = b.2.2.1.length → arrD b.2.2.2 (us ++ ws) = some zs →
    bindArgs (PySem.W.fnOf (stName st) (stName st) (defArgs st) (defBody st) (defScope st) .none kV doc pm an cdv ct) ⟨us, b.2.2.1.zip ws⟩ = pure (d.ps.zip zs)
theorem all_ok {P : Program} {w : World} {K : PySem.W.Frag} {h : Heap} {mg : Str → Option Value} {ds : List DefC} {sts : List Stmt} {free : List Str} {nums : List (Str × Int)} {binds : List (Nat × Nat × List Str × Option (List Nat))}
    (X : K.In h) (G : h.Ns mainGlobals mg) (c : He.SaysD (faOf ds free nums) (sts.map dOf) K) (ck : ckAll (tbOf ds free nums binds) 0 ds sts = true) (hb : BindsAll ds sts binds) :
    ∀ (j : Nat) d, ds[j]? = some d → ∃ fd, FunD K d.name d.name (defArgs (sts.getD j (.Pass ⟨0, 0, 0, 0⟩))) (defBody (sts.getD j (.Pass ⟨0, 0, 0, 0⟩))) (defScope (sts.getD j (.Pass ⟨0, 0, 0, 0⟩))) [] [] (He.fAd K (d.name, none)) fd ∧ mg d.name = some (.ref (He.fAd K (d.name, none))) ∧
      (∀ base : Heap, base.NoDigits → FnG P w K mg base (j + 1) (He.fAd K (d.name, none)) fd d.ps (spD K (Fn (cOf nums) ds (j + 1) j) d.ps.length)) ∧ ∀ n ks p, (j, n, ks, p) ∈ binds → BindOk fd d.ps n ks p := by
  intro j
  induction j using Nat.strongRecOn with
  | ind j ih =>
    intro d hd
    obtain ⟨st, hst, hn, hs, hbody⟩ := ckAll_at ck j d hd
    have hgd : sts.getD j (.Pass ⟨0, 0, 0, 0⟩) = st := by rw [List.getD_eq_getElem?_getD, hst]; rfl
    obtain ⟨fd, F⟩ := c.def_ j (d := dOf st) (by rw [List.getElem?_map, hst]; rfl)
    have F : FunD K (stName st) (stName st) (defArgs st) (defBody st) (defScope st) [] [] (He.fAd K (stName st, none)) fd := F
    rw [hn] at F
    have glo : ∀ (i : Nat) d, ds[i]? = some d → mg d.name = some (.ref (He.fAd K (d.name, none))) := fun i d hi =>
      He.glo_ok X G (says_all c (List.mem_append_left _ (List.mem_map.mpr ⟨d, List.mem_of_getElem? hi, rfl⟩)))
    refine ⟨fd, by rw [hgd]; exact F, glo j d hd, ?_, fun n ks p hm => ?_⟩
    · intro base dig
      rw [Fn_at hd]
      rw [Nat.zero_add] at hbody
      refine def_ok (T := tbOf ds free nums binds) F hs hbody dig (fun x hx => ?_) (fun i e hi hij => ?_) (fun i e hi => ?_)
      · exact He.free_ok X G (says_all c (List.mem_append_right _ (List.mem_append_left _ (List.mem_map.mpr ⟨x, hx, rfl⟩))))
      · have hi : (ds.map fun d => (d.name, d.ps))[i]? = some e := hi
        rw [List.getElem?_map] at hi
        cases hdi : ds[i]? with
        | none => rw [hdi] at hi; cases hi
        | some di =>
          rw [hdi] at hi
          cases hi
          obtain ⟨fdi, Fi, gi, fi, bi⟩ := ih i hij di hdi
          refine ⟨_, fdi, gi, Fi.kp, ?_, bi, fun ds' g r g' e => ?_⟩
          · show FnG P w K mg base j _ fdi di.ps (spD K (Fn (cOf nums) ds j i) di.ps.length)
            rw [Fn_lt hij]
            exact (fi base dig).mono hij
          · have e : Fn (cOf nums) ds j i ds' g = .ok (r, g') := e
            rw [Fn_lt hij, Fn_at hdi] at e
            exact exD_ret e
      · have hi : (nums.map fun p => (p.1, D.int p.2))[i]? = some e := hi
        rw [List.getElem?_map] at hi
        cases hdi : nums[i]? with
        | none => rw [hdi] at hi; cases hi
        | some p =>
          rw [hdi] at hi
          cases hi
          obtain ⟨t, ht⟩ := He.int_ok X G (says_all c (List.mem_append_right _ (List.mem_append_right _ (List.mem_map.mpr ⟨p, List.mem_of_getElem? hdi, rfl⟩))))
          refine ⟨?_, _, .int p.2, ht, ⟨t, rfl⟩, fun _ _ => rfl⟩
          show (nums.map fun p => D.int p.2)[i]? = _
          rw [List.getElem?_map, hdi]
          rfl
    · obtain ⟨oc, od, dV, kV, doc, pm, an, cdv, ct, osl, rfl, lk, hcd, hD, hK⟩ := F.ex
      rcases hD with ⟨_, rfl⟩ | ⟨e, _⟩
      · intro s us ws zs l1 l2 e
        have := hb _ hm d st hd hst kV doc pm an cdv ct us ws zs l1 l2 e
        rw [hn] at this
        exact .of_eq this
      · exact absurd rfl e
/-- the end's last step -/
theorem end_ok {P : Program} {w : World} {K : PySem.W.Frag} {h : Heap} {mg : Str → Option Value} {fa : Addr} {nums : List (Str × Int)} {ds : List DefC} {j : Nat} {d : DefC} {pa : Arguments} {bo : List Stmt} {sc : Scope} {x : Str}
    (A : ∃ fd, FunD K d.name d.name pa bo sc [] [] (He.fAd K (d.name, none)) fd ∧ mg d.name = some (.ref (He.fAd K (d.name, none))) ∧ (∀ base : Heap, base.NoDigits → FnG P w K mg base (j + 1) (He.fAd K (d.name, none)) fd d.ps (spD K (Fn (cOf nums) ds (j + 1) j) d.ps.length)) ∧ ∀ n ks p, (j, n, ks, p) ∈ ([] : List (Nat × Nat × List Str × Option (List Nat))) → True)
    (hps : d.ps = [x]) (B : ∀ f fd, FunD K d.name d.name pa bo sc [] [] f fd → ∀ (s : Shared) (u : Value), BindsTo s fd ⟨[u], []⟩ [(x, u)]) (X : K.In h) (hmg : mg d.name = some (.ref fa)) :
    ∃ (fd : FuncData), K.In h ∧ (∀ (s : Shared) (u : Value), BindsTo s fd ⟨[u], []⟩ [(x, u)]) ∧ ∀ base : Heap, K.In base → base.Ns mainGlobals mg → base.NoDigits → FnG P w K mg base (j + 1) fa fd [x] (spD K (Fn (cOf nums) ds (j + 1) j) 1) := by
  obtain ⟨fd, F, g, G, _⟩ := A
  rw [hmg] at g
  cases g
  rw [hps] at G
  exact ⟨fd, X, B _ _ F, fun base _ _ dig => G base dig⟩
end Fz

/-! Q18: reasoning about the evaluator. -/
namespace Fz
open PySem
section
variable {P : Pg} {w : Wd}
theorem bd_congr {α β : Type} {x x' : R α} {f : α → R β} (h : x = x') : x.bd f = x'.bd f := by rw [h]
@[simp] theorem bd_ite {α β : Type} {c : Prop} [Decidable c] (a b : R α) (f : α → R β) : (if c then a else b).bd f = if c then a.bd f else b.bd f := by split <;> rfl
@[simp] theorem evE_v {i : Nat} : evE P (.v i) w = (match w.σ[i]? with
    | some (some d) => .ok (d, w)
    | _ => .err) := .trans rfl rfl
@[simp] theorem evE_k {d : D} : evE P (.k d) w = .ok (d, w) := .trans rfl rfl
@[simp] theorem evE_gl {i : Nat} : evE P (.gl i) w = (R.of P.C[i]?).bd fun d => .ok (d, w) := .trans rfl rfl
@[simp] theorem evE_op {o : Op} {md : Nat} {a b : E} : evE P (.op o md a b) w = (evE P a w).bd fun x => (evE P b x.2).bd fun y => opF o md x.1 y.1 y.2 := .trans rfl rfl
@[simp] theorem evE_neg {a : E} : evE P (.neg a) w = (evE P a w).bd fun x => match x.1 with
    | .int i => .ok (.int (-i), x.2)
    | _ => .err := .trans rfl rfl
@[simp] theorem evE_no {a : E} : evE P (.no a) w = (evE P a w).bd fun x => (R.of (x.2.tru x.1)).bd fun b => .ok (.bl (!b), x.2) := .trans rfl rfl
@[simp] theorem evE_an {a b : E} : evE P (.an a b) w = (evE P a w).bd fun x => (R.of (x.2.tru x.1)).bd fun c => if c then evE P b x.2 else .ok x := .trans rfl rfl
@[simp] theorem evE_or {a b : E} : evE P (.or a b) w = (evE P a w).bd fun x => (R.of (x.2.tru x.1)).bd fun c => if c then .ok x else evE P b x.2 := .trans rfl rfl
@[simp] theorem evE_cm {c : Cm} {a b : E} : evE P (.cm c a b) w = (evE P a w).bd fun x => (evE P b x.2).bd fun y => (R.of (cmF c x.1 y.1 y.2)).bd fun r => .ok (.bl r, y.2) := .trans rfl rfl
@[simp] theorem evE_ch {c c2 : Cm} {a b d : E} : evE P (.ch a c b c2 d) w = (evE P a w).bd fun x => (evE P b x.2).bd fun y => (R.of (cmF c x.1 y.1 y.2)).bd fun r => if r then
      (evE P d y.2).bd fun z => (R.of (cmF c2 y.1 z.1 z.2)).bd fun q => .ok (.bl q, z.2) else .ok (.bl false, y.2) := .trans rfl rfl
@[simp] theorem evE_ite {c a b : E} : evE P (.ite c a b) w = (evE P c w).bd fun x => (R.of (x.2.tru x.1)).bd fun r => if r then evE P a x.2 else evE P b x.2 := .trans rfl rfl
@[simp] theorem evE_tup {es : Es} : evE P (.tup es) w = (evEs P es w).bd fun x => newT x.1 x.2 := .trans rfl rfl
@[simp] theorem evE_lst {md : Nat} {es : Es} : evE P (.lst md es) w = (evEs P es w).bd fun x => newL md x.1 x.2 := .trans rfl rfl
@[simp] theorem evE_ix {a i : E} : evE P (.ix a i) w = (evE P a w).bd fun x => (evE P i x.2).bd fun y => match y.1 with
    | .int k => (R.of (y.2.seq x.1)).bd fun xs => (R.of ((ixI xs.length k).bind fun j => xs[j]?)).bd fun d => .ok (d, y.2)
    | .str k => (R.of (dicL x.1 k)).bd fun d => .ok (d, y.2)
    | _ => .err := .trans rfl rfl
@[simp] theorem evE_lrg {tp : Bool} {md : Nat} {es : Es} : evE P (.lrg tp md es) w = (evEs P es w).bd fun x => (R.of (rngF x.1)).bd fun xs => if tp then newT xs x.2 else newL md xs x.2 := .trans rfl rfl
@[simp] theorem evE_dis {ks : List Str} {es : Es} : evE P (.dis ks es) w = (evEs P es w).bd fun x => if ks.Nodup ∧ ks ≠ [] ∧ ks.length ≤ 15 ∧ ks.length = x.1.length then .ok (.dic ks x.1, x.2) else .err := .trans rfl rfl
@[simp] theorem dicL_dic {ks : List Str} {ds : List D} {k : Str} : dicL (.dic ks ds) k = lkp ks ds k := .trans rfl rfl
@[simp] theorem lkp_cons {k x : Str} {ks : List Str} {d : D} {ds : List D} : lkp (k :: ks) (d :: ds) x = if k = x then some d else lkp ks ds x := .trans rfl rfl
@[simp] theorem evE_sl {md : Nat} {a : E} {lo hi : Oe} : evE P (.sl md a lo hi) w = (evE P a w).bd fun x => (evO P lo x.2).bd fun l => (evO P hi l.2).bd fun h => (R.of (h.2.seq x.1)).bd fun xs =>
      if isT x.1 then newT (cut xs l.1 h.1) h.2 else newL md (cut xs l.1 h.1) h.2 := .trans rfl rfl
@[simp] theorem evE_rev {md : Nat} {a : E} : evE P (.rev md a) w = (evE P a w).bd fun x => (R.of (x.2.seq x.1)).bd fun xs => if isT x.1 then .err else newL md xs.reverse x.2 := .trans rfl rfl
@[simp] theorem evE_call {f : Nat} {perm : Option (List Nat)} {es ks : Es} : evE P (.call f perm es ks) w = (evEs P es w).bd fun x => (evEs P ks x.2).bd fun y => (R.of (lendL y.2 (x.1 ++ y.1))).bd fun ds => (R.of (arrD perm ds)).bd fun ds =>
      (P.F f ds y.2.g).bd fun r => .ok (r.1, { y.2 with g := r.2 }) := .trans rfl rfl
@[simp] theorem evE_bi {b : Bi} {md : Nat} {es : Es} : evE P (.bi b md es) w = (evEs P es w).bd fun x => biF b md x.1 x.2 := .trans rfl rfl
@[simp] theorem evE_me {m : Me} {o : E} {es : Es} : evE P (.me m o es) w = (evE P o w).bd fun x => (evEs P es x.2).bd fun y => meF m x.1 y.1 y.2 := .trans rfl rfl
@[simp] theorem evE_co {md : Nat} {t : Tg} {it : It} {c : Oe} {e : E} {own : List Nat} : evE P (.co md t it c e own) w = (evI P it w).bd fun x => (coL (asg t) (evC P c) (evE P e) x.1.ok own x.2.σ x.1.xs x.2 []).bd fun r => newL md r.1 r.2 := .trans rfl rfl
@[simp] theorem evEs_nil : evEs P .nil w = .ok ([], w) := .trans rfl rfl
@[simp] theorem evEs_cons {e : E} {r : Es} : evEs P (.cons e r) w = (evE P e w).bd fun x => (evEs P r x.2).bd fun y => .ok (x.1 :: y.1, y.2) := .trans rfl rfl
@[simp] theorem evO_no : evO P .no w = .ok (none, w) := .trans rfl rfl
@[simp] theorem evO_so {e : E} : evO P (.so e) w = (evE P e w).bd fun x => match x.1 with
    | .int i => .ok (some i, x.2)
    | _ => .err := .trans rfl rfl
@[simp] theorem evC_no : evC P .no w = .ok (true, w) := .trans rfl rfl
@[simp] theorem evC_so {e : E} : evC P (.so e) w = (evE P e w).bd fun x => (R.of (x.2.tru x.1)).bd fun b => .ok (b, x.2) := .trans rfl rfl
@[simp] theorem evI_seq {e : E} : evI P (.seq e) w = (evE P e w).bd fun x => (R.of (x.2.seq x.1)).bd fun xs => .ok (⟨xs, (srcOf x.1).ok xs⟩, x.2) := .trans rfl rfl
@[simp] theorem evI_rng {es : Es} : evI P (.rng es) w = (evEs P es w).bd fun x => (R.of (rngF x.1)).bd fun xs => .ok (⟨xs, fun _ => true⟩, x.2) := .trans rfl rfl
@[simp] theorem evI_enu {e : E} : evI P (.enu e) w = (evE P e w).bd fun x => (R.of (x.2.seq x.1)).bd fun xs => .ok (⟨enuL 0 xs, (srcOf x.1).ok xs⟩, x.2) := .trans rfl rfl
@[simp] theorem evI_zip {a b : E} : evI P (.zip a b) w = (evE P a w).bd fun x => (evE P b x.2).bd fun y => (R.of (y.2.seq x.1)).bd fun xs => (R.of (y.2.seq y.1)).bd fun ys =>
      if isT x.1 == isT y.1 then .ok (⟨zipD xs ys, fun w => (srcOf x.1).ok xs w && (srcOf y.1).ok ys w⟩, y.2) else .err := .trans rfl rfl
@[simp] theorem exS_set {t : Tg} {e : E} : exS P (.set t e) w = (evE P e w).bd fun x => (R.of (asg t x.1 x.2)).bd fun w' => .ok (.nx, w') := .trans rfl rfl
@[simp] theorem exS_put {o i e : E} : exS P (.put o i e) w = (evE P e w).bd fun z => (evE P o z.2).bd fun x => (evE P i x.2).bd fun y => match y.1 with
    | .int k => (R.of (y.2.seq x.1)).bd fun xs => (R.of (ixI xs.length k)).bd fun j => (R.of (y.2.put x.1 (xs.set j z.1))).bd fun w' => .ok (.nx, w')
    | _ => .err := .trans rfl rfl
@[simp] theorem exS_ex {e : E} : exS P (.ex e) w = (evE P e w).bd fun x => .ok (.nx, x.2) := .trans rfl rfl
@[simp] theorem exS_ret {e : E} : exS P (.ret e) w = (evE P e w).bd fun x => .ok (.rt x.1, x.2) := .trans rfl rfl
@[simp] theorem exS_retn : exS P .retn w = .ok (.rt .non, w) := .trans rfl rfl
@[simp] theorem exS_brk : exS P .brk w = .ok (.bk, w) := .trans rfl rfl
@[simp] theorem exS_cnt : exS P .cnt w = .ok (.ct, w) := .trans rfl rfl
@[simp] theorem exS_pas : exS P .pas w = .ok (.nx, w) := .trans rfl rfl
@[simp] theorem exS_dead : exS P .dead w = .err := .trans rfl rfl
@[simp] theorem exS_ite {c : E} {a b : List S} : exS P (.ite c a b) w = (evT P c w).bd fun x => if x.1 then exB P a x.2 else exB P b x.2 := .trans rfl rfl
@[simp] theorem exS_for {t : Tg} {it : It} {body : List S} {kill : List Nat} {gc : Bool} : exS P (.for t it body kill gc) w = (evI P it w).bd fun x => forL (asg t) (exB P body) (postF kill gc x.2.m.length) x.1.ok x.1.xs x.2 := .trans rfl rfl
@[simp] theorem exS_whl {c : E} {body : List S} {kill : List Nat} {gc : Bool} : exS P (.whl c body kill gc) w = whlL (evT P c) (exB P body) (postF kill gc w.m.length) fuel w := .trans rfl rfl
@[simp] theorem evT_eq {e : E} : evT P e w = (evE P e w).bd fun x => (R.of (x.2.tru x.1)).bd fun b => .ok (b, x.2) := .trans rfl rfl
@[simp] theorem exB_nil : exB P [] w = .ok (.nx, w) := .trans rfl rfl
@[simp] theorem exB_cons {s : S} {r : List S} : exB P (s :: r) w = (exS P s w).bd fun x => match x.1 with
    | .nx => exB P r x.2
    | f => .ok (f, x.2) := .trans rfl rfl
@[simp] theorem asg_nm {i : Nat} {d : D} : asg (.nm i) d w = some { w with σ := w.σ.set i (some d) } := .trans rfl rfl
@[simp] theorem asg_tu {ts : List Tg} {ds : List D} : asg (.tu ts) (.tup ds) w = asgL ts ds w := .trans rfl rfl
@[simp] theorem asgL_nil : asgL [] [] w = some w := .trans rfl rfl
@[simp] theorem asgL_cons {t : Tg} {ts : List Tg} {d : D} {ds : List D} : asgL (t :: ts) (d :: ds) w = (asg t d w).bind fun w' => asgL ts ds w' := .trans rfl rfl
@[simp] theorem wipeD_nil {σ : List (Option D)} : wipeD σ [] = σ := .trans rfl rfl
@[simp] theorem wipeD_cons {σ : List (Option D)} {v : Nat} {vs : List Nat} : wipeD σ (v :: vs) = (wipeD σ vs).set v none := .trans rfl rfl
@[simp] theorem tru_bl {b : Bool} : w.tru (.bl b) = some b := .trans rfl rfl
@[simp] theorem tru_int {i : Int} : w.tru (.int i) = some (i != 0) := .trans rfl rfl
@[simp] theorem tru_non : w.tru .non = some false := .trans rfl rfl
@[simp] theorem seq_tup {ds : List D} : w.seq (.tup ds) = some ds := .trans rfl rfl
@[simp] theorem seq_lst {ds : List D} : w.seq (.lst ds) = some ds := .trans rfl rfl
@[simp] theorem seq_fl {ds : List D} : w.seq (.fl ds) = some ds := .trans rfl rfl
@[simp] theorem seq_sc {ds : List D} : w.seq (.sc ds) = some ds := .trans rfl rfl
@[simp] theorem seq_ref {k : Nat} : w.seq (.ref k) = w.m[k]? := .trans rfl rfl
@[simp] theorem seq_g {k : Nat} : w.seq (.g k) = w.g[k]? := .trans rfl rfl
@[simp] theorem op_add {md : Nat} {i j : Int} : opF .add md (.int i) (.int j) w = .ok (.int (i + j), w) := .trans rfl rfl
@[simp] theorem op_sub {md : Nat} {i j : Int} : opF .sub md (.int i) (.int j) w = .ok (.int (i - j), w) := .trans rfl rfl
@[simp] theorem op_mul {md : Nat} {i j : Int} : opF .mul md (.int i) (.int j) w = if mulOk i j then .ok (.int (i * j), w) else .err := .trans rfl rfl
@[simp] theorem op_fdiv {md : Nat} {i j : Int} : opF .fdiv md (.int i) (.int j) w = if divOk i j then .ok (.int (i.fdiv j), w) else .err := .trans rfl rfl
@[simp] theorem op_mod {md : Nat} {i j : Int} : opF .mod md (.int i) (.int j) w = if j = 0 then .err else .ok (.int (i.fmod j), w) := .trans rfl rfl
@[simp] theorem op_pow {md : Nat} {i j : Int} : opF .pow md (.int i) (.int j) w = if powOk i j then .ok (.int (i ^ j.toNat), w) else .err := .trans rfl rfl
@[simp] theorem op_band {md : Nat} {i j : Int} : opF .band md (.int i) (.int j) w = .ok (.int (Builtin.bitAnd i j), w) := .trans rfl rfl
@[simp] theorem op_bxor {md : Nat} {i j : Int} : opF .bxor md (.int i) (.int j) w = .ok (.int (Builtin.bitXor i j), w) := .trans rfl rfl
@[simp] theorem op_shl {md : Nat} {i j : Int} : opF .shl md (.int i) (.int j) w = if powOk i j then .ok (.int (i * 2 ^ j.toNat), w) else .err := .trans rfl rfl
@[simp] theorem op_addS {md : Nat} {a b : Str} : opF .add md (.str a) (.str b) w = if a.length + b.length ≤ mxLen then .ok (.str (a ++ b), w) else .err := .trans rfl rfl
@[simp] theorem op_addT {md : Nat} {a b : List D} : opF .add md (.tup a) (.tup b) w = newT (a ++ b) w := .trans rfl rfl
@[simp] theorem cm_eqI {i j : Int} : cmF .eq (.int i) (.int j) w = some (decide (i = j)) := .trans rfl rfl
@[simp] theorem cm_neI {i j : Int} : cmF .ne (.int i) (.int j) w = some (!decide (i = j)) := .trans rfl rfl
@[simp] theorem cm_eqS {i j : Str} : cmF .eq (.str i) (.str j) w = some (decide (i = j)) := .trans rfl rfl
@[simp] theorem cm_neS {i j : Str} : cmF .ne (.str i) (.str j) w = some (!decide (i = j)) := .trans rfl rfl
@[simp] theorem cm_lt {i j : Int} : cmF .lt (.int i) (.int j) w = some (decide (i < j)) := .trans rfl rfl
@[simp] theorem cm_le {i j : Int} : cmF .le (.int i) (.int j) w = some (decide (i ≤ j)) := .trans rfl rfl
@[simp] theorem cm_gt {i j : Int} : cmF .gt (.int i) (.int j) w = some (decide (j < i)) := .trans rfl rfl
@[simp] theorem cm_ge {i j : Int} : cmF .ge (.int i) (.int j) w = some (decide (j ≤ i)) := .trans rfl rfl
theorem newL_0 {xs : List D} (h : xs.length ≤ mxLen) : newL 0 xs w = .ok (.lst xs, w) := by
  unfold newL; rw [if_pos h]; rfl
theorem newL_1 {xs : List D} (h : xs.length ≤ mxLen) : newL 1 xs w = .ok (.ref w.m.length, { w with m := w.m ++ [xs] }) := by
  unfold newL; rw [if_pos h]; rfl
theorem newL_2 {xs : List D} (h : xs.length ≤ mxLen) (h2 : xs.all gOk = true) : newL 2 xs w = .ok (.g w.g.length, { w with g := w.g ++ [xs] }) := by
  unfold newL; rw [if_pos h]; simp [h2]
theorem newT_ok' {xs : List D} (h : xs.length ≤ mxLen) : newT xs w = .ok (.tup xs, w) := by
  unfold newT; rw [if_pos h]
theorem le_mx {n : Nat} (h : n ≤ 100000) : n ≤ mxLen := Nat.le_trans h (by decide)

/-! ### loops -/
section
variable {bind : D → Wd → Option Wd} {body : Wd → R (Fl × Wd)} {post : Wd → Option Wd} {ok : Wd → Bool} {test : Wd → R (Bool × Wd)}
@[simp] theorem forL_nil : forL bind body post ok [] w = .ok (.nx, w) := .trans rfl rfl
theorem forL_cons {x : D} {xs : List D} : forL bind body post ok (x :: xs) w = (R.of (bind x w)).bd fun w1 => (body w1).bd fun r => match r.1 with
    | .bk => .ok (.nx, r.2)
    | .rt d => .ok (.rt d, r.2)
    | _ => (R.of (post r.2)).bd fun w3 => if ok w3 then forL bind body post ok xs w3 else .err := rfl
/-- a loop whose turns are known -/
theorem forL_run {f : Nat → D} (st : Nat → Wd) : ∀ (xs : List D) (k : Nat), (∀ i (h : i < xs.length), xs[i] = f (k + i)) → (∀ i r, i < k + xs.length → k ≤ i → forL bind body post ok (f i :: r) (st i) = forL bind body post ok r (st (i + 1))) → forL bind body post ok xs (st k) = .ok (.nx, st (k + xs.length))
  | [], k, _, _ => rfl
  | x :: xs, k, hf, h => by
    have e : x = f k := hf 0 (Nat.zero_lt_succ _)
    rw [e, h k xs (by simp) (Nat.le_refl _), forL_run st xs (k + 1) (fun i hi => by have := hf (i + 1) (Nat.succ_lt_succ hi); rw [show k + (i + 1) = k + 1 + i by omega] at this; exact this) (fun i r h1 h2 => h i r (by rw [List.length_cons]; omega) (by omega))]
    rw [List.length_cons, show k + 1 + xs.length = k + (xs.length + 1) by omega]
/-- a loop with an invariant -/
theorem forL_inv (I : Nat → Wd → Prop) {f : Nat → D} : ∀ (xs : List D) (k : Nat) (w : Wd), (∀ i (h : i < xs.length), xs[i] = f (k + i)) → (∀ i w r, i < k + xs.length → k ≤ i → I i w → ∃ w', I (i + 1) w' ∧ forL bind body post ok (f i :: r) w = forL bind body post ok r w') → I k w → ∃ w', I (k + xs.length) w' ∧ forL bind body post ok xs w = .ok (.nx, w')
  | [], k, w, _, _, hI => ⟨w, hI, rfl⟩
  | x :: xs, k, w, hf, h, hI => by
    have e : x = f k := hf 0 (Nat.zero_lt_succ _)
    obtain ⟨w', h1, h2⟩ := h k w xs (by simp) (Nat.le_refl _) hI
    obtain ⟨w2, h3, h4⟩ := forL_inv I xs (k + 1) w' (fun i hi => by have := hf (i + 1) (Nat.succ_lt_succ hi); rw [show k + (i + 1) = k + 1 + i by omega] at this; exact this) (fun i w r h1 h2 => h i w r (by rw [List.length_cons]; omega) (by omega)) h1
    exact ⟨w2, by rw [List.length_cons, show k + (xs.length + 1) = k + 1 + xs.length by omega]; exact h3, by rw [e, h2, h4]⟩
theorem rngL_ln : ∀ (n : Nat) (lo : Int), (rngL lo n).length = n
  | 0, _ => rfl
  | n + 1, lo => by show (rngL (lo + 1) n).length + 1 = n + 1; rw [rngL_ln n]
theorem rngL_at : ∀ (n : Nat) (lo : Int) (i : Nat) (h : i < (rngL lo n).length), (rngL lo n)[i] = .int (lo + i)
  | 0, _, i, h => absurd h (Nat.not_lt_zero _)
  | n + 1, lo, 0, h => by simp [rngL]
  | n + 1, lo, i + 1, h => by
    have h' : i < (rngL (lo + 1) n).length := by simp [rngL] at h; exact h
    show (rngL (lo + 1) n)[i] = _
    rw [rngL_at n (lo + 1) i h']
    congr 1
    push_cast
    omega
/-- over a range -/
theorem forL_rng (st : Nat → Wd) (lo : Int) (n : Nat) (h : ∀ i r, i < n → forL bind body post ok (.int (lo + i) :: r) (st i) = forL bind body post ok r (st (i + 1))) : forL bind body post ok (rngL lo n) (st 0) = .ok (.nx, st n) := by
  have := forL_run (bind := bind) (body := body) (post := post) (ok := ok) (f := fun i => .int (lo + (i : Int))) st (rngL lo n) 0 (fun i hi => by rw [rngL_at, Nat.zero_add]) (fun i r h1 _ => h i r (by rw [rngL_ln] at h1; omega))
  rw [rngL_ln, Nat.zero_add] at this
  exact this
theorem forL_rngI (I : Nat → Wd → Prop) (lo : Int) (n : Nat) (w : Wd) (h : ∀ i w r, i < n → I i w → ∃ w', I (i + 1) w' ∧ forL bind body post ok (.int (lo + i) :: r) w = forL bind body post ok r w') (h0 : I 0 w) : ∃ w', I n w' ∧ forL bind body post ok (rngL lo n) w = .ok (.nx, w') := by
  have := forL_inv (bind := bind) (body := body) (post := post) (ok := ok) (f := fun i => .int (lo + (i : Int))) I (rngL lo n) 0 w (fun i hi => by rw [rngL_at, Nat.zero_add]) (fun i w r h1 _ h2 => h i w r (by rw [rngL_ln] at h1; omega) h2) h0
  rw [rngL_ln, Nat.zero_add] at this
  exact this
end
/-! ### comprehensions -/
section
variable {bind : D → Wd → Option Wd} {elt : Wd → R (D × Wd)} {ok : Wd → Bool} {own : List Nat} {σ : List (Option D)} {test : Wd → R (Bool × Wd)}
@[simp] theorem coL_nil {acc : List D} : coL bind test elt ok own σ [] w acc = .ok (acc, w) := .trans rfl rfl
theorem coL_cons {x : D} {xs acc : List D} : coL bind test elt ok own σ (x :: xs) w acc = (R.of (bind x { w with σ := wipeD σ own })).bd fun w1 => (test w1).bd fun r => if r.1 then
      (elt r.2).bd fun q => if ok { q.2 with σ := σ } && decide (acc.length < mxLen) then coL bind test elt ok own σ xs { q.2 with σ := σ } (acc ++ [q.1]) else .err
    else if ok { r.2 with σ := σ } then coL bind test elt ok own σ xs { r.2 with σ := σ } acc else .err := rfl
/-- items worked out one by one, the world as it was -/
theorem coL_map {m g : List (List D)} (f : D → D) : ∀ (xs acc : List D), acc.length + xs.length ≤ mxLen → (∀ x ∈ xs, ∀ r acc, acc.length < mxLen → coL bind test elt ok own σ (x :: r) ⟨σ, m, g⟩ acc = coL bind test elt ok own σ r ⟨σ, m, g⟩ (acc ++ [f x])) →
    coL bind test elt ok own σ xs ⟨σ, m, g⟩ acc = .ok (acc ++ xs.map f, ⟨σ, m, g⟩)
  | [], acc, _, _ => by simp
  | x :: xs, acc, h, hx => by
    rw [List.length_cons] at h
    rw [hx x List.mem_cons_self xs acc (by omega), coL_map f xs (acc ++ [f x]) (by simp; omega) fun y hy => hx y (List.mem_cons_of_mem _ hy)]
    simp
theorem coL_filter {m g : List (List D)} (p : D → Bool) (f : D → D) : ∀ (xs acc : List D), acc.length + xs.length ≤ mxLen → (∀ x ∈ xs, ∀ r acc, acc.length < mxLen → coL bind test elt ok own σ (x :: r) ⟨σ, m, g⟩ acc = coL bind test elt ok own σ r ⟨σ, m, g⟩ (if p x then acc ++ [f x] else acc)) →
    coL bind test elt ok own σ xs ⟨σ, m, g⟩ acc = .ok (acc ++ (xs.filter p).map f, ⟨σ, m, g⟩)
  | [], acc, _, _ => by simp
  | x :: xs, acc, h, hx => by
    rw [List.length_cons] at h
    rw [hx x List.mem_cons_self xs acc (by omega), coL_filter p f xs (if p x then acc ++ [f x] else acc) (by split <;> (try rw [List.length_append]) <;> (try rw [List.length_singleton]) <;> omega) fun y hy => hx y (List.mem_cons_of_mem _ hy)]
    cases q : p x <;> simp [List.filter_cons, q]
end
/-! ### sums of size -/
theorem mulOk_l {i j : Int} (h : -(2 ^ 64) < i ∧ i < 2 ^ 64) : mulOk i j = true := decide_eq_true (.inl h)
theorem mulOk_r {i j : Int} (h : -(2 ^ 64) < j ∧ j < 2 ^ 64) : mulOk i j = true := decide_eq_true (.inr (.inl h))
theorem mulOk_b {i j : Int} {a b : Nat} (hi : i.natAbs < 2 ^ a) (hj : j.natAbs < 2 ^ b) (ha : a ≤ 400000) (hb : b ≤ 400000) : mulOk i j = true :=
  decide_eq_true (.inr (.inr ⟨Nat.lt_of_lt_of_le hi (Nat.pow_le_pow_right (by decide) ha), Nat.lt_of_lt_of_le hj (Nat.pow_le_pow_right (by decide) hb)⟩))
end
end Fz
namespace Fz
theorem rngOk_of {j : Int} (h : -4611686018427387904 ≤ j ∧ j < 4611686018427387904) : rngOk j = true := decide_eq_true (p := -(2 ^ 62) ≤ j ∧ j < 2 ^ 62) (by omega)
theorem rng_1 {j : Int} {n : Nat} (h : j.toNat = n) (h2 : -4611686018427387904 ≤ j ∧ j < 4611686018427387904) : rngF [.int j] = some (rngL 0 n) := by
  show (if rngOk j = true then _ else _) = _
  rw [if_pos (rngOk_of h2), h]
theorem rng_2 {i j : Int} {n : Nat} (h : (j - i).toNat = n) (h1 : -4611686018427387904 ≤ i ∧ i < 4611686018427387904) (h2 : -4611686018427387904 ≤ j ∧ j < 4611686018427387904) : rngF [.int i, .int j] = some (rngL i n) := by
  show (if (rngOk i && rngOk j) = true then _ else _) = _
  rw [rngOk_of h1, rngOk_of h2, h]
  rfl
end Fz

/-! Q19: more simp rules; the pot. -/
namespace Fz
open PySem
/-! ### data without own lists -/
mutual
theorem rs_ok {ρ : Nat → Option D} {φ : Bool} : ∀ d : D, okRet d = true → rs ρ φ d = some d
  | .non, _ => rfl
  | .bl _, _ => rfl
  | .int _, _ => rfl
  | .str _, _ => rfl
  | .tup ds, h => by show (rsL ρ φ ds).map D.tup = _; rw [rsL_ok ds h]; rfl
  | .lst ds, h => by show (rsL ρ φ ds).map D.lst = _; rw [rsL_ok ds h]; rfl
  | .fl _, h => nomatch h
  | .sc _, h => nomatch h
  | .ref _, h => nomatch h
  | .g _, _ => rfl
  | .dic ks ds, h => by show (rsL ρ φ ds).map (D.dic ks) = _; rw [rsL_ok ds h]; rfl
theorem rsL_ok {ρ : Nat → Option D} {φ : Bool} : ∀ ds : List D, okRets ds = true → rsL ρ φ ds = some ds
  | [], _ => rfl
  | d :: ds, h => by
    obtain ⟨h1, h2⟩ := and1 (show (okRet d && okRets ds) = true from h)
    show (rs ρ φ d).bind (fun y => (rsL ρ φ ds).map fun ys => y :: ys) = _
    rw [rs_ok d h1, rsL_ok ds h2]
    rfl
end
theorem okRets_all {ds : List D} (h : ∀ d ∈ ds, okRet d = true) : okRets ds = true := by
  induction ds with
  | nil => rfl
  | cons d ds ih =>
    show (okRet d && okRets ds) = true
    rw [h d List.mem_cons_self, ih fun e he => h e (List.mem_cons_of_mem _ he)]
    rfl
theorem okRets_mem {ds : List D} (h : okRets ds = true) : ∀ d ∈ ds, okRet d = true := by
  induction ds with
  | nil => exact fun d hd => nomatch hd
  | cons e ds ih =>
    obtain ⟨h1, h2⟩ := and1 (show (okRet e && okRets ds) = true from h)
    intro d hd
    rcases List.mem_cons.mp hd with rfl | hd
    · exact h1
    · exact ih h2 d hd
@[simp] theorem okRets_int (ns : List Int) : okRets (ns.map D.int) = true := okRets_all fun d hd => by
  obtain ⟨n, _, rfl⟩ := List.mem_map.mp hd
  rfl
@[simp] theorem okRets_nil : okRets [] = true := rfl
@[simp] theorem okRets_cons {d : D} {ds : List D} : okRets (d :: ds) = (okRet d && okRets ds) := .trans rfl rfl
@[simp] theorem okRet_int {i : Int} : okRet (.int i) = true := rfl
@[simp] theorem okRet_bl {i : Bool} : okRet (.bl i) = true := rfl
@[simp] theorem okRet_str {i : Str} : okRet (.str i) = true := rfl
@[simp] theorem okRet_non : okRet .non = true := rfl
@[simp] theorem okRet_g {k : Nat} : okRet (.g k) = true := rfl
@[simp] theorem okRet_lst {ds : List D} : okRet (.lst ds) = okRets ds := .trans rfl rfl
@[simp] theorem okRet_tup {ds : List D} : okRet (.tup ds) = okRets ds := .trans rfl rfl
section
variable {ρ : Nat → Option D} {φ : Bool} {w : Wd}
@[simp] theorem rsL_nil : rsL ρ φ [] = some [] := .trans rfl rfl
@[simp] theorem rsL_cons {x : D} {xs : List D} : rsL ρ φ (x :: xs) = (rs ρ φ x).bind fun y => (rsL ρ φ xs).map fun ys => y :: ys := .trans rfl rfl
@[simp] theorem rs_non : rs ρ φ .non = some .non := .trans rfl rfl
@[simp] theorem rs_bl {b : Bool} : rs ρ φ (.bl b) = some (.bl b) := .trans rfl rfl
@[simp] theorem rs_int {b : Int} : rs ρ φ (.int b) = some (.int b) := .trans rfl rfl
@[simp] theorem rs_str {b : Str} : rs ρ φ (.str b) = some (.str b) := .trans rfl rfl
@[simp] theorem rs_g {k : Nat} : rs ρ φ (.g k) = some (.g k) := .trans rfl rfl
@[simp] theorem rs_ref {k : Nat} : rs ρ φ (.ref k) = ρ k := .trans rfl rfl
@[simp] theorem rs_tup {ds : List D} : rs ρ φ (.tup ds) = (rsL ρ φ ds).map D.tup := .trans rfl rfl
@[simp] theorem rs_lst {ds : List D} : rs ρ φ (.lst ds) = (rsL ρ φ ds).map D.lst := .trans rfl rfl
@[simp] theorem rs_fl {ds : List D} : rs ρ φ (.fl ds) = if φ then (rsL ρ φ ds).map D.fl else none := .trans rfl rfl
@[simp] theorem rs_dic {ks : List Str} {ds : List D} : rs ρ φ (.dic ks ds) = (rsL ρ φ ds).map (D.dic ks) := .trans rfl rfl
@[simp] theorem rs_sc {ds : List D} : rs ρ φ (.sc ds) = if φ then (rsL ρ φ ds).map D.sc else none := .trans rfl rfl
@[simp] theorem rsL_int {ns : List Int} : rsL ρ φ (ns.map D.int) = some (ns.map D.int) := rsL_ok _ (okRets_int ns)
@[simp] theorem give_eq {d : D} : give w d = rs (up D.lst 0 w.m false 4) false d := .trans rfl rfl
@[simp] theorem lendL_eq {ds : List D} : lendL w ds = rsL (up D.fl 0 w.m true 4) true ds := .trans rfl rfl
@[simp] theorem up_0 {mk : List D → D} {m : List (List D)} {n k : Nat} : up mk 0 m φ (n + 1) k = (m[k]?).bind fun ds => (rsL (up mk 0 m φ n) φ ds).map mk := .trans rfl rfl
theorem up_S {mk : List D → D} {L : Nat} {m : List (List D)} {n k : Nat} : up mk L m φ (n + 1) k = if k < L then some (.ref k) else (m[k]?).bind fun ds => (rsL (up mk L m φ n) φ ds).map mk := .trans rfl rfl
@[simp] theorem keepO_nil {L : Nat} {m : List (List D)} : keepO L m [] = some [] := .trans rfl rfl
@[simp] theorem keepO_none {L : Nat} {m : List (List D)} {r : List (Option D)} : keepO L m (none :: r) = (keepO L m r).map fun xs => none :: xs := .trans rfl rfl
@[simp] theorem keepO_some {L : Nat} {m : List (List D)} {d : D} {r : List (Option D)} : keepO L m (some d :: r) = (rs (keep L m) true d).bind fun y => (keepO L m r).map fun xs => some y :: xs := .trans rfl rfl
@[simp] theorem keepM_nil {L : Nat} {m : List (List D)} : keepM L m [] = some [] := .trans rfl rfl
@[simp] theorem keepM_cons {L : Nat} {m : List (List D)} {x : List D} {r : List (List D)} : keepM L m (x :: r) = (rsL (keep L m) true x).bind fun y => (keepM L m r).map fun xs => y :: xs := .trans rfl rfl
theorem keep_lt {L : Nat} {m : List (List D)} {k : Nat} (h : k < L) : keep L m k = some (.ref k) := by
  unfold keep
  rw [up_S, if_pos h]
theorem keep_ge {L : Nat} {m : List (List D)} {k : Nat} (h : ¬ k < L) : keep L m k = (m[k]?).bind fun ds => (rsL (up D.lst L m true 3) true ds).map D.lst := by
  unfold keep
  rw [up_S, if_neg h]
theorem gc_eq {L : Nat} : w.gc L = (keepO L w.m w.σ).bind fun σ => (keepM L w.m (w.m.take L)).map fun m => { w with σ := σ, m := m } := .trans rfl rfl
@[simp] theorem postF_0 {kill : List Nat} {L : Nat} : postF kill false L w = some { w with σ := wipeD w.σ kill } := .trans rfl rfl
@[simp] theorem postF_1 {kill : List Nat} {L : Nat} : postF kill true L w = Wd.gc { w with σ := wipeD w.σ kill } L := .trans rfl rfl
@[simp] theorem arrD_none {α : Type} {xs : List α} : arrD none xs = some xs := .trans rfl rfl
@[simp] theorem arrD_some {α : Type} {p : List Nat} {xs : List α} : arrD (some p) xs = arr p xs := .trans rfl rfl
@[simp] theorem arr_nil {α : Type} {xs : List α} : arr [] xs = some [] := .trans rfl rfl
@[simp] theorem arr_cons {α : Type} {i : Nat} {r : List Nat} {xs : List α} : arr (i :: r) xs = (xs[i]?).bind fun x => (arr r xs).map fun ys => x :: ys := .trans rfl rfl
@[simp] theorem put_g {k : Nat} {xs : List D} : w.put (.g k) xs = if k < w.g.length ∧ xs.all gOk = true then some { w with g := w.g.set k xs } else none := .trans rfl rfl
@[simp] theorem put_ref {k : Nat} {xs : List D} : w.put (.ref k) xs = if k < w.m.length then some { w with m := w.m.set k xs } else none := .trans rfl rfl
@[simp] theorem src_non {xs : List D} : Src.non.ok xs w = true := .trans rfl rfl
@[simp] theorem src_nonF {xs : List D} : Src.non.ok xs = fun _ => true := .trans rfl rfl
@[simp] theorem src_ref {k : Nat} {xs : List D} : (Src.ref k).ok xs w = (w.m[k]?).any fun ys => deqL ys xs := .trans rfl rfl
@[simp] theorem src_g {k : Nat} {xs : List D} : (Src.g k).ok xs w = (w.g[k]?).any fun ys => deqL ys xs := .trans rfl rfl
@[simp] theorem srcOf_lst {xs : List D} : srcOf (.lst xs) = .non := .trans rfl rfl
@[simp] theorem srcOf_tup {xs : List D} : srcOf (.tup xs) = .non := .trans rfl rfl
@[simp] theorem srcOf_fl {xs : List D} : srcOf (.fl xs) = .non := .trans rfl rfl
@[simp] theorem srcOf_sc {xs : List D} : srcOf (.sc xs) = .non := .trans rfl rfl
@[simp] theorem srcOf_ref {k : Nat} : srcOf (.ref k) = .ref k := .trans rfl rfl
@[simp] theorem srcOf_g {k : Nat} : srcOf (.g k) = .g k := .trans rfl rfl
@[simp] theorem deqL_same {xs : List D} : deqL xs xs = true := deqL_refl xs
@[simp] theorem isT_tup {xs : List D} : isT (.tup xs) = true := rfl
@[simp] theorem isT_lst {xs : List D} : isT (.lst xs) = false := rfl
@[simp] theorem isT_fl {xs : List D} : isT (.fl xs) = false := rfl
@[simp] theorem isT_sc {xs : List D} : isT (.sc xs) = false := rfl
@[simp] theorem isT_ref {k : Nat} : isT (.ref k) = false := rfl
@[simp] theorem isT_g {k : Nat} : isT (.g k) = false := rfl
@[simp] theorem isL_lst {xs : List D} : isL (.lst xs) = true := rfl
@[simp] theorem isL_fl {xs : List D} : isL (.fl xs) = true := rfl
@[simp] theorem isL_ref {k : Nat} : isL (.ref k) = true := rfl
@[simp] theorem isL_g {k : Nat} : isL (.g k) = true := rfl
@[simp] theorem isL_tup {xs : List D} : isL (.tup xs) = false := rfl
@[simp] theorem isL_sc {xs : List D} : isL (.sc xs) = false := rfl
/-! ### built-ins -/
variable {md : Nat}
@[simp] theorem bi_len_lst {xs : List D} : biF .len md [.lst xs] w = .ok (.int xs.length, w) := .trans rfl rfl
@[simp] theorem bi_len_tup {xs : List D} : biF .len md [.tup xs] w = .ok (.int xs.length, w) := .trans rfl rfl
@[simp] theorem bi_len_fl {xs : List D} : biF .len md [.fl xs] w = .ok (.int xs.length, w) := .trans rfl rfl
@[simp] theorem bi_len_sc {xs : List D} : biF .len md [.sc xs] w = .ok (.int xs.length, w) := .trans rfl rfl
@[simp] theorem bi_len_ref {k : Nat} : biF .len md [.ref k] w = (R.of (w.m[k]?)).bd fun xs => .ok (.int xs.length, w) := .trans rfl rfl
@[simp] theorem bi_len_g {k : Nat} : biF .len md [.g k] w = (R.of (w.g[k]?)).bd fun xs => .ok (.int xs.length, w) := .trans rfl rfl
@[simp] theorem bq_abs {i : Int} : biF .abs md [.int i] w = .ok (.int (if i < 0 then -i else i), w) := .trans rfl rfl
@[simp] theorem bi_intI {i : Int} : biF .int md [.int i] w = .ok (.int i, w) := .trans rfl rfl
@[simp] theorem bi_intB {k : Bool} : biF .int md [.bl k] w = .ok (.int (if k then 1 else 0), w) := .trans rfl rfl
@[simp] theorem bi_boolI {i : Int} : biF .bool md [.int i] w = .ok (.bl (i != 0), w) := .trans rfl rfl
@[simp] theorem bi_boolB {k : Bool} : biF .bool md [.bl k] w = .ok (.bl k, w) := .trans rfl rfl
theorem bq_repr {d : D} : biF .repr md [d] w = (R.of (w.py d)).bd fun p => if reprOk p then .ok (.str p.shown, w) else .err := by cases d <;> exact .trans rfl rfl
@[simp] theorem bq_sum {d : D} : biF .sum md [d] w = (R.of ((w.seq d).bind intD)).bd fun xs => .ok (.int xs.sum, w) := by cases d <;> exact .trans rfl rfl
@[simp] theorem bq_dict {d : D} : biF .dict md [d] w = if isT d then .err else (R.of ((w.seq d).bind prsD)).bd fun p => if p.1.Nodup ∧ p.1 ≠ [] ∧ p.1.length ≤ 15 then .ok (.dic p.1 p.2, w) else .err := by cases d <;> exact .trans rfl rfl
@[simp] theorem prsD_nil : prsD [] = some ([], []) := .trans rfl rfl
@[simp] theorem prsD_cons {k : Str} {d : D} {r : List D} : prsD (.tup [.str k, d] :: r) = (prsD r).map fun p => (k :: p.1, d :: p.2) := .trans rfl rfl
@[simp] theorem bi_max2 {i j : Int} : biF .max md [.int i, .int j] w = .ok (.int (if j > i then j else i), w) := .trans rfl rfl
@[simp] theorem bi_min2 {i j : Int} : biF .min md [.int i, .int j] w = .ok (.int (if j < i then j else i), w) := .trans rfl rfl
@[simp] theorem bq_max {d : D} : biF .max md [d] w = if isT d then .err else (R.of ((w.seq d).bind intD)).bd fun xs => if xs.isEmpty then .err else .ok (.int (maxL xs), w) := by cases d <;> exact .trans rfl rfl
@[simp] theorem bq_min {d : D} : biF .min md [d] w = if isT d then .err else (R.of ((w.seq d).bind intD)).bd fun xs => if xs.isEmpty then .err else .ok (.int (minL xs), w) := by cases d <;> exact .trans rfl rfl
@[simp] theorem bq_tuple {d : D} : biF .tuple md [d] w = (R.of (w.seq d)).bd fun xs => newT xs w := by cases d <;> exact .trans rfl rfl
@[simp] theorem bq_list {d : D} : biF .list md [d] w = (R.of (w.seq d)).bd fun xs => newL md xs w := by cases d <;> exact .trans rfl rfl
@[simp] theorem bq_all {d : D} : biF .all md [d] w = if isT d then .err else (R.of ((w.seq d).bind boolD)).bd fun xs => .ok (.bl (xs.all id), w) := by cases d <;> exact .trans rfl rfl
@[simp] theorem bq_any {d : D} : biF .any md [d] w = if isT d then .err else (R.of ((w.seq d).bind boolD)).bd fun xs => .ok (.bl (xs.any id), w) := by cases d <;> exact .trans rfl rfl
@[simp] theorem mq_append {o d : D} : meF .append o [d] w = (R.of (w.seq o)).bd fun xs => if xs.length < mxLen then (R.of (w.put o (xs ++ [d]))).bd fun w' => .ok (.non, w') else .err := .trans rfl rfl
@[simp] theorem mq_extend {o d : D} : meF .extend o [d] w = if isL d && !deq d o then (R.of (w.seq o)).bd fun xs => (R.of (w.seq d)).bd fun ys => if xs.length + ys.length ≤ mxLen then (R.of (w.put o (xs ++ ys))).bd fun w' => .ok (.non, w') else .err else .err := .trans rfl rfl
@[simp] theorem mq_pop {o : D} : meF .pop o [] w = (R.of (w.seq o)).bd fun xs => (R.of xs[xs.length - 1]?).bd fun y => (R.of (w.put o xs.dropLast)).bd fun w' => .ok (y, w') := .trans rfl rfl
@[simp] theorem me_popI {o : D} {i : Int} : meF .pop o [.int i] w = (R.of (w.seq o)).bd fun xs => (R.of (ixI xs.length i)).bd fun k => (R.of xs[k]?).bd fun y => (R.of (w.put o (xs.eraseIdx k))).bd fun w' => .ok (y, w') := .trans rfl rfl
/-! ### indices -/
theorem ixI_nat {n k : Nat} (h : k < n) : ixI n (k : Int) = some k := by
  unfold ixI
  rw [if_pos (by omega), if_pos (by omega)]
  simp
theorem ixI_pos {n : Nat} {i : Int} (h0 : 0 ≤ i) (h : i < n) : ixI n i = some i.toNat := by
  unfold ixI
  rw [if_pos h0, if_pos h]
theorem ixI_neg {n k : Nat} (h0 : 0 < k) (h : k ≤ n) : ixI n (-(k : Int)) = some (n - k) := by
  unfold ixI
  rw [if_neg (by omega), if_pos (by omega)]
  congr 1
  omega
@[simp] theorem ixI_0 {n : Nat} : ixI (n + 1) 0 = some 0 := ixI_nat (k := 0) (by omega)
@[simp] theorem ixI_1 {n : Nat} : ixI (n + 1 + 1) 1 = some 1 := ixI_nat (k := 1) (by omega)
@[simp] theorem ixI_2 {n : Nat} : ixI (n + 1 + 1 + 1) 2 = some 2 := ixI_nat (k := 2) (by omega)
@[simp] theorem ixI_3 {n : Nat} : ixI (n + 1 + 1 + 1 + 1) 3 = some 3 := ixI_nat (k := 3) (by omega)
theorem ixI_m1 {n : Nat} (h : 0 < n) : ixI n (-1) = some (n - 1) := ixI_neg (k := 1) (by omega) h
theorem ixI_m2 {n : Nat} (h : 1 < n) : ixI n (-2) = some (n - 2) := ixI_neg (k := 2) (by omega) h
end
/-! ### as data -/
section
variable {ρ γ : Nat → Option PyData}
theorem pyL_int : ∀ ns : List Int, pyL ρ γ (ns.map D.int) = some (ns.map PyData.int)
  | [] => rfl
  | n :: ns => by
    show (py ρ γ (.int n)).bind (fun y => (pyL ρ γ (ns.map D.int)).map fun ys => y :: ys) = _
    rw [pyL_int ns]
    rfl
end
theorem intD_map : ∀ ns : List Int, intD (ns.map D.int) = some ns
  | [] => rfl
  | n :: ns => by
    show (intD (ns.map D.int)).map (fun is => n :: is) = _
    rw [intD_map ns]
    rfl
end Fz

/-! Q20: plain data: as the model's data, alike, shown. -/
namespace Fz
open PySem
mutual
/-- data without own or shared lists as the model's data -/
def pd : D → PyData
  | .non => .none
  | .bl b => .bool b
  | .int i => .int i
  | .str s => .str s
  | .tup ds => .tuple (pds ds)
  | .lst ds => .list (pds ds)
  | .fl ds => .list (pds ds)
  | .sc ds => .list (pds ds)
  | .ref _ => .none
  | .g _ => .none
  | .dic _ _ => .none
def pds : List D → List PyData
  | [] => []
  | d :: ds => pd d :: pds ds
end
mutual
/-- plain, at most n deep, ints of at most k figures -/
def Pl (k : Nat) : Nat → D → Prop
  | _, .non => True
  | _, .bl _ => True
  | _, .int i => i.natAbs < 10 ^ k
  | _, .str s => PyData.strOk s = true
  | n, .tup ds => 0 < n ∧ Pls k (n - 1) ds
  | n, .lst ds => 0 < n ∧ Pls k (n - 1) ds
  | n, .fl ds => 0 < n ∧ Pls k (n - 1) ds
  | n, .sc ds => 0 < n ∧ Pls k (n - 1) ds
  | _, .ref _ => False
  | _, .g _ => False
  | _, .dic _ _ => False
def Pls (k : Nat) : Nat → List D → Prop
  | _, [] => True
  | n, d :: ds => Pl k n d ∧ Pls k n ds
end
mutual
/-- at most so long -/
def szB (k : Nat) : D → Nat
  | .str s => (reprText s).length
  | .int _ => k + 1
  | .tup ds => szBs k ds + 3
  | .lst ds => szBs k ds + 3
  | .fl ds => szBs k ds + 3
  | .sc ds => szBs k ds + 3
  | _ => 5
def szBs (k : Nat) : List D → Nat
  | [] => 0
  | d :: ds => szB k d + 2 + szBs k ds
end
section
variable {ρ γ : Nat → Option PyData} {k : Nat}
mutual
theorem py_pd : ∀ (d : D) (n : Nat), Pl k n d → py ρ γ d = some (pd d)
  | .non, _, _ => rfl
  | .bl _, _, _ => rfl
  | .int _, _, _ => rfl
  | .str _, _, _ => rfl
  | .tup ds, n, h => by show (pyL ρ γ ds).map PyData.tuple = _; rw [pyL_pd ds _ h.2]; rfl
  | .lst ds, n, h => by show (pyL ρ γ ds).map PyData.list = _; rw [pyL_pd ds _ h.2]; rfl
  | .fl ds, n, h => by show (pyL ρ γ ds).map PyData.list = _; rw [pyL_pd ds _ h.2]; rfl
  | .sc ds, n, h => by show (pyL ρ γ ds).map PyData.list = _; rw [pyL_pd ds _ h.2]; rfl
  | .ref _, _, h => False.elim h
  | .g _, _, h => False.elim h
  | .dic _ _, _, h => False.elim h
theorem pyL_pd : ∀ (ds : List D) (n : Nat), Pls k n ds → pyL ρ γ ds = some (pds ds)
  | [], _, _ => rfl
  | d :: ds, n, h => by
    show (py ρ γ d).bind (fun y => (pyL ρ γ ds).map fun ys => y :: ys) = _
    rw [py_pd d n h.1, pyL_pd ds n h.2]
    rfl
end
mutual
theorem pd_fit : ∀ (d : D) (n : Nat), Pl k n d → (pd d).canLay0 = true ∧ (pd d).depth ≤ n ∧ (k ≤ 4300 → canShow (pd d) = true)
  | .non, _, _ => ⟨rfl, Nat.zero_le _, fun _ => rfl⟩
  | .bl _, _, _ => ⟨rfl, Nat.zero_le _, fun _ => rfl⟩
  | .int i, _, h => ⟨rfl, Nat.zero_le _, fun hk => decide_eq_true (Nat.lt_of_lt_of_le (show i.natAbs < 10 ^ k from h) (Nat.pow_le_pow_right (by decide) hk))⟩
  | .str _, _, h => ⟨h, Nat.zero_le _, fun _ => rfl⟩
  | .tup ds, n, h => by
    obtain ⟨a, b, c⟩ := pds_fit ds _ h.2
    refine ⟨a, ?_, c⟩
    show PyData.depthAll (pds ds) + 1 ≤ n
    have := h.1
    omega
  | .lst ds, n, h => by
    obtain ⟨a, b, c⟩ := pds_fit ds _ h.2
    refine ⟨a, ?_, c⟩
    show PyData.depthAll (pds ds) + 1 ≤ n
    have := h.1
    omega
  | .fl ds, n, h => by
    obtain ⟨a, b, c⟩ := pds_fit ds _ h.2
    refine ⟨a, ?_, c⟩
    show PyData.depthAll (pds ds) + 1 ≤ n
    have := h.1
    omega
  | .sc ds, n, h => by
    obtain ⟨a, b, c⟩ := pds_fit ds _ h.2
    refine ⟨a, ?_, c⟩
    show PyData.depthAll (pds ds) + 1 ≤ n
    have := h.1
    omega
  | .ref _, _, h => False.elim h
  | .g _, _, h => False.elim h
  | .dic _ _, _, h => False.elim h
theorem pds_fit : ∀ (ds : List D) (n : Nat), Pls k n ds → PyData.canLayAll0 (pds ds) = true ∧ PyData.depthAll (pds ds) ≤ n ∧ (k ≤ 4300 → canShows (pds ds) = true)
  | [], _, _ => ⟨rfl, Nat.zero_le _, fun _ => rfl⟩
  | d :: ds, n, h => by
    obtain ⟨a, b, c⟩ := pd_fit d n h.1
    obtain ⟨a2, b2, c2⟩ := pds_fit ds n h.2
    refine ⟨?_, Nat.max_le.mpr ⟨b, b2⟩, fun hk => ?_⟩
    · show ((pd d).canLay0 && PyData.canLayAll0 (pds ds)) = true
      rw [a, a2]; rfl
    · show (canShow (pd d) && canShows (pds ds)) = true
      rw [c hk, c2 hk]; rfl
end
theorem textFrom_le : ∀ (ts : List Str) (j : Nat) (acc : Str), (textFrom j acc ts).length ≤ acc.length + piled ts
  | [], _, acc => by show acc.length ≤ _; omega
  | t :: r, j, acc => by
    have ih := textFrom_le r (j + 1) (acc ++ (if j > 0 then ", " else "" : String) ++ t)
    have e : (acc ++ (if j > 0 then ", " else "" : String) ++ t).length = acc.length + (if j > 0 then 2 else 0) + t.length := by
      rw [strLen_append, strLen_append]
      split <;> rfl
    rw [piled_cons]
    show (textFrom (j + 1) _ r).length ≤ _
    rw [e] at ih
    have : (if j > 0 then 2 else 0 : Nat) ≤ 2 := by split <;> omega
    omega
theorem int_len {i : Int} (hk : 0 < k) (h : i.natAbs < 10 ^ k) : (PyData.shown (.int i)).length ≤ k + 1 := by
  show (Str.ofString (toString i)).length ≤ k + 1
  by_cases h0 : 0 ≤ i
  · have := PyProof.Rows.toString_length_le h0 hk (by
      have e : i = (i.natAbs : Int) := by omega
      rw [e]
      exact_mod_cast h)
    omega
  · obtain ⟨n, rfl⟩ : ∃ n : Nat, i = Int.negSucc n := by cases i with
      | ofNat n => exact absurd (Int.natCast_nonneg n) h0
      | negSucc n => exact ⟨n, rfl⟩
    have e : toString (Int.negSucc n) = "-" ++ toString ((n + 1 : Nat) : Int) := rfl
    rw [e]
    have := PyProof.Rows.toString_length_le (v := ((n + 1 : Nat) : Int)) (by omega) hk (by
      have h : n + 1 < 10 ^ k := h
      exact_mod_cast h)
    rw [ofString_length] at this ⊢
    rw [String.length_append]
    have e2 : ("-" : String).length = 1 := rfl
    omega
mutual
theorem shown_le (hk : 0 < k) : ∀ (d : D) (n : Nat), Pl k n d → (pd d).shown.length ≤ szB k d
  | .non, _, _ => by show ("None" : Str).length ≤ 5; decide
  | .bl b, _, _ => by cases b <;> (show _ ≤ 5; decide)
  | .int i, _, h => int_len hk h
  | .str s, _, _ => Nat.le_refl _
  | .tup ds, n, h => by
    have := showns_le hk ds _ h.2
    show (tupleText (PyData.shownAll (pds ds))).length ≤ szBs k ds + 3
    unfold tupleText
    rw [strLen_append, strLen_append]
    have e1 : ("(" : Str).length = 1 := rfl
    have e2 : ((if (PyData.shownAll (pds ds)).length == 1 then ",)" else ")" : String) : Str).length ≤ 2 := by split <;> decide
    have e3 : (Str.join ", " (PyData.shownAll (pds ds))).length ≤ piled (PyData.shownAll (pds ds)) := by
      by_cases q : PyData.shownAll (pds ds) = []
      · rw [q]; exact Nat.le_refl _
      · have := join_length_add _ q
        omega
    omega
  | .lst ds, n, h => by
    have := showns_le hk ds _ h.2
    show (textFrom 0 "[" (PyData.shownAll (pds ds)) ++ "]").length ≤ szBs k ds + 3
    rw [strLen_append]
    have := textFrom_le (PyData.shownAll (pds ds)) 0 "["
    have e1 : ("[" : Str).length = 1 := rfl
    have e2 : ("]" : Str).length = 1 := rfl
    omega
  | .fl ds, n, h => by
    have := showns_le hk ds _ h.2
    show (textFrom 0 "[" (PyData.shownAll (pds ds)) ++ "]").length ≤ szBs k ds + 3
    rw [strLen_append]
    have := textFrom_le (PyData.shownAll (pds ds)) 0 "["
    have e1 : ("[" : Str).length = 1 := rfl
    have e2 : ("]" : Str).length = 1 := rfl
    omega
  | .sc ds, n, h => by
    have := showns_le hk ds _ h.2
    show (textFrom 0 "[" (PyData.shownAll (pds ds)) ++ "]").length ≤ szBs k ds + 3
    rw [strLen_append]
    have := textFrom_le (PyData.shownAll (pds ds)) 0 "["
    have e1 : ("[" : Str).length = 1 := rfl
    have e2 : ("]" : Str).length = 1 := rfl
    omega
  | .ref _, _, h => False.elim h
  | .g _, _, h => False.elim h
  | .dic _ _, _, h => False.elim h
theorem showns_le (hk : 0 < k) : ∀ (ds : List D) (n : Nat), Pls k n ds → piled (PyData.shownAll (pds ds)) ≤ szBs k ds
  | [], _, _ => Nat.le_refl _
  | d :: ds, n, h => by
    have h1 := shown_le hk d n h.1
    have h2 := showns_le hk ds n h.2
    show piled ((pd d).shown :: PyData.shownAll (pds ds)) ≤ szB k d + 2 + szBs k ds
    rw [piled_cons]
    omega
end
variable {w : Wd} {n : Nat} {d e : D}
theorem py_of (h : Pl k n d) : w.py d = some (pd d) := py_pd d n h
/-- its text -/
theorem repr_of {md : Nat} (h : Pl k n d) (hk : 0 < k) (hk2 : k ≤ 4300) (hn : n ≤ 60) (hz : szB k d ≤ 1000000) : biF .repr md [d] w = .ok (.str (pd d).shown, w) := by
  obtain ⟨a, b, c⟩ := pd_fit d n h
  rw [bq_repr, py_of h, R.of_some, R.bd_ok]
  have : reprOk (pd d) = true := by
    unfold reprOk
    rw [c hk2, decide_eq_true (Nat.le_trans b hn), decide_eq_true (show (pd d).shown.length ≤ mxLen from Nat.le_trans (shown_le hk d n h) hz)]
    rfl
  rw [if_pos this]
theorem eqF_plain (h : Pl k n d) (h2 : Pl k n e) (hn : n ≤ 64) : eqF d e w = some (PyData.eqv (pd d) (pd e)) := by
  have s1 : SeqAt.shaped (pd d) = true := by
    obtain ⟨a, b, c⟩ := pd_fit d n h
    show ((pd d).canLay0 && decide _) = true
    rw [a, decide_eq_true (Nat.le_trans b hn)]; rfl
  have s2 : SeqAt.shaped (pd e) = true := by
    obtain ⟨a, b, c⟩ := pd_fit e n h2
    show ((pd e).canLay0 && decide _) = true
    rw [a, decide_eq_true (Nat.le_trans b hn)]; rfl
  have gen : ((w.py d).bind fun a => (w.py e).bind fun b => if SeqAt.shaped a && SeqAt.shaped b then some (PyData.eqv a b) else none) = some (PyData.eqv (pd d) (pd e)) := by
    rw [py_of h, py_of h2]
    show (if (SeqAt.shaped (pd d) && SeqAt.shaped (pd e)) = true then _ else _) = _
    rw [s1, s2]; rfl
  cases d with
  | int i => cases e with
    | int j => show some (decide (i = j)) = some (PyData.eqv (.int i) (.int j)); rw [PyData.eqv]; congr 1
    | _ => exact gen
  | str i => cases e with
    | str j => show some (decide (i = j)) = some (PyData.eqv (.str i) (.str j)); rw [PyData.eqv]; congr 1
    | _ => exact gen
  | _ => exact gen
theorem eqv_same {n : Nat} (h : Pl k n d) : PyData.eqv (pd d) (pd d) = true := SeqAt.eqv_refl_plain _ (PyData.plain_of_canLay0 _ (pd_fit d n h).1)
theorem eq_same (h : Pl k n d) (h2 : Pl k n e) (hn : n ≤ 64) (he : pd d = pd e) : cmF .eq d e w = some true := by
  show eqF d e w = _
  rw [eqF_plain h h2 hn, ← he, eqv_same h]
theorem ne_same (h : Pl k n d) (h2 : Pl k n e) (hn : n ≤ 64) (he : pd d = pd e) : cmF .ne d e w = some false := by
  show (eqF d e w).map (fun b => !b) = _
  rw [eqF_plain h h2 hn, ← he, eqv_same h]
  rfl
end
/-! ### simp rules -/
section
variable {k n : Nat}
@[simp] theorem Pl_non : Pl k n .non ↔ True := Iff.rfl
@[simp] theorem Pl_bl {b : Bool} : Pl k n (.bl b) ↔ True := Iff.rfl
@[simp] theorem Pl_int {b : Int} : Pl k n (.int b) ↔ b.natAbs < 10 ^ k := by unfold Pl; exact Iff.rfl
@[simp] theorem Pl_tup {ds : List D} : Pl k (n + 1) (.tup ds) ↔ Pls k n ds := ⟨fun h => h.2, fun h => ⟨Nat.zero_lt_succ _, h⟩⟩
@[simp] theorem Pl_lst {ds : List D} : Pl k (n + 1) (.lst ds) ↔ Pls k n ds := ⟨fun h => h.2, fun h => ⟨Nat.zero_lt_succ _, h⟩⟩
@[simp] theorem Pl_fl {ds : List D} : Pl k (n + 1) (.fl ds) ↔ Pls k n ds := ⟨fun h => h.2, fun h => ⟨Nat.zero_lt_succ _, h⟩⟩
@[simp] theorem Pls_nil : Pls k n [] ↔ True := Iff.rfl
@[simp] theorem Pls_cons {d : D} {ds : List D} : Pls k n (d :: ds) ↔ Pl k n d ∧ Pls k n ds := Iff.rfl
theorem Pls_all {ds : List D} (h : ∀ d ∈ ds, Pl k n d) : Pls k n ds := by
  induction ds with
  | nil => trivial
  | cons d ds ih => exact ⟨h d List.mem_cons_self, ih fun e he => h e (List.mem_cons_of_mem _ he)⟩
theorem pds_map (ds : List D) : pds ds = ds.map pd := by
  induction ds with
  | nil => rfl
  | cons d ds ih => show pd d :: pds ds = _; rw [ih]; rfl
theorem szBs_le {ds : List D} {c : Nat} (h : ∀ d ∈ ds, szB k d ≤ c) : szBs k ds ≤ ds.length * (c + 2) := by
  induction ds with
  | nil => exact Nat.zero_le _
  | cons d ds ih =>
    have h1 := h d List.mem_cons_self
    have h2 := ih fun e he => h e (List.mem_cons_of_mem _ he)
    show szB k d + 2 + szBs k ds ≤ (ds.length + 1) * (c + 2)
    rw [Nat.add_mul, Nat.one_mul]
    omega
end
@[simp] theorem mx_le {n : Nat} (h : n ≤ 100000) : (n ≤ mxLen) = True := eq_true (Nat.le_trans h (by decide))
@[simp] theorem mx_lt {n : Nat} (h : n ≤ 100000) : (n < mxLen) = True := eq_true (Nat.lt_of_le_of_lt h (by decide))
end Fz

/-! Q21: the pot of laws k01 to k19, k90 to k99. -/
namespace Fz
open PySem
theorem exB_step {P : Pg} {s : S} {r : List S} {w w' : Wd} (h : exS P s w = .ok (.nx, w')) : exB P (s :: r) w = exB P r w' := by
  rw [exB_cons, h]
  rfl
theorem rngL_map : ∀ (n : Nat) (lo : Int), rngL lo n = (List.range n).map fun j : Nat => D.int (lo + j)
  | 0, _ => rfl
  | n + 1, lo => by
    rw [List.range_succ_eq_map, List.map_cons, List.map_map, rngL, rngL_map n (lo + 1)]
    congr 1
    · simp
    · refine List.map_congr_left fun j _ => ?_
      show D.int _ = D.int _
      congr 1
      push_cast
      omega
theorem rngL_map0 (n : Nat) : rngL 0 n = (List.range n).map fun j : Nat => D.int j := by
  rw [rngL_map]
  exact List.map_congr_left fun j _ => by rw [Int.zero_add]
theorem op_mulL {xs : List D} {j : Nat} {w : Wd} {md : Nat} (hj : j ≤ 1000000000) (h : xs.length * j ≤ mxLen) : opF .mul md (.lst xs) (.int j) w = newL md (List.replicate j xs).flatten w := by
  have hd : -(2 ^ 63) ≤ (j : Int) ∧ (j : Int) < 2 ^ 63 := by omega
  unfold opF
  simp only [isL_lst, hd, decide_true, Bool.and_self, if_true, seq_lst, R.of_some, R.bd_ok, Int.toNat_natCast, h, and_self]
/-- the pot's making; s0, s1: the law's own seeds -/
def potB (s0 s1 : Int) : List S := [
  .set (.tu [.nm 1, .nm 2]) (.tup (.cons (.co 0 (.nm 3) (.seq (.sl 0 (.v 0) .no (.so (.k (.int 63))))) .no (.op .add 0 (.op .mul 0 (.k (.int 2)) (.bi .abs 0 (.cons (.v 3) .nil))) (.bi .int 0 (.cons (.cm .lt (.v 3) (.k (.int 0))) .nil))) [3]) (.cons (.op .add 0 (.k (.int s0)) (.op .mul 0 (.k (.int s1)) (.bi .len 0 (.cons (.v 0) .nil)))) .nil))),
  .for (.nm 3) (.seq (.v 1)) [
    .set (.nm 2) (.op .mod 0 (.op .add 0 (.op .add 0 (.op .mul 0 (.v 2) (.k (.int 69069))) (.v 3)) (.k (.int 11))) (.k (.int 4294967291)))] [3] false,
  .ret (.lst 2 (.cons (.co 2 (.nm 3) (.seq (.v 1)) (.so (.cm .gt (.v 3) (.op .pow 0 (.k (.int 10)) (.k (.int 12))))) (.v 3) [3]) (.cons (.v 2) (.cons (.k (.int 0)) .nil))))]
def ofB : List S := [
  .ite (.cm .lt (.v 1) (.k (.int 2))) [
    .ret (.k (.int 0))] [],
  .ite (.cm .ne (.ix (.v 0) (.k (.int 0))) (.lst 0 .nil)) [
    .set (.nm 2) (.me .pop (.ix (.v 0) (.k (.int 0))) .nil),
    .ite (.cm .ge (.v 2) (.v 1)) [
      .ex (.me .append (.ix (.v 0) (.k (.int 0))) (.cons (.op .fdiv 0 (.v 2) (.v 1)) .nil))] [],
    .ret (.op .mod 0 (.v 2) (.v 1))] [],
  .put (.v 0) (.k (.int 2)) (.op .add 1 (.ix (.v 0) (.k (.int 2))) (.k (.int 1))),
  .set (.nm 3) (.op .mod 0 (.op .add 0 (.ix (.v 0) (.k (.int 1))) (.op .mul 0 (.ix (.v 0) (.k (.int 2))) (.k (.int 2654435761)))) (.k (.int 4294967279))),
  .set (.nm 3) (.op .mod 0 (.op .add 0 (.op .add 0 (.op .mul 0 (.v 3) (.v 3)) (.op .mul 0 (.ix (.v 0) (.k (.int 2))) (.k (.int 40503)))) (.k (.int 5))) (.k (.int 4294967231))),
  .set (.nm 3) (.op .mod 0 (.op .add 0 (.op .mul 0 (.v 3) (.v 3)) (.ix (.v 0) (.k (.int 1)))) (.k (.int 4294967291))),
  .ret (.op .mod 0 (.op .fdiv 0 (.v 3) (.k (.int 256))) (.v 1))]
def oneB (j : Nat) : List S := [
  .ret (.ix (.v 1) (.call j none (.cons (.v 0) (.cons (.bi .len 0 (.cons (.v 1) .nil)) .nil)) .nil))]
/-- the shared lists are a pot's -/
def Pot (g : List (List D)) : Prop := ∃ (cs : List Int) (a b : Int), g = [cs.map D.int, [.g 0, .int a, .int b]] ∧ cs.length ≤ 63
@[simp] theorem gOk_ints (cs : List Int) : (cs.map D.int).all gOk = true := by
  rw [List.all_eq_true]
  intro d hd
  obtain ⟨n, _, rfl⟩ := List.mem_map.mp hd
  rfl
theorem cut_to {α : Type} {xs : List α} {k : Nat} : cut xs none (some (k : Int)) = xs.take k := by
  unfold cut
  rw [HT.sIx_none, HT.sIx_nat, List.drop_zero, Nat.sub_zero]
  by_cases h : k ≤ xs.length
  · rw [Nat.min_eq_left h]
  · rw [Nat.min_eq_right (by omega), List.take_length, List.take_of_length_le (by omega)]
theorem cut_from {α : Type} {xs : List α} {k : Nat} : cut xs (some (k : Int)) none = xs.drop k := by
  unfold cut
  rw [HT.sIx_none, HT.sIx_nat]
  by_cases h : k ≤ xs.length
  · rw [Nat.min_eq_left h, List.take_of_length_le (by rw [List.length_drop]; omega)]
  · rw [Nat.min_eq_right (by omega), Nat.sub_self, List.take_zero, List.drop_eq_nil_of_le (by omega)]
theorem cut_mid {α : Type} {xs : List α} {j k : Nat} : cut xs (some (j : Int)) (some (k : Int)) = (xs.take k).drop j := by
  unfold cut
  rw [HT.sIx_nat, HT.sIx_nat, List.drop_take]
  by_cases h : j ≤ xs.length
  · rw [Nat.min_eq_left h]
    by_cases h2 : k ≤ xs.length
    · rw [Nat.min_eq_left h2]
    · rw [Nat.min_eq_right (by omega), List.take_of_length_le (by rw [List.length_drop]; omega), List.take_of_length_le (by rw [List.length_drop]; omega)]
  · rw [Nat.min_eq_right (a := j) (by omega), List.drop_eq_nil_of_le (Nat.le_refl _), List.drop_eq_nil_of_le (i := j) (by omega), List.take_nil, List.take_nil]
theorem fmod_lt {a b : Int} (h : 0 < b) : 0 ≤ a.fmod b ∧ a.fmod b < b := ⟨Int.fmod_nonneg_of_pos a h, Int.fmod_lt_of_pos a h⟩
theorem divOk_s {i j : Int} (h : 0 < j) (h2 : j < 1073741824) : divOk i j = true := by
  unfold divOk
  rw [decide_eq_true (show j ≠ 0 by omega), decide_eq_true (show j.natAbs < 1073741824 by omega)]
  rfl
theorem ne_nil_g {w : Wd} {k : Nat} {cs : List Int} (h : w.g[k]? = some (cs.map D.int)) (hc : cs.length ≤ 100) : cmF .ne (.g k) (.lst []) w = some (!cs.isEmpty) := by
  have h0 : w.py (.g k) = some (.list (cs.map PyData.int)) := by
    show pyR w (3 + 1) false k = _
    unfold pyR
    rw [if_neg (by decide), h]
    show (pyL _ _ (cs.map D.int)).map PyData.list = _
    rw [pyL_int]
    rfl
  have h1 : w.py (.lst []) = some (.list []) := rfl
  show ((w.py (.g k)).bind fun a => (w.py (.lst [])).bind fun b => if SeqAt.shaped a && SeqAt.shaped b then some (PyData.eqv a b) else none).map (fun b => !b) = _
  rw [h0, h1]
  have s1 : SeqAt.shaped (.list (cs.map PyData.int)) = true := by
    have l : ∀ cs : List Int, PyData.canLayAll0 (cs.map PyData.int) = true := by
      intro cs
      induction cs with
      | nil => rfl
      | cons c cs ih => show (true && PyData.canLayAll0 (cs.map PyData.int)) = true; rw [ih]; rfl
    have d : ∀ cs : List Int, PyData.depthAll (cs.map PyData.int) = 0 := by
      intro cs
      induction cs with
      | nil => rfl
      | cons c cs ih => show max 0 (PyData.depthAll (cs.map PyData.int)) = 0; rw [ih]; rfl
    show (PyData.canLayAll0 (cs.map PyData.int) && decide (PyData.depthAll (cs.map PyData.int) + 1 ≤ 64)) = true
    rw [l, d]; rfl
  show (if (SeqAt.shaped (.list (cs.map PyData.int)) && SeqAt.shaped (.list [])) = true then some (PyData.eqv (.list (cs.map PyData.int)) (.list [])) else none).map (fun b => !b) = _
  rw [s1]
  cases cs with
  | nil => rfl
  | cons n ns => rfl
section
variable {P : Pg}
def nx1 (a b : Int) : Int := (a + (b + 1) * 2654435761).fmod 4294967279
def nx2 (a b : Int) : Int := (nx1 a b * nx1 a b + (b + 1) * 40503 + 5).fmod 4294967231
def nx3 (a b : Int) : Int := (nx2 a b * nx2 a b + a).fmod 4294967291
theorem of_nil {a b m : Int} (h1 : ¬ m < 2) (h2 : m < 1073741824) : exD P 4 ofB [.g 1, .int m] [[], [.g 0, .int a, .int b]] = .ok (.int (((nx3 a b).fdiv 256).fmod m), [[], [.g 0, .int a, .int (b + 1)]]) := by
  have n0 : ∀ σ m, cmF .ne (.g 0) (.lst []) ⟨σ, m, [[], [.g 0, .int a, .int b]]⟩ = some false := fun σ m => ne_nil_g (cs := []) rfl (by decide)
  have m0 : ¬ m = 0 := by omega
  have e1 : mulOk (b + 1) 2654435761 = true := mulOk_r (by omega)
  have e2 : mulOk (b + 1) 40503 = true := mulOk_r (by omega)
  have e3 : mulOk (nx1 a b) (nx1 a b) = true := mulOk_r (by have := fmod_lt (a := a + (b + 1) * 2654435761) (b := 4294967279) (by decide); unfold nx1; omega)
  have e4 : mulOk (nx2 a b) (nx2 a b) = true := mulOk_r (by have := fmod_lt (a := nx1 a b * nx1 a b + (b + 1) * 40503 + 5) (b := 4294967231) (by decide); unfold nx2; omega)
  have e5 : divOk (nx3 a b) 256 = true := divOk_s (by decide) (by decide)
  have e6 : (a + (b + 1) * 2654435761).fmod 4294967279 = nx1 a b := rfl
  have e7 : (nx1 a b * nx1 a b + (b + 1) * 40503 + 5).fmod 4294967231 = nx2 a b := rfl
  have e8 : (nx2 a b * nx2 a b + a).fmod 4294967291 = nx3 a b := rfl
  simp [exD, ofB, h1, newL_0, n0, m0, e1, e2, e3, e4, e5, e6, e7, e8, gOk]
theorem of_cons {a b m c : Int} {cs : List Int} (h1 : ¬ m < 2) (h2 : m < 1073741824) (hc : cs.length < 63) : exD P 4 ofB [.g 1, .int m] [(cs ++ [c]).map D.int, [.g 0, .int a, .int b]] = .ok (.int (c.fmod m), [(if m ≤ c then cs ++ [c.fdiv m] else cs).map D.int, [.g 0, .int a, .int b]]) := by
  have n0 : ∀ σ m, cmF .ne (.g 0) (.lst []) ⟨σ, m, [cs.map D.int ++ [.int c], [.g 0, .int a, .int b]]⟩ = some true := fun σ m => by
    have := ne_nil_g (w := ⟨σ, m, [(cs ++ [c]).map D.int, [.g 0, .int a, .int b]]⟩) (k := 0) (cs := cs ++ [c]) rfl (by simp; omega)
    rw [show (!(cs ++ [c]).isEmpty) = true by cases cs <;> rfl] at this
    simpa using this
  have m0 : ¬ m = 0 := by omega
  have e5 : divOk c m = true := divOk_s (by omega) h2
  have l : cs.length < mxLen := Nat.lt_trans hc (by decide)
  have g0 : ∀ d ∈ cs.map D.int, gOk d = true := fun d hd => List.all_eq_true.mp (gOk_ints cs) d hd
  have g1 : ∀ c : Int, (cs.map D.int ++ [D.int c]).all gOk = true := fun c => by rw [List.all_append, gOk_ints]; rfl
  by_cases q : m ≤ c
  · simp [exD, ofB, h1, newL_0, n0, m0, e5, q, gOk, l]
  · simp [exD, ofB, h1, newL_0, n0, m0, e5, q, gOk, l]
theorem of_ok {g : List (List D)} (h : Pot g) {m : Int} (h1 : 1 ≤ m) (h2 : m < 1073741824) : ∃ r g', exD P 4 ofB [.g 1, .int m] g = .ok (.int r, g') ∧ Pot g' ∧ 0 ≤ r ∧ r < m := by
  obtain ⟨cs, a, b, rfl, hc⟩ := h
  by_cases hm : m < 2
  · refine ⟨0, _, ?_, ⟨cs, a, b, rfl, hc⟩, by omega, by omega⟩
    simp [exD, ofB, hm]
  · rcases List.eq_nil_or_concat cs with rfl | ⟨cs, c, rfl⟩
    · exact ⟨_, _, of_nil hm h2, ⟨[], a, b + 1, rfl, hc⟩, fmod_lt (by omega)⟩
    · rw [List.concat_eq_append, List.length_append, List.length_singleton] at hc
      rw [List.concat_eq_append]
      refine ⟨_, _, of_cons hm h2 (by omega), ⟨_, a, b, rfl, ?_⟩, fmod_lt (by omega)⟩
      split
      · rw [List.length_append, List.length_singleton]; omega
      · omega
theorem one_ok {j : Nat} {P2 : Pg} (hj : P.F j = exD P2 4 ofB) {g : List (List D)} (h : Pot g) {ds : List D} (h0 : 0 < ds.length) (h1 : ds.length < 1000000) (hr : okRets ds = true) :
    ∃ (i : Nat) (hi : i < ds.length) (g' : List (List D)), exD P 2 (oneB j) [.g 1, .lst ds] g = .ok (ds[i], g') ∧ Pot g' := by
  obtain ⟨r, g', e, hp, r0, r1⟩ := of_ok (P := P2) h (m := ds.length) (by omega) (by omega)
  obtain ⟨i, rfl⟩ : ∃ i : Nat, r = (i : Int) := ⟨r.toNat, by omega⟩
  have hi : i < ds.length := by omega
  refine ⟨i, hi, g', ?_, hp⟩
  have e2 : P.F j [.g 1, .int ds.length] g = .ok (.int i, g') := by rw [hj]; exact e
  have e3 : ds[i]? = some ds[i] := List.getElem?_eq_getElem hi
  have e4 : ∀ w, give w ds[i] = some ds[i] := fun w => rs_ok _ (okRets_mem hr _ (List.getElem_mem hi))
  simp only [exD, oneB]
  simp [e2, ixI_nat hi, rsL_ok ds hr, -give_eq, e4, e3]
end
section
variable {P : Pg} {s0 s1 : Int}
def potC (ns : List Int) : List Int := (ns.take 63).map fun n => 2 * (if n < 0 then -n else n) + if n < 0 then 1 else 0
def potM (s : Int) (cs : List Int) : Int := cs.foldl (fun a c => (a * 69069 + c + 11).fmod 4294967291) s
theorem pot_ok (h0 : -1000000 < s1 ∧ s1 < 1000000) {ns : List Int} (hn : ns.length ≤ 63) : ∃ g', exD P 4 (potB s0 s1) [.sc (ns.map D.int)] [] = .ok (.g 1, g') ∧ Pot g' := by
  have c63 : cut (ns.map D.int) none (some 63) = (ns.take 63).map D.int := by
    rw [show (some 63 : Option Int) = some ((63 : Nat) : Int) from rfl, cut_to, List.map_take]
  have len : (potC ns).length ≤ 63 := by unfold potC; rw [List.length_map, List.length_take]; omega
  -- the cells
  have L1 : ∀ (s : D), coL (asg (.nm 3)) (evC P .no) (evE P (.op .add 0 (.op .mul 0 (.k (.int 2)) (.bi .abs 0 (.cons (.v 3) .nil))) (.bi .int 0 (.cons (.cm .lt (.v 3) (.k (.int 0))) .nil)))) (fun _ => true) [3] [some s, none, none, none] ((ns.take 63).map D.int) ⟨[some s, none, none, none], [], []⟩ [] = .ok ((potC ns).map D.int, ⟨[some s, none, none, none], [], []⟩) := by
    intro s
    have e : mulOk 2 = fun _ => true := funext fun i => mulOk_l (by decide)
    rw [coL_map (fun d => match d with | .int n => .int (2 * (if n < 0 then -n else n) + if n < 0 then 1 else 0) | _ => .non) ((ns.take 63).map D.int) [] (Nat.le_trans (m := 63) (by simp; omega) (by decide)) (fun x hx r acc hacc => by
        obtain ⟨n, _, rfl⟩ := List.mem_map.mp hx
        simp [coL_cons, e, hacc])]
    unfold potC
    rw [List.map_map, List.map_map, List.nil_append]
    rfl
  -- the mixing
  have L2 : ∀ (s : D) (c : List D) (cs : List Int) (a : Int), forL (asg (.nm 3)) (exB P [.set (.nm 2) (.op .mod 0 (.op .add 0 (.op .add 0 (.op .mul 0 (.v 2) (.k (.int 69069))) (.v 3)) (.k (.int 11))) (.k (.int 4294967291)))]) (postF [3] false 0) (fun _ => true) (cs.map D.int) ⟨[some s, some (.lst c), some (.int a), none], [], []⟩ = .ok (.nx, ⟨[some s, some (.lst c), some (.int (potM a cs)), none], [], []⟩) := by
    intro s c cs
    induction cs with
    | nil => intro a; rfl
    | cons x cs ih =>
      intro a
      have e : mulOk a 69069 = true := mulOk_r (by decide)
      have := ih ((a * 69069 + x + 11).fmod 4294967291)
      simp [forL_cons, e]
      rw [this]
      rfl
  -- the great ones
  have L3 : ∀ (σ : List (Option D)) (cs : List Int), cs.length ≤ 63 → σ.length = 4 → coL (asg (.nm 3)) (evC P (.so (.cm .gt (.v 3) (.op .pow 0 (.k (.int 10)) (.k (.int 12)))))) (evE P (.v 3)) (fun _ => true) [3] σ (cs.map D.int) ⟨σ, [], []⟩ [] = .ok ((cs.filter fun c => 1000000000000 < c).map D.int, ⟨σ, [], []⟩) := by
    intro σ cs hc hl
    have e : powOk 10 12 = true := by decide
    match σ, hl with
    | [a, b, c, d], _ =>
      rw [coL_filter (fun d => match d with | .int n => decide (1000000000000 < n) | _ => false) id (cs.map D.int) [] (Nat.le_trans (m := 63) (by simp; omega) (by decide)) (fun x hx r acc hacc => by
        obtain ⟨n, _, rfl⟩ := List.mem_map.mp hx
        by_cases q : 1000000000000 < n <;> simp [coL_cons, e, hacc, q])]
      rw [List.nil_append, List.map_id, List.filter_map]
      rfl
  have m1 : mulOk s1 ns.length = true := mulOk_l (by omega)
  have hl : ∀ (p : Int → Bool), ((potC ns).filter p).length ≤ 63 := fun p => Nat.le_trans (List.length_filter_le _ _) len
  have q1 : ((ns.take 63).map D.int).length ≤ 100000 := by rw [List.length_map, List.length_take]; omega
  refine ⟨[((potC ns).filter fun c => decide (1000000000000 < c)).map D.int, [.g 0, .int (potM (s0 + s1 * ns.length) (potC ns)), .int 0]], ?_, ⟨_, _, _, rfl, hl (fun c => decide (1000000000000 < c))⟩⟩
  have l1 := L1 (.sc (ns.map D.int))
  have n1 : ∀ w, newL 0 (List.take 63 (ns.map D.int)) w = .ok (.lst (List.take 63 (ns.map D.int)), w) := fun w => newL_0 (le_mx (by rw [List.length_take]; omega))
  have n2 : ∀ w, newL 0 ((potC ns).map D.int) w = .ok (.lst ((potC ns).map D.int), w) := fun w => newL_0 (le_mx (by rw [List.length_map]; omega))
  have n3 : ∀ w, newL 2 (((potC ns).filter fun c => decide (1000000000000 < c)).map D.int) w = .ok (.g w.g.length, { w with g := w.g ++ [((potC ns).filter fun c => decide (1000000000000 < c)).map D.int] }) := fun w => newL_2 (le_mx (by rw [List.length_map]; exact Nat.le_trans (hl _) (by decide))) (gOk_ints _)
  have l3 := fun σ h => L3 σ (potC ns) len h
  simp only [List.map_take] at l1 c63
  have n4 : ∀ (w : Wd) a, newL 2 [.g 0, .int a, .int 0] w = .ok (.g w.g.length, { w with g := w.g ++ [[.g 0, .int a, .int 0]] }) := fun w a => newL_2 (le_mx (show 3 ≤ 100000 by decide)) rfl
  simp [exD, potB, c63, newT_ok', m1, n1, n2, n3, n4, l1, L2, l3]
end
end Fz

/-! Q22: while loops; the bag of laws k50 to k65, k81 to k89. -/
namespace Fz
open PySem
theorem whlL_dec {test : Wd → R (Bool × Wd)} {body : Wd → R (Fl × Wd)} {post : Wd → Option Wd} (I J : Wd → Prop) (μ : Wd → Nat)
    (h : ∀ w, I w → (∃ w', test w = .ok (false, w') ∧ J w') ∨ ∃ w1 w2 w3, test w = .ok (true, w1) ∧ body w1 = .ok (.nx, w2) ∧ post w2 = some w3 ∧ I w3 ∧ μ w3 < μ w) :
    ∀ (n : Nat) (w : Wd), μ w < n → I w → ∃ w', whlL test body post n w = .ok (.nx, w') ∧ J w'
  | 0, _, hn, _ => absurd hn (Nat.not_lt_zero _)
  | n + 1, w, hn, hi => by
    rcases h w hi with ⟨w', e, j⟩ | ⟨w1, w2, w3, e1, e2, e3, i3, d⟩
    · refine ⟨w', ?_, j⟩
      show (test w).bd _ = _
      rw [e]
      rfl
    · obtain ⟨w', e4, j⟩ := whlL_dec I J μ h n w3 (by omega) i3
      refine ⟨w', ?_, j⟩
      show (test w).bd _ = _
      rw [e1, R.bd_ok]
      show (body w1).bd _ = _
      rw [e2, R.bd_ok]
      show (R.of (post w2)).bd _ = _
      rw [e3]
      exact e4
theorem divOk_m {i j : Int} (h : 0 < j) (h2 : j < 1606938044258990275541962092341162602522202993782792835301376) : divOk i j = true := by
  unfold divOk
  have : Builtin.divisionGoesByPylong i j = false := PyProof.noPylong_of_log2 (by
    have hz : j.natAbs ≠ 0 := by omega
    have : j.natAbs.log2 < 200 := (Nat.log2_lt hz).mpr (by omega)
    omega)
  rw [decide_eq_true (show j ≠ 0 by omega), this]
  simp
def bagB_0 : List S := [
  .set (.nm 3) (.op .mod 0 (.bi .int 0 (.cons (.op .add 0 (.op .add 0 (.op .mul 0 (.v 3) (.k (.int 48271))) (.op .mod 0 (.bi .int 0 (.cons (.v 2) .nil)) (.k (.int 2147483629)))) (.k (.int 5))) .nil)) (.k (.int 2147483647)))]
def bagB : List S := [
  .set (.nm 1) (.co 0 (.nm 2) (.seq (.sl 0 (.v 0) .no (.so (.k (.int 63))))) .no (.bi .abs 0 (.cons (.v 2) .nil)) [2]),
  .set (.nm 3) (.op .add 0 (.k (.int 17539)) (.bi .len 0 (.cons (.v 1) .nil))),
  .for (.nm 2) (.seq (.v 1)) bagB_0 [2] false,
  .ret (.lst 2 (.cons (.rev 2 (.v 1)) (.cons (.k (.int 0)) (.cons (.v 3) .nil))))]
def drawB_0 : List S := [
  .set (.nm 2) (.me .pop (.ix (.v 0) (.k (.int 0))) .nil),
  .put (.v 0) (.k (.int 1)) (.ite (.cm .gt (.v 2) (.op .pow 0 (.k (.int 10)) (.k (.int 9)))) (.v 2) (.k (.int 0)))]
def drawB : List S := [
  .whl (.an (.cm .eq (.ix (.v 0) (.k (.int 1))) (.k (.int 0))) (.cm .ne (.ix (.v 0) (.k (.int 0))) (.lst 0 .nil))) drawB_0 [2] true,
  .ite (.cm .gt (.ix (.v 0) (.k (.int 1))) (.k (.int 0))) [
    .set (.nm 3) (.op .mod 0 (.bi .int 0 (.cons (.ix (.v 0) (.k (.int 1))) .nil)) (.v 1)),
    .put (.v 0) (.k (.int 1)) (.op .fdiv 1 (.ix (.v 0) (.k (.int 1))) (.v 1)),
    .ret (.v 3)] [],
  .put (.v 0) (.k (.int 2)) (.op .mod 1 (.bi .int 0 (.cons (.op .add 0 (.op .mul 0 (.ix (.v 0) (.k (.int 2))) (.k (.int 48271))) (.k (.int 13))) .nil)) (.k (.int 2147483647))),
  .ret (.op .mod 0 (.bi .int 0 (.cons (.op .fdiv 0 (.op .mod 0 (.bi .int 0 (.cons (.op .mul 0 (.ix (.v 0) (.k (.int 2))) (.ix (.v 0) (.k (.int 2)))) .nil)) (.k (.int 2147483629))) (.k (.int 7))) .nil)) (.v 1))]
/-- the shared lists are a bag's -/
def Bag (g : List (List D)) : Prop := ∃ (cs : List Int) (a b : Int), g = [cs.map D.int, [.g 0, .int a, .int b]] ∧ cs.length ≤ 63
section
variable {P : Pg}
theorem draw_ok {g : List (List D)} (h : Bag g) {m : Int} (h1 : 1 ≤ m) (h2 : m < 1606938044258990275541962092341162602522202993782792835301376) : ∃ r g', exD P 4 drawB [.g 1, .int m] g = .ok (.int r, g') ∧ Bag g' ∧ 0 ≤ r ∧ r < m := by
  obtain ⟨w, e, cs, a, b, rfl, hc⟩ := whlL_dec (test := evT P (.an (.cm .eq (.ix (.v 0) (.k (.int 1))) (.k (.int 0))) (.cm .ne (.ix (.v 0) (.k (.int 0))) (.lst 0 .nil)))) (body := exB P drawB_0) (post := postF [2] true 0)
    (fun w => ∃ (cs : List Int) (a b : Int), w = ⟨[some (.g 1), some (.int m), none, none], [], [cs.map D.int, [.g 0, .int a, .int b]]⟩ ∧ cs.length ≤ 63) (fun w => ∃ (cs : List Int) (a b : Int), w = ⟨[some (.g 1), some (.int m), none, none], [], [cs.map D.int, [.g 0, .int a, .int b]]⟩ ∧ cs.length ≤ 63)
    (fun w => (w.g[0]?.getD []).length) (by
      rintro w ⟨cs, a, b, rfl, hc⟩
      have n0 : ∀ σ m, cmF .ne (.g 0) (.lst []) ⟨σ, m, [cs.map D.int, [.g 0, .int a, .int b]]⟩ = some (!cs.isEmpty) := fun σ m => ne_nil_g rfl (by omega)
      by_cases ha : a = 0
      · subst ha
        rcases List.eq_nil_or_concat cs with rfl | ⟨cs, c, rfl⟩
        · left
          simp at n0
          refine ⟨_, ?_, [], 0, b, rfl, hc⟩
          simp [newL_0, n0]
        · right
          rw [List.concat_eq_append] at *
          rw [show (!(cs ++ [c]).isEmpty) = true by cases cs <;> rfl] at n0
          have hc' : cs.length ≤ 63 := by simp at hc; omega
          have g0 : ∀ d ∈ cs.map D.int, gOk d = true := fun d hd => List.all_eq_true.mp (gOk_ints cs) d hd
          have e : powOk 10 9 = true := by decide
          simp at n0
          by_cases q : 1000000000 < c
          · refine ⟨⟨[some (.g 1), some (.int m), none, none], [], [(cs ++ [c]).map D.int, [.g 0, .int 0, .int b]]⟩, ⟨[some (.g 1), some (.int m), some (.int c), none], [], [cs.map D.int, [.g 0, .int c, .int b]]⟩, _, ?_, ?_, ?_, ⟨cs, c, b, rfl, hc'⟩, by simp⟩
            · simp [newL_0, n0]
            · simp [drawB_0, e, q, gOk]
            · simp [gc_eq]
          · refine ⟨⟨[some (.g 1), some (.int m), none, none], [], [(cs ++ [c]).map D.int, [.g 0, .int 0, .int b]]⟩, ⟨[some (.g 1), some (.int m), some (.int c), none], [], [cs.map D.int, [.g 0, .int 0, .int b]]⟩, _, ?_, ?_, ?_, ⟨cs, 0, b, rfl, hc'⟩, by simp⟩
            · simp [newL_0, n0]
            · simp [drawB_0, e, q, gOk]
            · simp [gc_eq]
      · left
        exact ⟨_, by simp [ha], cs, a, b, rfl, hc⟩)
    fuel ⟨[some (.g 1), some (.int m), none, none], [], g⟩ (by
      obtain ⟨cs, a, b, rfl, hc⟩ := h
      show (cs.map D.int).length < 1000000000000
      rw [List.length_map]; omega) (by
      obtain ⟨cs, a, b, rfl, hc⟩ := h
      exact ⟨cs, a, b, rfl, hc⟩)
  have m0 : m ≠ 0 := by omega
  by_cases q : 0 < a
  · have d : divOk a m = true := divOk_m (by omega) h2
    refine ⟨a.fmod m, _, ?_, ⟨cs, a.fdiv m, b, rfl, hc⟩, fmod_lt (by omega)⟩
    have g0 : ∀ d ∈ cs.map D.int, gOk d = true := fun d hd => List.all_eq_true.mp (gOk_ints cs) d hd
    simp [exD, drawB, e, q, m0, d, gOk]
  · have d : ∀ x, divOk x 7 = true := fun x => divOk_s (by decide) (by decide)
    have e1 : mulOk b 48271 = true := mulOk_r (by decide)
    have e2 := fmod_lt (a := b * 48271 + 13) (b := 2147483647) (by decide)
    have e3 : mulOk ((b * 48271 + 13).fmod 2147483647) ((b * 48271 + 13).fmod 2147483647) = true := mulOk_r (by omega)
    refine ⟨_, _, ?_, ⟨cs, a, (b * 48271 + 13).fmod 2147483647, rfl, hc⟩, fmod_lt (a := (((b * 48271 + 13).fmod 2147483647 * (b * 48271 + 13).fmod 2147483647).fmod 2147483629).fdiv 7) (by omega)⟩
    simp [exD, drawB, e, q, m0, d, e1, e3, gOk]
theorem pick_ok {j : Nat} {P2 : Pg} (hj : P.F j = exD P2 4 drawB) {g : List (List D)} (h : Bag g) {ds : List D} (h0 : 0 < ds.length) (h1 : ds.length < 1000000) (hr : okRets ds = true) :
    ∃ (i : Nat) (hi : i < ds.length) (g' : List (List D)), exD P 2 (oneB j) [.g 1, .lst ds] g = .ok (ds[i], g') ∧ Bag g' := by
  obtain ⟨r, g', e, hp, r0, r1⟩ := draw_ok (P := P2) h (m := ds.length) (by omega) (by omega)
  obtain ⟨i, rfl⟩ : ∃ i : Nat, r = (i : Int) := ⟨r.toNat, by omega⟩
  have hi : i < ds.length := by omega
  refine ⟨i, hi, g', ?_, hp⟩
  have e2 : P.F j [.g 1, .int ds.length] g = .ok (.int i, g') := by rw [hj]; exact e
  have e3 : ds[i]? = some ds[i] := List.getElem?_eq_getElem hi
  have e4 : ∀ w, give w ds[i] = some ds[i] := fun w => rs_ok _ (okRets_mem hr _ (List.getElem_mem hi))
  simp only [exD, oneB]
  simp [e2, ixI_nat hi, rsL_ok ds hr, -give_eq, e4, e3]
def bagC (ns : List Int) : List Int := (ns.take 63).map fun n => if n < 0 then -n else n
def bagM (s : Int) (cs : List Int) : Int := cs.foldl (fun a c => (a * 48271 + c.fmod 2147483629 + 5).fmod 2147483647) s
theorem bag_ok {ns : List Int} (hn : ns.length ≤ 63) : ∃ g', exD P 4 bagB [.sc (ns.map D.int)] [] = .ok (.g 1, g') ∧ Bag g' := by
  have c63 : cut (ns.map D.int) none (some 63) = (ns.take 63).map D.int := by
    rw [show (some 63 : Option Int) = some ((63 : Nat) : Int) from rfl, cut_to, List.map_take]
  have len : (bagC ns).length ≤ 63 := by unfold bagC; rw [List.length_map, List.length_take]; omega
  have L1 : ∀ (s : D), coL (asg (.nm 2)) (evC P .no) (evE P (.bi .abs 0 (.cons (.v 2) .nil))) (fun _ => true) [2] [some s, none, none, none] ((ns.take 63).map D.int) ⟨[some s, none, none, none], [], []⟩ [] = .ok ((bagC ns).map D.int, ⟨[some s, none, none, none], [], []⟩) := by
    intro s
    rw [coL_map (fun d => match d with | .int n => .int (if n < 0 then -n else n) | _ => .non) ((ns.take 63).map D.int) [] (Nat.le_trans (m := 63) (by simp; omega) (by decide)) (fun x hx r acc hacc => by
        obtain ⟨n, _, rfl⟩ := List.mem_map.mp hx
        simp [coL_cons, hacc])]
    unfold bagC
    rw [List.map_map, List.map_map, List.nil_append]
    rfl
  have L2 : ∀ (s : D) (c : List D) (cs : List Int) (a : Int), forL (asg (.nm 2)) (exB P bagB_0) (postF [2] false 0) (fun _ => true) (cs.map D.int) ⟨[some s, some (.lst c), none, some (.int a)], [], []⟩ = .ok (.nx, ⟨[some s, some (.lst c), none, some (.int (bagM a cs))], [], []⟩) := by
    intro s c cs
    induction cs with
    | nil => intro a; rfl
    | cons x cs ih =>
      intro a
      have e : mulOk a 48271 = true := mulOk_r (by decide)
      have := ih ((a * 48271 + x.fmod 2147483629 + 5).fmod 2147483647)
      simp [forL_cons, bagB_0, e]
      unfold bagB_0 at this
      rw [this]
      rfl
  refine ⟨[(bagC ns).reverse.map D.int, [.g 0, .int 0, .int (bagM (17539 + (bagC ns).length) (bagC ns))]], ?_, ⟨_, _, _, rfl, by rw [List.length_reverse]; exact len⟩⟩
  have l1 := L1 (.sc (ns.map D.int))
  have n1 : ∀ w, newL 0 (List.take 63 (ns.map D.int)) w = .ok (.lst (List.take 63 (ns.map D.int)), w) := fun w => newL_0 (le_mx (by rw [List.length_take]; omega))
  have n2 : ∀ w, newL 0 ((bagC ns).map D.int) w = .ok (.lst ((bagC ns).map D.int), w) := fun w => newL_0 (le_mx (by rw [List.length_map]; omega))
  have n3 : ∀ w, newL 2 ((bagC ns).reverse.map D.int) w = .ok (.g w.g.length, { w with g := w.g ++ [(bagC ns).reverse.map D.int] }) := fun w => newL_2 (le_mx (by rw [List.length_map, List.length_reverse]; omega)) (gOk_ints _)
  simp only [List.map_take] at l1 c63
  have n4 : ∀ (w : Wd) a, newL 2 [.g 0, .int 0, .int a] w = .ok (.g w.g.length, { w with g := w.g ++ [[.g 0, .int 0, .int a]] }) := fun w a => newL_2 (le_mx (show 3 ≤ 100000 by decide)) rfl
  simp only [List.map_reverse] at n3 ⊢
  simp [exD, bagB, c63, n1, n2, n3, n4, l1, L2]
end
end Fz

/-! Q23: rows told by a function; sizes in bits. -/
namespace Fz
open PySem
/-- the row of f 0 to f (m - 1) -/
def rl (m : Nat) (f : Nat → Int) : List D := (List.range m).map fun j => D.int (f j)
section
variable {m : Nat} {f g : Nat → Int}
@[simp] theorem rl_len : (rl m f).length = m := by simp [rl]
@[simp] theorem rl_at {i : Nat} {h : i < (rl m f).length} : (rl m f)[i] = .int (f i) := by simp [rl]
theorem rl_get {i : Nat} (h : i < m) : (rl m f)[i]? = some (.int (f i)) := by
  rw [List.getElem?_eq_getElem (by rw [rl_len]; exact h)]
  simp
theorem rl_congr (h : ∀ i, i < m → f i = g i) : rl m f = rl m g := by
  unfold rl
  exact List.map_congr_left fun j hj => by rw [h j (List.mem_range.mp hj)]
theorem rl_succ : rl (m + 1) f = rl m f ++ [.int (f m)] := by
  unfold rl
  rw [List.range_succ, List.map_append]
  rfl
theorem rl_set {i : Nat} {v : Int} : (rl m f).set i (.int v) = rl m fun j => if j = i then v else f j := by
  refine List.ext_getElem? fun j => ?_
  by_cases hj : j < m
  · rw [rl_get hj, List.getElem?_set]
    by_cases e : i = j
    · subst e
      rw [if_pos rfl, if_pos (by rw [rl_len]; exact hj), if_pos rfl]
    · rw [if_neg e, rl_get hj, if_neg (fun z => e z.symm)]
  · rw [List.getElem?_eq_none (by rw [List.length_set, rl_len]; omega), List.getElem?_eq_none (by rw [rl_len]; omega)]
theorem rl_take {k : Nat} (h : k ≤ m) : (rl m f).take k = rl k f := by
  unfold rl
  rw [← List.map_take, List.take_range, Nat.min_eq_left h]
theorem rl_ok : okRets (rl m f) = true := okRets_all fun d hd => by
  obtain ⟨j, _, rfl⟩ := List.mem_map.mp hd
  rfl
@[simp] theorem rl_lend {ρ : Nat → Option D} {φ : Bool} : rsL ρ φ (rl m f) = some (rl m f) := rsL_ok _ rl_ok
theorem rl_rep {v : Int} : (List.replicate m [D.int v]).flatten = rl m fun _ => v := by
  induction m with
  | zero => rfl
  | succ m ih =>
    rw [List.replicate_succ', List.flatten_append, ih, rl_succ]
    rfl
theorem rl_pl {k n : Nat} (h : ∀ i, i < m → (f i).natAbs < 10 ^ k) : Pls k n (rl m f) := Pls_all fun d hd => by
  obtain ⟨j, hj, rfl⟩ := List.mem_map.mp hd
  exact Pl_int.mpr (h j (List.mem_range.mp hj))
theorem rl_sz {k : Nat} : szBs k (rl m f) ≤ m * (k + 3) := by
  have := szBs_le (k := k) (ds := rl m f) (c := k + 1) fun d hd => by
    obtain ⟨j, _, rfl⟩ := List.mem_map.mp hd
    exact Nat.le_refl _
  rw [rl_len] at this
  exact this
theorem rl_ints : rl m f = ((List.range m).map f).map D.int := by
  unfold rl
  rw [List.map_map]
  rfl
end
/-! ### sizes -/
def Sz (b : Nat) (v : Int) : Prop := v.natAbs < 2 ^ b
theorem Sz.mul {a b : Nat} {u v : Int} (h1 : Sz a u) (h2 : Sz b v) : Sz (a + b) (u * v) := by
  unfold Sz at *
  rw [Int.natAbs_mul, Nat.pow_add]
  rcases Nat.eq_zero_or_pos v.natAbs with e | e
  · rw [e, Nat.mul_zero]
    exact Nat.mul_pos (Nat.pow_pos (by decide)) (Nat.pow_pos (by decide))
  · exact Nat.mul_lt_mul_of_lt_of_le h1 (Nat.le_of_lt h2) (Nat.pow_pos (by decide))
theorem Sz.mono {a b : Nat} {u : Int} (h1 : Sz a u) (h : a ≤ b) : Sz b u := Nat.lt_of_lt_of_le h1 (Nat.pow_le_pow_right (by decide) h)
theorem Sz.le {b : Nat} {u v : Int} (h : Sz b v) (h0 : 0 ≤ u) (h1 : u ≤ v) : Sz b u := by
  unfold Sz at *
  omega
theorem Sz.neg {b : Nat} {u : Int} (h : Sz b u) : Sz b (-u) := by
  unfold Sz at *
  rw [Int.natAbs_neg]
  exact h
theorem Sz.add {b c : Nat} {u v : Int} (h : Sz b u) (h2 : Sz c v) : Sz (max b c + 1) (u + v) := by
  have a1 := h.mono (Nat.le_max_left b c)
  have a2 := h2.mono (Nat.le_max_right b c)
  unfold Sz at *
  rw [Nat.pow_succ]
  omega
theorem Sz.sub {b c : Nat} {u v : Int} (h : Sz b u) (h2 : Sz c v) : Sz (max b c + 1) (u - v) := h.add h2.neg
theorem Sz.one : Sz 1 1 := by unfold Sz; decide
theorem Sz.zero {b : Nat} : Sz b 0 := by unfold Sz; exact Nat.pow_pos (by decide)
theorem Sz.pow {b : Nat} {v : Int} (h : Sz b v) : ∀ n : Nat, Sz (b * n + 1) (v ^ n)
  | 0 => by rw [Int.pow_zero]; exact Sz.one.mono (by omega)
  | n + 1 => by
    rw [Int.pow_succ]
    exact ((h.pow n).mul h).mono (by rw [Nat.mul_succ]; omega)
theorem Sz.mulOk {a b : Nat} {u v : Int} (h1 : Sz a u) (h2 : Sz b v) (ha : a ≤ 400000) (hb : b ≤ 400000) : mulOk u v = true := mulOk_b h1 h2 ha hb
theorem Sz.fdiv {a : Nat} {u v : Int} (h : Sz a u) (h0 : 0 ≤ u) (hv : 0 < v) : Sz a (u.fdiv v) := by
  refine h.le (Int.fdiv_nonneg h0 (by omega)) ?_
  rw [Int.fdiv_eq_ediv_of_nonneg _ (by omega)]
  exact Int.ediv_le_self _ h0
/-! ### powers -/
theorem pw_pos' {q : Int} (hq : 1 ≤ q) (n : Nat) : 1 ≤ q ^ n := by
  induction n with
  | zero => simp
  | succ n ih =>
    rw [Int.pow_succ]
    have := Int.mul_le_mul ih hq (by decide) (by omega)
    omega
theorem pw_le' {q : Int} (hq : 1 ≤ q) {i n : Nat} (h : i ≤ n) : q ^ i ≤ q ^ n := by
  obtain ⟨d, rfl⟩ : ∃ d, n = i + d := ⟨n - i, by omega⟩
  rw [Int.pow_add]
  have h1 := pw_pos' hq i
  have h2 := pw_pos' hq d
  have := Int.mul_le_mul_of_nonneg_left h2 (show 0 ≤ q ^ i by omega)
  omega
end Fz
namespace Fz
open PySem
theorem fmod_nat (a b : Nat) : Int.fmod (a : Int) (b : Int) = ((a % b : Nat) : Int) := by
  rw [Int.fmod_eq_emod_of_nonneg _ (by omega)]
  exact (Int.natCast_emod a b).symm
theorem fdiv_nat (a b : Nat) : Int.fdiv (a : Int) (b : Int) = ((a / b : Nat) : Int) := by
  rw [Int.fdiv_eq_ediv_of_nonneg _ (by omega)]
  exact (Int.natCast_ediv a b).symm
theorem divOk_log {i j : Int} (h : 0 < j) (h2 : Sz 9000 j) : divOk i j = true := by
  unfold divOk
  have : Builtin.divisionGoesByPylong i j = false := PyProof.noPylong_of_log2 ((Nat.log2_lt (by omega)).mpr h2)
  rw [decide_eq_true (show j ≠ 0 by omega), this]
  simp
theorem divOk_q {g w : Int} (hg : Sz 4000 g) (hw : 1 ≤ w) : divOk (g * w) w = true := by
  have h0 : w ≠ 0 := by omega
  have : Builtin.divisionGoesByPylong (g * w) w = false := by
    unfold Builtin.divisionGoesByPylong
    by_cases z : g * w = 0
    · simp [z]
    · have e : (g * w).natAbs.log2 ≤ w.natAbs.log2 + 4001 := by
        have l1 : w.natAbs < 2 ^ (w.natAbs.log2 + 1) := Nat.lt_log2_self
        have l2 : (g * w).natAbs < 2 ^ (w.natAbs.log2 + 4001) := by
          rw [Int.natAbs_mul, show w.natAbs.log2 + 4001 = 4000 + (w.natAbs.log2 + 1) by omega, Nat.pow_add]
          have p : 0 < (2 : Nat) ^ 4000 := Nat.pow_pos (by decide)
          exact Nat.lt_of_le_of_lt (Nat.mul_le_mul_right _ (Nat.le_of_lt hg)) (Nat.mul_lt_mul_of_pos_left l1 p)
        have := (Nat.log2_lt (show (g * w).natAbs ≠ 0 by omega)).mpr l2
        omega
      simp [h0, z]
      intro _
      have d1 := Nat.div_add_mod ((g * w).natAbs.log2) 30
      have d2 := Nat.div_add_mod (w.natAbs.log2) 30
      omega
  unfold divOk
  rw [this, decide_eq_true h0]
  simp
end Fz

/-! Q24: how many spaces there are: products and quotients. -/
namespace Fz
open PySem
def fl (q : Int) (n : Nat) : Nat → Int
  | 0 => 1
  | k + 1 => fl q n k * (q ^ n - q ^ k)
def G (q : Int) : Nat → Nat → Int
  | _, 0 => 1
  | 0, _ + 1 => 0
  | n + 1, k + 1 => G q n k + q ^ (k + 1) * G q n (k + 1)
section
variable {q : Int}
theorem fl_front (n : Nat) : ∀ k, fl q (n + 1) (k + 1) = (q ^ (n + 1) - 1) * q ^ k * fl q n k
  | 0 => by simp [fl]
  | k + 1 => by
    have ih := fl_front n k
    rw [fl, ih, fl]
    rw [Int.pow_succ q n, Int.pow_succ q k]
    grind
theorem fl_big : ∀ {n k : Nat}, n < k → fl q n k = 0
  | n, k + 1, h => by
    by_cases e : n = k
    · subst e; simp [fl]
    · rw [fl, fl_big (show n < k by omega)]; simp
theorem fl_G : ∀ n k, fl q n k = G q n k * fl q k k
  | n, 0 => by cases n <;> simp [fl, G]
  | 0, k + 1 => by rw [fl_big (Nat.zero_lt_succ _)]; simp [G]
  | n + 1, k + 1 => by
    have h1 := fl_G n k
    have h2 := fl_G n (k + 1)
    have h3 := fl_front (q := q) k k
    have h4 := fl_front (q := q) n k
    have h5 : fl q n (k + 1) = fl q n k * (q ^ n - q ^ k) := rfl
    rw [G]
    rw [Int.pow_succ q k, Int.pow_succ q n] at *
    grind
theorem fl_more (n k : Nat) (h : k ≤ n) : ∀ m, fl q n (k + m) = fl q n k * q ^ (k * m) * fl q (n - k) m
  | 0 => by simp [fl]
  | m + 1 => by
    have ih := fl_more n k h m
    show fl q n (k + m) * (q ^ n - q ^ (k + m)) = _
    rw [ih, fl, Nat.mul_succ, Int.pow_add, Int.pow_add, show q ^ n = q ^ k * q ^ (n - k) by rw [← Int.pow_add]; congr 1; omega]
    grind
variable (hq : 2 ≤ q)
include hq
theorem pw_pos (n : Nat) : 1 ≤ q ^ n := by
  induction n with
  | zero => simp
  | succ n ih =>
    rw [Int.pow_succ]
    have := Int.mul_le_mul ih (show 1 ≤ q by omega) (by decide) (by omega)
    omega
theorem pw_lt {i n : Nat} (h : i < n) : q ^ i < q ^ n := by
  obtain ⟨d, rfl⟩ : ∃ d, n = i + (d + 1) := ⟨n - i - 1, by omega⟩
  rw [Int.pow_add]
  have h1 := pw_pos hq i
  have h2 := pw_pos hq d
  have h3 : 2 ≤ q ^ (d + 1) := by
    rw [Int.pow_succ]
    have := Int.mul_le_mul h2 hq (by decide) (by omega)
    omega
  have := Int.mul_le_mul_of_nonneg_left h3 (show 0 ≤ q ^ i by omega)
  omega
theorem fl_pos {n : Nat} : ∀ {k}, k ≤ n → 1 ≤ fl q n k
  | 0, _ => by simp [fl]
  | k + 1, h => by
    have h1 := fl_pos (n := n) (k := k) (by omega)
    have h2 := pw_lt hq (show k < n by omega)
    rw [fl]
    have := Int.mul_le_mul h1 (show 1 ≤ q ^ n - q ^ k by omega) (by decide) (by omega)
    omega
theorem G_pos : ∀ n k, 0 ≤ G q n k
  | _, 0 => by simp [G]
  | 0, _ + 1 => by simp [G]
  | n + 1, k + 1 => by
    rw [G]
    have h1 := G_pos n k
    have h2 := G_pos n (k + 1)
    have h3 := pw_pos hq (k + 1)
    have := Int.mul_nonneg (show 0 ≤ q ^ (k + 1) by omega) h2
    omega
theorem quo {n k : Nat} : (fl q n k).fdiv (fl q k k) = G q n k := by
  rw [fl_G n k]
  have := fl_pos hq (Nat.le_refl k)
  exact Int.mul_fdiv_cancel _ (by omega)
theorem sym {n k : Nat} (h : k ≤ n) : G q n (n - k) = G q n k := by
  have key : ∀ {k : Nat}, k ≤ n → fl q n n = G q n k * (fl q k k * q ^ (k * (n - k)) * fl q (n - k) (n - k)) := by
    intro k h
    have := fl_more (q := q) n k h (n - k)
    rw [show k + (n - k) = n by omega] at this
    rw [this, fl_G n k]
    grind
  have h1 := key h
  have h2 := key (k := n - k) (by omega)
  rw [show n - (n - k) = k by omega, Nat.mul_comm (n - k) k] at h2
  have p1 := fl_pos hq (Nat.le_refl k)
  have p2 := fl_pos hq (Nat.le_refl (n - k))
  have p3 := pw_pos hq (k * (n - k))
  have p4 : fl q k k * q ^ (k * (n - k)) * fl q (n - k) (n - k) ≠ 0 := by
    have := Int.mul_pos (Int.mul_pos (show 0 < fl q k k by omega) (show 0 < q ^ (k * (n - k)) by omega)) (show 0 < fl q (n - k) (n - k) by omega)
    omega
  refine Int.eq_of_mul_eq_mul_right p4 ?_
  rw [← h1, h2]
  grind
theorem G_big : ∀ {n k : Nat}, n < k → G q n k = 0
  | 0, k + 1, _ => by simp [G]
  | n + 1, k + 1, h => by rw [G, G_big (show n < k by omega), G_big (show n < k + 1 by omega)]; simp
theorem pw_le {i n : Nat} (h : i ≤ n) : q ^ i ≤ q ^ n := by
  rcases Nat.lt_or_eq_of_le h with h | rfl
  · exact Int.le_of_lt (pw_lt hq h)
  · exact Int.le_refl _
theorem G_le : ∀ {n k : Nat}, k ≤ n → G q n k ≤ 2 ^ n * q ^ (k * (n - k))
  | n, 0, _ => by
    have : (1 : Int) ≤ 2 ^ n := pw_pos (q := 2) (by decide) n
    cases n <;> simp [G] <;> omega
  | n + 1, k + 1, h => by
    have h1 := G_le (n := n) (k := k) (by omega)
    have e1 : k * (n - k) ≤ (k + 1) * (n - k) := Nat.mul_le_mul_right _ (by omega)
    have e2 := pw_le hq e1
    have p2 : (1 : Int) ≤ 2 ^ n := pw_pos (q := 2) (by decide) n
    have e3 := Int.mul_le_mul_of_nonneg_left e2 (show (0 : Int) ≤ 2 ^ n by omega)
    rw [G, show n + 1 - (k + 1) = n - k by omega, Int.pow_succ 2 n]
    by_cases hk : k < n
    · have h2 := G_le (n := n) (k := k + 1) (by omega)
      have p := pw_pos hq (k + 1)
      have h3 := Int.mul_le_mul_of_nonneg_left h2 (show 0 ≤ q ^ (k + 1) by omega)
      have e4 : q ^ (k + 1) * (2 ^ n * q ^ ((k + 1) * (n - (k + 1)))) = 2 ^ n * q ^ ((k + 1) * (n - k)) := by
        rw [show (k + 1) * (n - k) = (k + 1) + (k + 1) * (n - (k + 1)) by rw [show n - k = (n - (k + 1)) + 1 by omega, Nat.mul_succ]; omega, Int.pow_add]
        grind
      rw [e4] at h3
      generalize q ^ (k + 1) * G q n (k + 1) = z at *
      grind
    · rw [G_big hq (show n < k + 1 by omega)]
      have p3 := pw_pos hq ((k + 1) * (n - k))
      have := Int.mul_nonneg (show (0 : Int) ≤ 2 ^ n by omega) (show 0 ≤ q ^ ((k + 1) * (n - k)) by omega)
      grind
end
end Fz

/-! Q25: tuples of ints: in, sorted; what is among what. -/
namespace Fz
open PySem
theorem eqv_ints : ∀ a b : List Int, PyData.eqvAll (pds (a.map D.int)) (pds (b.map D.int)) = decide (a = b)
  | [], [] => by simp [pds, PyData.eqvAll]
  | [], _ :: _ => by simp [pds, PyData.eqvAll]
  | _ :: _, [] => by simp [pds, PyData.eqvAll]
  | x :: a, y :: b => by
    have ih := eqv_ints a b
    show (PyData.eqv (.int x) (.int y) && PyData.eqvAll (pds (a.map D.int)) (pds (b.map D.int))) = _
    rw [ih, PyData.eqv]
    by_cases h : x = y <;> simp [h]
theorem eqv_tupI (a b : List Int) : PyData.eqv (pd (tupI a)) (pd (tupI b)) = decide (a = b) := by
  show PyData.eqv (.tuple (pds (a.map D.int))) (.tuple (pds (b.map D.int))) = _
  rw [PyData.eqv, eqv_ints]
/-! ### comprehensions and loops over lists of anything -/
theorem coL_fil {α : Type} {bind : D → Wd → Option Wd} {test : Wd → R (Bool × Wd)} {elt : Wd → R (D × Wd)} {ok : Wd → Bool} {own : List Nat} {σ : List (Option D)} {m g : List (List D)} (dd ee : α → D) (pr : α → Bool) : ∀ (l : List α) (acc : List D), acc.length + l.length ≤ mxLen →
    (∀ x ∈ l, ∀ r acc, acc.length < mxLen → coL bind test elt ok own σ (dd x :: r) ⟨σ, m, g⟩ acc = coL bind test elt ok own σ r ⟨σ, m, g⟩ (if pr x then acc ++ [ee x] else acc)) →
    coL bind test elt ok own σ (l.map dd) ⟨σ, m, g⟩ acc = .ok (acc ++ (l.filter pr).map ee, ⟨σ, m, g⟩)
  | [], acc, _, _ => by simp
  | x :: l, acc, hl, hx => by
    rw [List.length_cons] at hl
    rw [List.map_cons, hx x List.mem_cons_self _ _ (by omega), coL_fil dd ee pr l _ (by
      split
      · rw [List.length_append, List.length_singleton]; omega
      · omega) (fun y hy => hx y (List.mem_cons_of_mem _ hy))]
    by_cases h : pr x = true
    · simp [h]
    · simp [h]
theorem coL_mp {α : Type} {bind : D → Wd → Option Wd} {test : Wd → R (Bool × Wd)} {elt : Wd → R (D × Wd)} {ok : Wd → Bool} {own : List Nat} {σ : List (Option D)} {m g : List (List D)} (dd ee : α → D) (l : List α) (acc : List D) (hl : acc.length + l.length ≤ mxLen)
    (hx : ∀ x ∈ l, ∀ r acc, acc.length < mxLen → coL bind test elt ok own σ (dd x :: r) ⟨σ, m, g⟩ acc = coL bind test elt ok own σ r ⟨σ, m, g⟩ (acc ++ [ee x])) :
    coL bind test elt ok own σ (l.map dd) ⟨σ, m, g⟩ acc = .ok (acc ++ l.map ee, ⟨σ, m, g⟩) := by
  have := coL_fil dd ee (fun _ => true) l acc hl (fun x h r acc ha => by rw [hx x h r acc ha]; simp)
  rw [this, List.filter_eq_self.mpr (fun _ _ => rfl)]
/-- items that draw -/
theorem coL_inv {bind : D → Wd → Option Wd} {test : Wd → R (Bool × Wd)} {elt : Wd → R (D × Wd)} {ok : Wd → Bool} {own : List Nat} {σ : List (Option D)} {m : List (List D)} (I : List D → List (List D) → Prop) :
    ∀ (xs acc : List D) (g : List (List D)), (∀ x ∈ xs, ∀ r acc g, I acc g → acc.length < mxLen → ∃ y g', I (acc ++ [y]) g' ∧ coL bind test elt ok own σ (x :: r) ⟨σ, m, g⟩ acc = coL bind test elt ok own σ r ⟨σ, m, g'⟩ (acc ++ [y])) → acc.length + xs.length ≤ mxLen → I acc g →
    ∃ ys g', ys.length = acc.length + xs.length ∧ I ys g' ∧ coL bind test elt ok own σ xs ⟨σ, m, g⟩ acc = .ok (ys, ⟨σ, m, g'⟩)
  | [], acc, g, _, _, h => ⟨acc, g, rfl, h, rfl⟩
  | x :: xs, acc, g, hx, hl, h => by
    rw [List.length_cons] at hl
    obtain ⟨y, g1, h1, e1⟩ := hx x List.mem_cons_self xs acc g h (by omega)
    obtain ⟨ys, g2, l2, h2, e2⟩ := coL_inv I xs (acc ++ [y]) g1 (fun x hx' => hx x (List.mem_cons_of_mem _ hx')) (by rw [List.length_append, List.length_singleton]; omega) h1
    exact ⟨ys, g2, by rw [l2, List.length_append, List.length_singleton, List.length_cons]; omega, h2, e1.trans e2⟩
/-- a loop that ends at the first of a kind -/
theorem forL_find {α : Type} {bind : D → Wd → Option Wd} {body : Wd → R (Fl × Wd)} {post : Wd → Option Wd} {ok : Wd → Bool} (dd vv : α → D) (pr : α → Bool) (st : Wd) (st' : α → Wd) : ∀ l : List α, (∀ x ∈ l, ∀ r, forL bind body post ok (dd x :: r) st = if pr x then .ok (.rt (vv x), st' x) else forL bind body post ok r st) →
    forL bind body post ok (l.map dd) st = match l.find? pr with
      | some x => .ok (.rt (vv x), st' x)
      | none => .ok (.nx, st)
  | [], _ => rfl
  | x :: l, h => by
    rw [List.map_cons, h x List.mem_cons_self]
    by_cases hp : pr x = true
    · rw [if_pos hp, List.find?_cons_of_pos hp]
    · rw [if_neg hp, List.find?_cons_of_neg hp]
      exact forL_find dd vv pr st st' l fun y hy => h y (List.mem_cons_of_mem _ hy)
/-- x among some, by their values -/
theorem in_tup {k n : Nat} {d : D} {ds : List D} {w : Wd} (hf : isFlat d = false) (h : Pl k n d) (h2 : Pl k n (.tup ds)) (hn : n ≤ 64) : cmF .isin d (.tup ds) w = some ((pds ds).any fun z => PyData.eqv z (pd d)) := by
  have s1 : SeqAt.shaped (pd d) = true := by
    obtain ⟨a, b, c⟩ := pd_fit d n h
    show ((pd d).canLay0 && decide _) = true
    rw [a, decide_eq_true (Nat.le_trans b hn)]; rfl
  have s2 : SeqAt.shaped (pd (.tup ds)) = true := by
    obtain ⟨a, b, c⟩ := pd_fit (.tup ds) n h2
    show ((pd (.tup ds)).canLay0 && decide _) = true
    rw [a, decide_eq_true (Nat.le_trans b hn)]; rfl
  show (if isFlat d then _ else inD d (.tup ds) w) = _
  rw [hf, if_neg Bool.false_ne_true]
  unfold inD
  rw [py_of h, py_of h2]
  show (if (SeqAt.shaped (pd d) && SeqAt.shaped (pd (.tup ds))) = true then _ else _) = _
  rw [s1, s2]
  rfl
theorem pds_any {α : Type} (dd : α → D) (q : PyData → Bool) (l : List α) : (pds (l.map dd)).any q = l.any fun x => q (pd (dd x)) := by
  induction l with
  | nil => rfl
  | cons x l ih => rw [List.map_cons, pds, List.any_cons, List.any_cons, ih]
end Fz

/-! the program of k64 in own syntax (printed by wip/gen.py) -/
namespace K64
open PySem Fz
def topS (i : Nat) : Stmt := PySem.Challenge.pw_formspaces_k64_whole_common_points.main.body.getD i (.Pass ⟨0, 0, 0, 0⟩)
/-- 0 head_of: 0=row 1=some 2=place 3=item -/
def e0_0 : E := (.v 2)
def c0_0 : Oe := (.so (.cm .ne (.v 3) (.k (.int 0))))
def b0 : List S := [
  .set (.nm 1) (.co 0 (.tu [.nm 2, .nm 3]) (.enu (.v 0)) c0_0 e0_0 [2, 3]),
  .ret (.ite (.cm .ne (.v 1) (.lst 0 .nil)) (.ix (.v 1) (.k (.int 0))) (.k .non))]
/-- 1 power_of: 0=number 1=often 2=found 3=step -/
def b1_0 : List S := [
  .set (.nm 2) (.op .mul 0 (.v 2) (.v 0))]
def b1 : List S := [
  .set (.nm 2) (.k (.int 1)),
  .for (.nm 3) (.rng (.cons (.v 1) .nil)) b1_0 [3] false,
  .ret (.v 2)]
/-- 2 need_few: 0=p 1=n -/
def b2 : List S := [
  .ite (.cm .gt (.call 1 none (.cons (.v 0) (.cons (.v 1) .nil)) .nil) (.gl 0)) [
    .dead] []]
/-- 3 rows_of_length: 0=p 1=n 2=found 3=step 4=longer 5=row 6=item -/
def e3_0 : E := (.op .add 0 (.v 5) (.tup (.cons (.v 6) .nil)))
def b3_0 : List S := [
  .ex (.me .extend (.v 4) (.cons (.co 0 (.nm 6) (.rng (.cons (.v 0) .nil)) .no e3_0 [6]) .nil))]
def b3_1 : List S := [
  .set (.nm 4) (.lst 1 .nil),
  .for (.nm 5) (.seq (.v 2)) b3_0 [5] false,
  .set (.nm 2) (.v 4)]
def b3 : List S := [
  .set (.nm 2) (.lst 0 (.cons (.tup .nil) .nil)),
  .for (.nm 3) (.rng (.cons (.v 1) .nil)) b3_1 [3, 4, 5] true,
  .ret (.v 2)]
/-- 4 is_point: 0=row 1=head -/
def b4 : List S := [
  .set (.nm 1) (.call 0 none (.cons (.v 0) .nil) .nil),
  .ret (.an (.cm .isnot (.v 1) (.k .non)) (.cm .eq (.ix (.v 0) (.v 1)) (.k (.int 1))))]
/-- 5 all_rows: 0=p 1=n -/
def b5 : List S := [
  .ex (.call 2 none (.cons (.v 0) (.cons (.v 1) .nil)) .nil),
  .ret (.bi .tuple 0 (.cons (.call 3 none (.cons (.v 0) (.cons (.v 1) .nil)) .nil) .nil))]
/-- 6 points_of: 0=p 1=n 2=row -/
def e6_0 : E := (.v 2)
def c6_0 : Oe := (.so (.call 4 none (.cons (.v 2) .nil) .nil))
def b6 : List S := [
  .ret (.bi .tuple 0 (.cons (.co 0 (.nm 2) (.seq (.call 5 none (.cons (.v 0) (.cons (.v 1) .nil)) .nil)) c6_0 e6_0 [2]) .nil))]
/-- 7 form_at: 0=p 1=form 2=x 3=total 4=i 5=row 6=item 7=own -/
def e7_0 : E := (.op .mul 0 (.v 6) (.v 7))
def b7_0 : List S := [
  .ite (.cm .ne (.ix (.v 2) (.v 4)) (.k (.int 0))) [
    .set (.nm 3) (.op .add 0 (.v 3) (.op .mul 0 (.ix (.v 2) (.v 4)) (.bi .sum 0 (.cons (.co 0 (.tu [.nm 6, .nm 7]) (.zip (.sl 0 (.v 5) (.so (.v 4)) .no) (.sl 0 (.v 2) (.so (.v 4)) .no)) .no e7_0 [6, 7]) .nil))))] []]
def b7 : List S := [
  .set (.nm 3) (.k (.int 0)),
  .for (.tu [.nm 4, .nm 5]) (.enu (.v 1)) b7_0 [4, 5] false,
  .ret (.op .mod 0 (.v 3) (.v 0))]
/-- 8 item_sum: 0=p 1=one 2=other 3=a 4=b -/
def e8_0 : E := (.op .mul 0 (.v 3) (.v 4))
def b8 : List S := [
  .ret (.op .mod 0 (.bi .sum 0 (.cons (.co 0 (.tu [.nm 3, .nm 4]) (.zip (.v 1) (.v 2)) .no e8_0 [3, 4]) .nil)) (.v 0))]
/-- 9 oval_points: 0=p 1=form 2=point -/
def e9_0 : E := (.v 2)
def c9_0 : Oe := (.so (.cm .eq (.call 7 none (.cons (.v 0) (.cons (.v 1) (.cons (.v 2) .nil))) .nil) (.k (.int 0))))
def b9 : List S := [
  .ret (.bi .tuple 0 (.cons (.co 0 (.nm 2) (.seq (.call 6 none (.cons (.v 0) (.cons (.k (.int 3)) .nil)) .nil)) c9_0 e9_0 [2]) .nil))]
/-- 10 common_points: 0=p 1=one 2=other 3=own 4=point -/
def e10_0 : E := (.v 4)
def c10_0 : Oe := (.so (.cm .isin (.v 4) (.v 3)))
def b10 : List S := [
  .set (.nm 3) (.call 9 none (.cons (.v 0) (.cons (.v 2) .nil)) .nil),
  .ret (.bi .tuple 0 (.cons (.co 0 (.nm 4) (.seq (.call 9 none (.cons (.v 0) (.cons (.v 1) .nil)) .nil)) c10_0 e10_0 [4]) .nil))]
/-- 11 common_line: 0=p 1=one 2=other 3=points 4=line 5=point -/
def e11_0 : E := (.v 5)
def c11_0 : Oe := (.so (.cm .eq (.call 8 none (.cons (.v 0) (.cons (.v 4) (.cons (.v 5) .nil))) .nil) (.k (.int 0))))
def b11_0 : List S := [
  .ite (.cm .eq (.bi .len 0 (.cons (.co 0 (.nm 5) (.seq (.v 3)) c11_0 e11_0 [5]) .nil)) (.op .add 0 (.v 0) (.k (.int 1)))) [
    .ret (.v 4)] []]
def b11 : List S := [
  .set (.nm 3) (.call 10 none (.cons (.v 0) (.cons (.v 1) (.cons (.v 2) .nil))) .nil),
  .for (.nm 4) (.seq (.call 6 none (.cons (.v 0) (.cons (.k (.int 3)) .nil)) .nil)) b11_0 [4] false,
  .ret (.k .non)]
/-- 12 times_form: 0=p 1=form 2=number 3=item 4=row -/
def e12_0 : E := (.op .mod 0 (.op .mul 0 (.v 3) (.v 2)) (.v 0))
def e12_1 : E := (.bi .tuple 0 (.cons (.co 0 (.nm 3) (.seq (.v 4)) .no e12_0 [3]) .nil))
def b12 : List S := [
  .ret (.bi .tuple 0 (.cons (.co 0 (.nm 4) (.seq (.v 1)) .no e12_1 [4]) .nil))]
/-- 13 are_times: 0=p 1=one 2=other 3=number -/
def b13_0 : List S := [
  .ite (.or (.cm .eq (.call 12 none (.cons (.v 0) (.cons (.v 1) (.cons (.v 3) .nil))) .nil) (.v 2)) (.cm .eq (.call 12 none (.cons (.v 0) (.cons (.v 2) (.cons (.v 3) .nil))) .nil) (.v 1))) [
    .ret (.k (.bl true))] []]
def b13 : List S := [
  .for (.nm 3) (.rng (.cons (.v 0) .nil)) b13_0 [3] false,
  .ret (.k (.bl false))]
/-- 14 meeting_word: 0=p 1=one 2=other -/
def b14 : List S := [
  .ite (.call 13 none (.cons (.v 0) (.cons (.v 1) (.cons (.v 2) .nil))) .nil) [
    .ret (.k (.str "times"))] [],
  .ret (.ite (.cm .is (.call 11 none (.cons (.v 0) (.cons (.v 1) (.cons (.v 2) .nil))) .nil) (.k .non)) (.k (.str "points")) (.k (.str "line")))]
/-- 15 _law_bag: 0=script 1=cells 2=cell 3=mixed -/
def e15_0 : E := (.bi .abs 0 (.cons (.v 2) .nil))
def b15_0 : List S := [
  .set (.nm 3) (.op .mod 0 (.bi .int 0 (.cons (.op .add 0 (.op .add 0 (.op .mul 0 (.v 3) (.k (.int 48271))) (.op .mod 0 (.bi .int 0 (.cons (.v 2) .nil)) (.k (.int 2147483629)))) (.k (.int 5))) .nil)) (.k (.int 2147483647)))]
def b15 : List S := [
  .set (.nm 1) (.co 0 (.nm 2) (.seq (.sl 0 (.v 0) .no (.so (.k (.int 63))))) .no e15_0 [2]),
  .set (.nm 3) (.op .add 0 (.k (.int 17539)) (.bi .len 0 (.cons (.v 1) .nil))),
  .for (.nm 2) (.seq (.v 1)) b15_0 [2] false,
  .ret (.lst 2 (.cons (.rev 2 (.v 1)) (.cons (.k (.int 0)) (.cons (.v 3) .nil))))]
/-- 16 _law_draw: 0=bag 1=below 2=cell 3=found -/
def b16_0 : List S := [
  .set (.nm 2) (.me .pop (.ix (.v 0) (.k (.int 0))) .nil),
  .put (.v 0) (.k (.int 1)) (.ite (.cm .gt (.v 2) (.op .pow 0 (.k (.int 10)) (.k (.int 9)))) (.v 2) (.k (.int 0)))]
def b16 : List S := [
  .whl (.an (.cm .eq (.ix (.v 0) (.k (.int 1))) (.k (.int 0))) (.cm .ne (.ix (.v 0) (.k (.int 0))) (.lst 0 .nil))) b16_0 [2] true,
  .ite (.cm .gt (.ix (.v 0) (.k (.int 1))) (.k (.int 0))) [
    .set (.nm 3) (.op .mod 0 (.bi .int 0 (.cons (.ix (.v 0) (.k (.int 1))) .nil)) (.v 1)),
    .put (.v 0) (.k (.int 1)) (.op .fdiv 1 (.ix (.v 0) (.k (.int 1))) (.v 1)),
    .ret (.v 3)] [],
  .put (.v 0) (.k (.int 2)) (.op .mod 1 (.bi .int 0 (.cons (.op .add 0 (.op .mul 0 (.ix (.v 0) (.k (.int 2))) (.k (.int 48271))) (.k (.int 13))) .nil)) (.k (.int 2147483647))),
  .ret (.op .mod 0 (.bi .int 0 (.cons (.op .fdiv 0 (.op .mod 0 (.bi .int 0 (.cons (.op .mul 0 (.ix (.v 0) (.k (.int 2))) (.ix (.v 0) (.k (.int 2)))) .nil)) (.k (.int 2147483629))) (.k (.int 7))) .nil)) (.v 1))]
/-- 17 _law_pick: 0=bag 1=some -/
def b17 : List S := [
  .ret (.ix (.v 1) (.call 16 none (.cons (.v 0) (.cons (.bi .len 0 (.cons (.v 1) .nil)) .nil)) .nil))]
/-- 18 _law_points: 0=p 1=found 2=c 3=b -/
def e18_0 : E := (.tup (.cons (.k (.int 0)) (.cons (.k (.int 1)) (.cons (.v 2) .nil))))
def e18_1 : E := (.tup (.cons (.k (.int 1)) (.cons (.v 3) (.cons (.v 2) .nil))))
def b18_0 : List S := [
  .ex (.me .extend (.v 1) (.cons (.co 0 (.nm 2) (.rng (.cons (.v 0) .nil)) .no e18_1 [2]) .nil))]
def b18 : List S := [
  .set (.nm 1) (.op .add 1 (.lst 0 (.cons (.tup (.cons (.k (.int 0)) (.cons (.k (.int 0)) (.cons (.k (.int 1)) .nil)))) .nil)) (.co 0 (.nm 2) (.rng (.cons (.v 0) .nil)) .no e18_0 [2])),
  .for (.nm 3) (.rng (.cons (.v 0) .nil)) b18_0 [3] false,
  .ret (.bi .sorted 0 (.cons (.v 1) .nil))]
/-- 19 _law_at: 0=p 1=form 2=x 3=total 4=i 5=j -/
def e19_0 : E := (.op .mul 0 (.op .mul 0 (.ix (.ix (.v 1) (.v 4)) (.v 5)) (.ix (.v 2) (.v 4))) (.ix (.v 2) (.v 5)))
def b19_0 : List S := [
  .set (.nm 3) (.op .add 0 (.v 3) (.bi .sum 0 (.cons (.co 0 (.nm 5) (.rng (.cons (.v 4) (.cons (.k (.int 3)) .nil))) .no e19_0 [5]) .nil)))]
def b19 : List S := [
  .set (.nm 3) (.k (.int 0)),
  .for (.nm 4) (.rng (.cons (.k (.int 3)) .nil)) b19_0 [4] false,
  .ret (.op .mod 0 (.bi .int 0 (.cons (.v 3) .nil)) (.v 0))]
/-- 20 _law_made: 0=items -/
def b20 : List S := [
  .ret (.tup (.cons (.tup (.cons (.ix (.v 0) (.k (.int 0))) (.cons (.ix (.v 0) (.k (.int 1))) (.cons (.ix (.v 0) (.k (.int 2))) .nil)))) (.cons (.tup (.cons (.k (.int 0)) (.cons (.ix (.v 0) (.k (.int 3))) (.cons (.ix (.v 0) (.k (.int 4))) .nil)))) (.cons (.tup (.cons (.k (.int 0)) (.cons (.k (.int 0)) (.cons (.ix (.v 0) (.k (.int 5))) .nil)))) .nil))))]
/-- 21 _law_lines_form: 0=p 1=one 2=other 3=items 4=i 5=j -/
def e21_0 : E := (.op .mod 0 (.bi .int 0 (.cons (.op .add 0 (.op .mul 0 (.ix (.v 1) (.v 4)) (.ix (.v 2) (.v 5))) (.op .mul 0 (.ix (.v 1) (.v 5)) (.ix (.v 2) (.v 4)))) .nil)) (.v 0))
def b21_0 : List S := [
  .ex (.me .append (.v 3) (.cons (.op .mod 0 (.bi .int 0 (.cons (.op .mul 0 (.ix (.v 1) (.v 4)) (.ix (.v 2) (.v 4))) .nil)) (.v 0)) .nil)),
  .ex (.me .extend (.v 3) (.cons (.co 0 (.nm 5) (.rng (.cons (.op .add 0 (.v 4) (.k (.int 1))) (.cons (.k (.int 3)) .nil))) .no e21_0 [5]) .nil))]
def b21 : List S := [
  .set (.nm 3) (.lst 1 .nil),
  .for (.nm 4) (.rng (.cons (.k (.int 3)) .nil)) b21_0 [4] false,
  .ret (.call 20 none (.cons (.v 3) .nil) .nil)]
/-- 22 _law_form: 0=bag 1=p 2=way 3=often 4=k -/
def e22_0 : E := (.ite (.an (.cm .lt (.v 2) (.k (.int 7))) (.cm .eq (.call 16 none (.cons (.v 0) (.cons (.v 3) .nil)) .nil) (.k (.int 0)))) (.call 16 none (.cons (.v 0) (.cons (.v 1) .nil)) .nil) (.k (.int 0)))
def b22 : List S := [
  .set (.nm 2) (.call 16 none (.cons (.v 0) (.cons (.k (.int 8)) .nil)) .nil),
  .ite (.cm .lt (.v 2) (.k (.int 3))) [
    .ret (.call 21 none (.cons (.v 1) (.cons (.call 17 none (.cons (.v 0) (.cons (.call 18 none (.cons (.v 1) .nil) .nil) .nil)) .nil) (.cons (.call 17 none (.cons (.v 0) (.cons (.call 18 none (.cons (.v 1) .nil) .nil) .nil)) .nil) .nil))) .nil)] [],
  .set (.nm 3) (.op .add 0 (.k (.int 1)) (.call 16 none (.cons (.v 0) (.cons (.k (.int 3)) .nil)) .nil)),
  .ret (.call 20 none (.cons (.co 0 (.nm 4) (.rng (.cons (.k (.int 6)) .nil)) .no e22_0 [4]) .nil) .nil)]
/-- 23 _law_mixed: 0=p 1=one 2=other 3=s 4=t 5=a 6=b 7=x 8=y -/
def e23_0 : E := (.op .mod 0 (.bi .int 0 (.cons (.op .add 0 (.op .mul 0 (.v 3) (.v 5)) (.op .mul 0 (.v 4) (.v 6))) .nil)) (.v 0))
def e23_1 : E := (.bi .tuple 0 (.cons (.co 0 (.tu [.nm 5, .nm 6]) (.zip (.v 7) (.v 8)) .no e23_0 [5, 6]) .nil))
def b23 : List S := [
  .ret (.bi .tuple 0 (.cons (.co 0 (.tu [.nm 7, .nm 8]) (.zip (.v 1) (.v 2)) .no e23_1 [7, 8]) .nil))]
/-- 24 _law_is_oval: 0=p 1=form 2=a 3=g 4=e 5=b 6=d 7=c -/
def b24 : List S := [
  .set (.tu [.nm 2, .nm 3, .nm 4, .nm 5, .nm 6, .nm 7]) (.op .add 0 (.op .add 0 (.ix (.v 1) (.k (.int 0))) (.sl 0 (.ix (.v 1) (.k (.int 1))) (.so (.k (.int 1))) .no)) (.sl 0 (.ix (.v 1) (.k (.int 2))) (.so (.k (.int 2))) .no)),
  .ret (.cm .ne (.op .mod 0 (.bi .int 0 (.cons (.op .sub 0 (.op .sub 0 (.op .sub 0 (.op .add 0 (.op .mul 0 (.op .mul 0 (.op .mul 0 (.k (.int 4)) (.v 2)) (.v 5)) (.v 7)) (.op .mul 0 (.op .mul 0 (.v 6) (.v 4)) (.v 3))) (.op .mul 0 (.op .mul 0 (.v 2) (.v 6)) (.v 6))) (.op .mul 0 (.op .mul 0 (.v 5) (.v 4)) (.v 4))) (.op .mul 0 (.op .mul 0 (.v 7) (.v 3)) (.v 3))) .nil)) (.v 0)) (.k (.int 0)))]
/-- 25 _law_on: 0=p 1=line 2=x 3=a 4=b -/
def e25_0 : E := (.op .mul 0 (.v 3) (.v 4))
def e25_1 : E := (.v 2)
def c25_1 : Oe := (.so (.cm .eq (.op .mod 0 (.bi .int 0 (.cons (.bi .sum 0 (.cons (.co 0 (.tu [.nm 3, .nm 4]) (.zip (.v 1) (.v 2)) .no e25_0 [3, 4]) .nil)) .nil)) (.v 0)) (.k (.int 0))))
def b25 : List S := [
  .ret (.co 0 (.nm 2) (.seq (.call 18 none (.cons (.v 0) .nil) .nil)) c25_1 e25_1 [2])]
/-- 26 _law_joining: 0=p 1=one 2=other 3=a 4=b 5=c 6=d 7=e 8=f 9=row 10=first 11=item 12=back 13=k -/
def e26_0 : E := (.v 11)
def c26_0 : Oe := (.so (.cm .ne (.v 11) (.k (.int 0))))
def e26_1 : E := (.v 13)
def c26_1 : Oe := (.so (.cm .eq (.op .mod 0 (.bi .int 0 (.cons (.op .mul 0 (.v 13) (.v 10)) .nil)) (.v 0)) (.k (.int 1))))
def e26_2 : E := (.op .mod 0 (.bi .int 0 (.cons (.op .mul 0 (.v 12) (.v 11)) .nil)) (.v 0))
def b26 : List S := [
  .set (.tu [.nm 3, .nm 4, .nm 5]) (.v 1),
  .set (.tu [.nm 6, .nm 7, .nm 8]) (.v 2),
  .set (.nm 9) (.lst 0 (.cons (.op .mod 0 (.bi .int 0 (.cons (.op .sub 0 (.op .mul 0 (.v 4) (.v 8)) (.op .mul 0 (.v 5) (.v 7))) .nil)) (.v 0)) (.cons (.op .mod 0 (.bi .int 0 (.cons (.op .sub 0 (.op .mul 0 (.v 5) (.v 6)) (.op .mul 0 (.v 3) (.v 8))) .nil)) (.v 0)) (.cons (.op .mod 0 (.bi .int 0 (.cons (.op .sub 0 (.op .mul 0 (.v 3) (.v 7)) (.op .mul 0 (.v 4) (.v 6))) .nil)) (.v 0)) .nil)))),
  .set (.nm 10) (.ix (.co 0 (.nm 11) (.seq (.v 9)) c26_0 e26_0 [11]) (.k (.int 0))),
  .set (.nm 12) (.ix (.co 0 (.nm 13) (.rng (.cons (.k (.int 1)) (.cons (.v 0) .nil))) c26_1 e26_1 [13]) (.k (.int 0))),
  .ret (.bi .tuple 0 (.cons (.co 0 (.nm 11) (.seq (.v 9)) .no e26_2 [11]) .nil))]
/-- 27 _law_pair: 0=bag 1=p 2=one 3=way 4=number 5=other 6=line 7=some 8=side -/
def e27_0 : E := (.call 21 none (.cons (.v 1) (.cons (.v 6) (.cons (.call 17 none (.cons (.v 0) (.cons (.call 18 none (.cons (.v 1) .nil) .nil) .nil)) .nil) .nil))) .nil)
def b27 : List S := [
  .set (.nm 2) (.call 22 none (.cons (.v 0) (.cons (.v 1) .nil)) .nil),
  .set (.nm 3) (.call 16 none (.cons (.v 0) (.cons (.k (.int 5)) .nil)) .nil),
  .ite (.cm .eq (.v 3) (.k (.int 0))) [
    .set (.nm 4) (.call 16 none (.cons (.v 0) (.cons (.v 1) .nil)) .nil),
    .set (.nm 5) (.call 23 none (.cons (.v 1) (.cons (.v 2) (.cons (.v 2) (.cons (.v 4) (.cons (.k (.int 0)) .nil))))) .nil),
    .ret (.ite (.cm .eq (.call 16 none (.cons (.v 0) (.cons (.k (.int 2)) .nil)) .nil) (.k (.int 0))) (.tup (.cons (.v 2) (.cons (.v 5) .nil))) (.tup (.cons (.v 5) (.cons (.v 2) .nil))))] [],
  .ite (.cm .eq (.v 3) (.k (.int 1))) [
    .set (.nm 6) (.call 17 none (.cons (.v 0) (.cons (.call 18 none (.cons (.v 1) .nil) .nil) .nil)) .nil),
    .set (.nm 7) (.co 0 (.nm 8) (.seq (.tup (.cons (.k (.int 0)) (.cons (.k (.int 1)) .nil)))) .no e27_0 [8]),
    .ret (.tup (.cons (.ix (.v 7) (.k (.int 0))) (.cons (.ix (.v 7) (.k (.int 1))) .nil)))] [],
  .ret (.tup (.cons (.v 2) (.cons (.call 22 none (.cons (.v 0) (.cons (.v 1) .nil)) .nil) .nil)))]
/-- 28 law: 0=script 1=bag 2=turn 3=p 4=one 5=other 6=kept 7=points 8=x 9=lines 10=own 11=line 12=times 13=k 14=word -/
def e28_0 : E := (.v 8)
def c28_0 : Oe := (.so (.an (.cm .eq (.call 19 none (.cons (.v 3) (.cons (.v 4) (.cons (.v 8) .nil))) .nil) (.k (.int 0))) (.cm .eq (.call 19 none (.cons (.v 3) (.cons (.v 5) (.cons (.v 8) .nil))) .nil) (.k (.int 0)))))
def e28_1 : E := (.cm .isin (.v 8) (.v 7))
def e28_2 : E := (.v 10)
def c28_2 : Oe := (.so (.bi .all 0 (.cons (.co 0 (.nm 8) (.seq (.call 25 none (.cons (.v 3) (.cons (.v 10) .nil)) .nil)) .no e28_1 [8]) .nil)))
def e28_3 : E := (.cm .eq (.call 23 none (.cons (.v 3) (.cons (.v 4) (.cons (.v 4) (.cons (.v 13) (.cons (.k (.int 0)) .nil))))) .nil) (.v 5))
def e28_4 : E := (.cm .eq (.call 23 none (.cons (.v 3) (.cons (.v 5) (.cons (.v 5) (.cons (.v 13) (.cons (.k (.int 0)) .nil))))) .nil) (.v 4))
def b28_0 : List S := [
  .set (.nm 3) (.call 17 none (.cons (.v 1) (.cons (.ite (.cm .eq (.v 2) (.k (.int 0))) (.lst 0 (.cons (.k (.int 2)) (.cons (.k (.int 3)) (.cons (.k (.int 5)) (.cons (.k (.int 7)) .nil))))) (.lst 0 (.cons (.k (.int 2)) (.cons (.k (.int 3)) (.cons (.k (.int 5)) .nil))))) .nil)) .nil),
  .set (.tu [.nm 4, .nm 5]) (.call 27 none (.cons (.v 1) (.cons (.v 3) .nil)) .nil),
  .set (.nm 6) (.bi .repr 0 (.cons (.lst 0 (.cons (.v 4) (.cons (.v 5) .nil))) .nil)),
  .set (.nm 7) (.bi .tuple 0 (.cons (.co 0 (.nm 8) (.seq (.call 18 none (.cons (.v 3) .nil) .nil)) c28_0 e28_0 [8]) .nil)),
  .ite (.cm .ne (.bi .repr 0 (.cons (.lst 0 (.cons (.call 10 none (.cons (.v 3) (.cons (.v 4) (.cons (.v 5) .nil))) .nil) (.cons (.call 10 (some [2, 1, 0]) .nil (.cons (.v 5) (.cons (.v 4) (.cons (.v 3) .nil)))) .nil))) .nil)) (.bi .repr 0 (.cons (.lst 0 (.cons (.v 7) (.cons (.v 7) .nil))) .nil))) [
    .ret (.k (.bl false))] [],
  .set (.nm 9) (.ite (.cm .gt (.bi .len 0 (.cons (.v 7) .nil)) (.v 3)) (.co 0 (.nm 10) (.seq (.call 18 none (.cons (.v 3) .nil) .nil)) c28_2 e28_2 [10]) (.lst 0 .nil)),
  .set (.nm 11) (.ite (.cm .ne (.v 9) (.lst 0 .nil)) (.ix (.v 9) (.k (.int 0))) (.k .non)),
  .ite (.cm .ne (.bi .repr 0 (.cons (.lst 0 (.cons (.call 11 none (.cons (.v 3) (.cons (.v 4) (.cons (.v 5) .nil))) .nil) (.cons (.call 11 (some [2, 1, 0]) .nil (.cons (.v 5) (.cons (.v 4) (.cons (.v 3) .nil)))) .nil))) .nil)) (.bi .repr 0 (.cons (.lst 0 (.cons (.v 11) (.cons (.v 11) .nil))) .nil))) [
    .ret (.k (.bl false))] [],
  .set (.nm 12) (.bi .any 0 (.cons (.co 0 (.nm 13) (.rng (.cons (.v 3) .nil)) .no e28_3 [13]) .nil)),
  .set (.nm 12) (.or (.v 12) (.bi .any 0 (.cons (.co 0 (.nm 13) (.rng (.cons (.v 3) .nil)) .no e28_4 [13]) .nil))),
  .ite (.cm .ne (.bi .repr 0 (.cons (.lst 0 (.cons (.call 13 none (.cons (.v 3) (.cons (.v 4) (.cons (.v 5) .nil))) .nil) (.cons (.call 13 (some [2, 1, 0]) .nil (.cons (.v 5) (.cons (.v 4) (.cons (.v 3) .nil)))) .nil))) .nil)) (.bi .repr 0 (.cons (.lst 0 (.cons (.v 12) (.cons (.v 12) .nil))) .nil))) [
    .ret (.k (.bl false))] [],
  .set (.nm 14) (.ite (.v 12) (.k (.str "times")) (.ite (.cm .isnot (.v 11) (.k .non)) (.k (.str "line")) (.k (.str "points")))),
  .ite (.cm .ne (.bi .repr 0 (.cons (.lst 0 (.cons (.call 14 none (.cons (.v 3) (.cons (.v 4) (.cons (.v 5) .nil))) .nil) (.cons (.call 14 (some [2, 1, 0]) .nil (.cons (.v 5) (.cons (.v 4) (.cons (.v 3) .nil)))) .nil))) .nil)) (.bi .repr 0 (.cons (.lst 0 (.cons (.v 14) (.cons (.v 14) .nil))) .nil))) [
    .ret (.k (.bl false))] [],
  .ite (.or (.an (.cm .eq (.v 14) (.k (.str "points"))) (.cm .gt (.bi .len 0 (.cons (.v 7) .nil)) (.k (.int 4)))) (.cm .ne (.bi .repr 0 (.cons (.lst 0 (.cons (.v 4) (.cons (.v 5) .nil))) .nil)) (.v 6))) [
    .ret (.k (.bl false))] []]
def b28 : List S := [
  .set (.nm 1) (.call 15 none (.cons (.v 0) .nil) .nil),
  .for (.nm 2) (.rng (.cons (.k (.int 4)) .nil)) b28_0 [2, 3, 4, 5, 6, 7, 9, 11, 12, 14] false,
  .ret (.k (.bl true))]
def d0 : DefC := ⟨"head_of", ["row"], ["row", "some", "place", "item"], b0⟩
def d1 : DefC := ⟨"power_of", ["number", "often"], ["number", "often", "found", "step"], b1⟩
def d2 : DefC := ⟨"need_few", ["p", "n"], ["p", "n"], b2⟩
def d3 : DefC := ⟨"rows_of_length", ["p", "n"], ["p", "n", "found", "step", "longer", "row", "item"], b3⟩
def d4 : DefC := ⟨"is_point", ["row"], ["row", "head"], b4⟩
def d5 : DefC := ⟨"all_rows", ["p", "n"], ["p", "n"], b5⟩
def d6 : DefC := ⟨"points_of", ["p", "n"], ["p", "n", "row"], b6⟩
def d7 : DefC := ⟨"form_at", ["p", "form", "x"], ["p", "form", "x", "total", "i", "row", "item", "own"], b7⟩
def d8 : DefC := ⟨"item_sum", ["p", "one", "other"], ["p", "one", "other", "a", "b"], b8⟩
def d9 : DefC := ⟨"oval_points", ["p", "form"], ["p", "form", "point"], b9⟩
def d10 : DefC := ⟨"common_points", ["p", "one", "other"], ["p", "one", "other", "own", "point"], b10⟩
def d11 : DefC := ⟨"common_line", ["p", "one", "other"], ["p", "one", "other", "points", "line", "point"], b11⟩
def d12 : DefC := ⟨"times_form", ["p", "form", "number"], ["p", "form", "number", "item", "row"], b12⟩
def d13 : DefC := ⟨"are_times", ["p", "one", "other"], ["p", "one", "other", "number"], b13⟩
def d14 : DefC := ⟨"meeting_word", ["p", "one", "other"], ["p", "one", "other"], b14⟩
def d15 : DefC := ⟨"_law_bag", ["script"], ["script", "cells", "cell", "mixed"], b15⟩
def d16 : DefC := ⟨"_law_draw", ["bag", "below"], ["bag", "below", "cell", "found"], b16⟩
def d17 : DefC := ⟨"_law_pick", ["bag", "some"], ["bag", "some"], b17⟩
def d18 : DefC := ⟨"_law_points", ["p"], ["p", "found", "c", "b"], b18⟩
def d19 : DefC := ⟨"_law_at", ["p", "form", "x"], ["p", "form", "x", "total", "i", "j"], b19⟩
def d20 : DefC := ⟨"_law_made", ["items"], ["items"], b20⟩
def d21 : DefC := ⟨"_law_lines_form", ["p", "one", "other"], ["p", "one", "other", "items", "i", "j"], b21⟩
def d22 : DefC := ⟨"_law_form", ["bag", "p"], ["bag", "p", "way", "often", "k"], b22⟩
def d23 : DefC := ⟨"_law_mixed", ["p", "one", "other", "s", "t"], ["p", "one", "other", "s", "t", "a", "b", "x", "y"], b23⟩
def d24 : DefC := ⟨"_law_is_oval", ["p", "form"], ["p", "form", "a", "g", "e", "b", "d", "c"], b24⟩
def d25 : DefC := ⟨"_law_on", ["p", "line"], ["p", "line", "x", "a", "b"], b25⟩
def d26 : DefC := ⟨"_law_joining", ["p", "one", "other"], ["p", "one", "other", "a", "b", "c", "d", "e", "f", "row", "first", "item", "back", "k"], b26⟩
def d27 : DefC := ⟨"_law_pair", ["bag", "p"], ["bag", "p", "one", "way", "number", "other", "line", "some", "side"], b27⟩
def d28 : DefC := ⟨"law", ["script"], ["script", "bag", "turn", "p", "one", "other", "kept", "points", "x", "lines", "own", "line", "times", "k", "word"], b28⟩
def ds_0 : List DefC := [d0, d1, d2, d3, d4, d5, d6, d7, d8, d9, d10, d11, d12, d13, d14, d15, d16, d17, d18, d19]
def ds_1 : List DefC := [d20, d21, d22, d23, d24, d25, d26, d27, d28]
def ds : List DefC := ds_0 ++ ds_1
def sts_0 : List Stmt := [topS 5, topS 6, topS 7, topS 8, topS 9, topS 10, topS 11, topS 13, topS 15, topS 17, topS 19, topS 20, topS 21, topS 22, topS 23, topS 25, topS 26, topS 27, topS 28, topS 29]
def sts_1 : List Stmt := [topS 30, topS 31, topS 32, topS 33, topS 34, topS 35, topS 36, topS 37, topS 38]
def sts : List Stmt := sts_0 ++ sts_1
def fre : List Str := ["abs", "all", "any", "enumerate", "int", "len", "range", "repr", "sorted", "sum", "tuple", "zip"]
def cns : List (Str × Int) := [("MAX_ROWS", 3000)]
def bnd_0 : List (Nat × Nat × List Str × Option (List Nat)) := [(0, 1, [], none), (1, 2, [], none), (10, 0, ["other", "one", "p"], some [2, 1, 0]), (10, 3, [], none), (11, 0, ["other", "one", "p"], some [2, 1, 0]), (11, 3, [], none), (12, 3, [], none), (13, 0, ["other", "one", "p"], some [2, 1, 0]), (13, 3, [], none), (14, 0, ["other", "one", "p"], some [2, 1, 0]), (14, 3, [], none), (15, 1, [], none), (16, 2, [], none), (17, 2, [], none), (18, 1, [], none), (19, 3, [], none), (2, 2, [], none), (20, 1, [], none), (21, 3, [], none), (22, 2, [], none)]
def bnd_1 : List (Nat × Nat × List Str × Option (List Nat)) := [(23, 5, [], none), (25, 2, [], none), (27, 2, [], none), (3, 2, [], none), (4, 1, [], none), (5, 2, [], none), (6, 2, [], none), (7, 3, [], none), (8, 3, [], none), (9, 2, [], none)]
def bnd : List (Nat × Nat × List Str × Option (List Nat)) := bnd_0 ++ bnd_1
abbrev C : List D := cOf cns
/-- what the defs are worth -/
abbrev F (n j : Nat) := Fn C ds n j
theorem F0 {n : Nat} (h : 0 < n) : F n 0 = exD ⟨F 0, C⟩ 4 b0 := (Fn_lt h).trans (Fn_at (d := d0) rfl)
theorem F1 {n : Nat} (h : 1 < n) : F n 1 = exD ⟨F 1, C⟩ 4 b1 := (Fn_lt h).trans (Fn_at (d := d1) rfl)
theorem F2 {n : Nat} (h : 2 < n) : F n 2 = exD ⟨F 2, C⟩ 2 b2 := (Fn_lt h).trans (Fn_at (d := d2) rfl)
theorem F3 {n : Nat} (h : 3 < n) : F n 3 = exD ⟨F 3, C⟩ 7 b3 := (Fn_lt h).trans (Fn_at (d := d3) rfl)
theorem F4 {n : Nat} (h : 4 < n) : F n 4 = exD ⟨F 4, C⟩ 2 b4 := (Fn_lt h).trans (Fn_at (d := d4) rfl)
theorem F5 {n : Nat} (h : 5 < n) : F n 5 = exD ⟨F 5, C⟩ 2 b5 := (Fn_lt h).trans (Fn_at (d := d5) rfl)
theorem F6 {n : Nat} (h : 6 < n) : F n 6 = exD ⟨F 6, C⟩ 3 b6 := (Fn_lt h).trans (Fn_at (d := d6) rfl)
theorem F7 {n : Nat} (h : 7 < n) : F n 7 = exD ⟨F 7, C⟩ 8 b7 := (Fn_lt h).trans (Fn_at (d := d7) rfl)
theorem F8 {n : Nat} (h : 8 < n) : F n 8 = exD ⟨F 8, C⟩ 5 b8 := (Fn_lt h).trans (Fn_at (d := d8) rfl)
theorem F9 {n : Nat} (h : 9 < n) : F n 9 = exD ⟨F 9, C⟩ 3 b9 := (Fn_lt h).trans (Fn_at (d := d9) rfl)
theorem F10 {n : Nat} (h : 10 < n) : F n 10 = exD ⟨F 10, C⟩ 5 b10 := (Fn_lt h).trans (Fn_at (d := d10) rfl)
theorem F11 {n : Nat} (h : 11 < n) : F n 11 = exD ⟨F 11, C⟩ 6 b11 := (Fn_lt h).trans (Fn_at (d := d11) rfl)
theorem F12 {n : Nat} (h : 12 < n) : F n 12 = exD ⟨F 12, C⟩ 5 b12 := (Fn_lt h).trans (Fn_at (d := d12) rfl)
theorem F13 {n : Nat} (h : 13 < n) : F n 13 = exD ⟨F 13, C⟩ 4 b13 := (Fn_lt h).trans (Fn_at (d := d13) rfl)
theorem F14 {n : Nat} (h : 14 < n) : F n 14 = exD ⟨F 14, C⟩ 3 b14 := (Fn_lt h).trans (Fn_at (d := d14) rfl)
theorem F15 {n : Nat} (h : 15 < n) : F n 15 = exD ⟨F 15, C⟩ 4 b15 := (Fn_lt h).trans (Fn_at (d := d15) rfl)
theorem F16 {n : Nat} (h : 16 < n) : F n 16 = exD ⟨F 16, C⟩ 4 b16 := (Fn_lt h).trans (Fn_at (d := d16) rfl)
theorem F17 {n : Nat} (h : 17 < n) : F n 17 = exD ⟨F 17, C⟩ 2 b17 := (Fn_lt h).trans (Fn_at (d := d17) rfl)
theorem F18 {n : Nat} (h : 18 < n) : F n 18 = exD ⟨F 18, C⟩ 4 b18 := (Fn_lt h).trans (Fn_at (d := d18) rfl)
theorem F19 {n : Nat} (h : 19 < n) : F n 19 = exD ⟨F 19, C⟩ 6 b19 := (Fn_lt h).trans (Fn_at (d := d19) rfl)
theorem F20 {n : Nat} (h : 20 < n) : F n 20 = exD ⟨F 20, C⟩ 1 b20 := (Fn_lt h).trans (Fn_at (d := d20) rfl)
theorem F21 {n : Nat} (h : 21 < n) : F n 21 = exD ⟨F 21, C⟩ 6 b21 := (Fn_lt h).trans (Fn_at (d := d21) rfl)
theorem F22 {n : Nat} (h : 22 < n) : F n 22 = exD ⟨F 22, C⟩ 5 b22 := (Fn_lt h).trans (Fn_at (d := d22) rfl)
theorem F23 {n : Nat} (h : 23 < n) : F n 23 = exD ⟨F 23, C⟩ 9 b23 := (Fn_lt h).trans (Fn_at (d := d23) rfl)
theorem F24 {n : Nat} (h : 24 < n) : F n 24 = exD ⟨F 24, C⟩ 8 b24 := (Fn_lt h).trans (Fn_at (d := d24) rfl)
theorem F25 {n : Nat} (h : 25 < n) : F n 25 = exD ⟨F 25, C⟩ 5 b25 := (Fn_lt h).trans (Fn_at (d := d25) rfl)
theorem F26 {n : Nat} (h : 26 < n) : F n 26 = exD ⟨F 26, C⟩ 14 b26 := (Fn_lt h).trans (Fn_at (d := d26) rfl)
theorem F27 {n : Nat} (h : 27 < n) : F n 27 = exD ⟨F 27, C⟩ 9 b27 := (Fn_lt h).trans (Fn_at (d := d27) rfl)
theorem F28 {n : Nat} (h : 28 < n) : F n 28 = exD ⟨F 28, C⟩ 15 b28 := (Fn_lt h).trans (Fn_at (d := d28) rfl)
end K64

namespace K64
/-- a triple -/
structure V3 where
  x : Int
  y : Int
  z : Int
  deriving DecidableEq
/-- a form of three letters -/
structure Fm where
  a : Int
  g : Int
  e : Int
  b : Int
  d : Int
  c : Int
  deriving DecidableEq
def vl (f : Fm) (p : V3) : Int := f.a * p.x * p.x + f.g * p.x * p.y + f.e * p.x * p.z + f.b * p.y * p.y + f.d * p.y * p.z + f.c * p.z * p.z
def po (f : Fm) (p q : V3) : Int := 2 * f.a * p.x * q.x + f.g * (p.x * q.y + p.y * q.x) + f.e * (p.x * q.z + p.z * q.x) + 2 * f.b * p.y * q.y + f.d * (p.y * q.z + p.z * q.y) + 2 * f.c * p.z * q.z
def det (p q r : V3) : Int := p.x * (q.y * r.z - q.z * r.y) - p.y * (q.x * r.z - q.z * r.x) + p.z * (q.x * r.y - q.y * r.x)
def dot (p q : V3) : Int := p.x * q.x + p.y * q.y + p.z * q.z
theorem vl_lin (f : Fm) (P Q R : V3) (l m n : Int) : vl f ⟨l * P.x + m * Q.x + n * R.x, l * P.y + m * Q.y + n * R.y, l * P.z + m * Q.z + n * R.z⟩ =
    l * l * vl f P + m * m * vl f Q + n * n * vl f R + l * m * po f P Q + l * n * po f P R + m * n * po f Q R := by
  simp only [vl, po]
  grind
theorem cram (P Q R X : V3) : det P Q R * X.x = det X Q R * P.x + det P X R * Q.x + det P Q X * R.x ∧ det P Q R * X.y = det X Q R * P.y + det P X R * Q.y + det P Q X * R.y ∧ det P Q R * X.z = det X Q R * P.z + det P X R * Q.z + det P Q X * R.z := by
  simp only [det]
  refine ⟨?_, ?_, ?_⟩ <;> grind
theorem vl_scale (f : Fm) (k : Int) (X : V3) : vl f ⟨k * X.x, k * X.y, k * X.z⟩ = k * k * vl f X := by
  simp only [vl]
  grind
theorem vl_cram (f : Fm) (P Q R X : V3) : det P Q R * det P Q R * vl f X =
    det X Q R * det X Q R * vl f P + det P X R * det P X R * vl f Q + det P Q X * det P Q X * vl f R + det X Q R * det P X R * po f P Q + det X Q R * det P Q X * po f P R + det P X R * det P Q X * po f Q R := by
  rw [← vl_scale, ← vl_lin]
  obtain ⟨h1, h2, h3⟩ := cram P Q R X
  rw [h1, h2, h3]
theorem plu (P Q R S T : V3) : det P S R * det P Q T - det P Q S * det P T R = det P Q R * det P S T := by
  simp only [det]
  grind
theorem lne (l P Q X : V3) : l.x * det P Q X = dot l P * (Q.y * X.z - Q.z * X.y) + dot l Q * (X.y * P.z - X.z * P.y) + dot l X * (P.y * Q.z - P.z * Q.y) ∧
    l.y * det P Q X = dot l P * (Q.z * X.x - Q.x * X.z) + dot l Q * (X.z * P.x - X.x * P.z) + dot l X * (P.z * Q.x - P.x * Q.z) ∧
    l.z * det P Q X = dot l P * (Q.x * X.y - Q.y * X.x) + dot l Q * (X.x * P.y - X.y * P.x) + dot l X * (P.x * Q.y - P.y * Q.x) := by
  simp only [det, dot]
  refine ⟨?_, ?_, ?_⟩ <;> grind
section
variable {p : Int} (hp : ∀ a b : Int, p ∣ a * b → p ∣ a ∨ p ∣ b)
include hp
theorem no_mul {a b : Int} (h1 : ¬ p ∣ a) (h2 : ¬ p ∣ b) : ¬ p ∣ a * b := fun h => (hp a b h).elim h1 h2
theorem of_mul {a b : Int} (h : p ∣ a * b) (h1 : ¬ p ∣ a) : p ∣ b := (hp a b h).resolve_left h1
/-- a line with three noughts -/
theorem line3 {f : Fm} {P Q R X Z : V3} (hz : ¬ p ∣ det P Q Z) (h1 : p ∣ vl f P) (h2 : p ∣ vl f Q) (h3 : p ∣ vl f R) (r0 : p ∣ det P Q R) (x0 : p ∣ det P Q X) (hr1 : ¬ p ∣ det R Q Z) (hr2 : ¬ p ∣ det P R Z) : p ∣ vl f X := by
  have e1 := vl_cram f P Q Z R
  have e2 := vl_cram f P Q Z X
  have k : p ∣ det R Q Z * det P R Z * po f P Q := by
    have : det R Q Z * det P R Z * po f P Q = det P Q Z * det P Q Z * vl f R - det R Q Z * det R Q Z * vl f P - det P R Z * det P R Z * vl f Q - det P Q R * (det P Q R * vl f Z + det R Q Z * po f P Z + det P R Z * po f Q Z) := by
      rw [e1]; grind
    rw [this]
    exact Int.dvd_sub (Int.dvd_sub (Int.dvd_sub (Int.dvd_mul_of_dvd_right h3) (Int.dvd_mul_of_dvd_right h1)) (Int.dvd_mul_of_dvd_right h2)) (Int.dvd_mul_of_dvd_left r0)
  have b := of_mul hp k (no_mul hp hr1 hr2)
  have k2 : p ∣ det P Q Z * det P Q Z * vl f X := by
    have : det P Q Z * det P Q Z * vl f X = det X Q Z * det X Q Z * vl f P + det P X Z * det P X Z * vl f Q + det P Q X * (det P Q X * vl f Z + det X Q Z * po f P Z + det P X Z * po f Q Z) + det X Q Z * det P X Z * po f P Q := by
      rw [e2]; grind
    rw [this]
    exact Int.dvd_add (Int.dvd_add (Int.dvd_add (Int.dvd_mul_of_dvd_right h1) (Int.dvd_mul_of_dvd_right h2)) (Int.dvd_mul_of_dvd_left x0)) (Int.dvd_mul_of_dvd_right b)
  exact of_mul hp k2 (no_mul hp hz hz)
/-- five noughts, no three on a line -/
theorem five {f h : Fm} {P Q R S T : V3} (d0 : ¬ p ∣ det P Q R) (d1 : ¬ p ∣ det S Q R) (d2 : ¬ p ∣ det T Q R) (d3 : ¬ p ∣ det P S T)
    (f1 : p ∣ vl f P) (f2 : p ∣ vl f Q) (f3 : p ∣ vl f R) (f4 : p ∣ vl f S) (f5 : p ∣ vl f T) (h1 : p ∣ vl h P) (h2 : p ∣ vl h Q) (h3 : p ∣ vl h R) (h4 : p ∣ vl h S) (h5 : p ∣ vl h T) :
    p ∣ po f P Q * po h P R - po f P R * po h P Q ∧ p ∣ po f P Q * po h Q R - po f Q R * po h P Q ∧ p ∣ po f P R * po h Q R - po f Q R * po h P R := by
  -- one equation a nought
  have eq : ∀ {f : Fm} {S : V3}, p ∣ vl f P → p ∣ vl f Q → p ∣ vl f R → p ∣ vl f S → p ∣ det S Q R * det P S R * po f P Q + det S Q R * det P Q S * po f P R + det P S R * det P Q S * po f Q R := fun {f S} f1 f2 f3 f4 => by
    have e := vl_cram f P Q R S
    have : det S Q R * det P S R * po f P Q + det S Q R * det P Q S * po f P R + det P S R * det P Q S * po f Q R = det P Q R * det P Q R * vl f S - det S Q R * det S Q R * vl f P - det P S R * det P S R * vl f Q - det P Q S * det P Q S * vl f R := by
      rw [e]; grind
    rw [this]
    exact Int.dvd_sub (Int.dvd_sub (Int.dvd_sub (Int.dvd_mul_of_dvd_right f4) (Int.dvd_mul_of_dvd_right f1)) (Int.dvd_mul_of_dvd_right f2)) (Int.dvd_mul_of_dvd_right f3)
  have w := plu P Q R S T
  generalize hA : det S Q R = A at *
  generalize hB : det P S R = B at *
  generalize hC : det P Q S = Cc at *
  have qf := eq f1 f2 f3 f4
  have qh := eq h1 h2 h3 h4
  have rf := eq f1 f2 f3 f5
  have rh := eq h1 h2 h3 h5
  rw [hA, hB, hC] at qf qh
  generalize det T Q R = A' at *
  generalize det P T R = B' at *
  generalize det P Q T = C' at *
  have w3 : ¬ p ∣ A * A' * (B * C' - Cc * B') := by
    rw [w]
    exact no_mul hp (no_mul hp d1 d2) (no_mul hp d0 d3)
  -- the third coordinates
  generalize po f P Q = x1 at *
  generalize po f P R = x2 at *
  generalize po f Q R = x3 at *
  generalize po h P Q = y1 at *
  generalize po h P R = y2 at *
  generalize po h Q R = y3 at *
  generalize hW : A * A' * (B * C' - Cc * B') = W at *
  have par : ∀ {x1 x2 x3 : Int}, p ∣ A * B * x1 + A * Cc * x2 + B * Cc * x3 → p ∣ A' * B' * x1 + A' * C' * x2 + B' * C' * x3 → p ∣ W * x1 - (A * Cc * (B' * C') - B * Cc * (A' * C')) * x3 ∧ p ∣ W * x2 - (B * Cc * (A' * B') - A * B * (B' * C')) * x3 := fun {x1 x2 x3} g1 g2 => by
    constructor
    · have : W * x1 - (A * Cc * (B' * C') - B * Cc * (A' * C')) * x3 = A' * C' * (A * B * x1 + A * Cc * x2 + B * Cc * x3) - A * Cc * (A' * B' * x1 + A' * C' * x2 + B' * C' * x3) := by
        rw [← hW]; grind
      rw [this]
      exact Int.dvd_sub (Int.dvd_mul_of_dvd_right g1) (Int.dvd_mul_of_dvd_right g2)
    · have : W * x2 - (B * Cc * (A' * B') - A * B * (B' * C')) * x3 = A * B * (A' * B' * x1 + A' * C' * x2 + B' * C' * x3) - A' * B' * (A * B * x1 + A * Cc * x2 + B * Cc * x3) := by
        rw [← hW]; grind
      rw [this]
      exact Int.dvd_sub (Int.dvd_mul_of_dvd_right g2) (Int.dvd_mul_of_dvd_right g1)
  obtain ⟨a1, a2⟩ := par qf rf
  obtain ⟨b1, b2⟩ := par qh rh
  generalize A * Cc * (B' * C') - B * Cc * (A' * C') = U at *
  generalize B * Cc * (A' * B') - A * B * (B' * C') = V at *
  refine ⟨?_, ?_, ?_⟩
  · refine of_mul hp (a := W * W) ?_ (no_mul hp w3 w3)
    have : W * W * (x1 * y2 - x2 * y1) = (W * x1 - U * x3) * (W * y2) + U * x3 * (W * y2 - V * y3) - (W * x2 - V * x3) * (W * y1) - V * x3 * (W * y1 - U * y3) := by grind
    rw [this]
    exact Int.dvd_sub (Int.dvd_sub (Int.dvd_add (Int.dvd_mul_of_dvd_left a1) (Int.dvd_mul_of_dvd_right b2)) (Int.dvd_mul_of_dvd_left a2)) (Int.dvd_mul_of_dvd_right b1)
  · refine of_mul hp (a := W) ?_ w3
    have : W * (x1 * y3 - x3 * y1) = (W * x1 - U * x3) * y3 - x3 * (W * y1 - U * y3) := by grind
    rw [this]
    exact Int.dvd_sub (Int.dvd_mul_of_dvd_left a1) (Int.dvd_mul_of_dvd_right b1)
  · refine of_mul hp (a := W) ?_ w3
    have : W * (x2 * y3 - x3 * y2) = (W * x2 - V * x3) * y3 - x3 * (W * y2 - V * y3) := by grind
    rw [this]
    exact Int.dvd_sub (Int.dvd_mul_of_dvd_left a2) (Int.dvd_mul_of_dvd_right b2)
end
end K64

namespace K64
theorem dvd_iff {p x : Int} : p ∣ x ↔ x % p = 0 := ⟨Int.emod_eq_zero_of_dvd, Int.dvd_of_emod_eq_zero⟩
/-- values at some places, summed -/
def ev (f : Fm) : List (Int × V3) → Int
  | [] => 0
  | q :: l => q.1 * vl f q.2 + ev f l
theorem ev_par {p : Int} {f h : Fm} (H : ∀ X Y, p ∣ vl f X * vl h Y - vl f Y * vl h X) : ∀ l m, p ∣ ev f l * ev h m - ev f m * ev h l := by
  have one : ∀ X m, p ∣ vl f X * ev h m - ev f m * vl h X := by
    intro X m
    induction m with
    | nil => simp [ev]
    | cons q m ih =>
      have : vl f X * ev h (q :: m) - ev f (q :: m) * vl h X = q.1 * (vl f X * vl h q.2 - vl f q.2 * vl h X) + (vl f X * ev h m - ev f m * vl h X) := by
        simp only [ev]; grind
      rw [this]
      exact Int.dvd_add (Int.dvd_mul_of_dvd_right (H X q.2)) ih
  intro l m
  induction l with
  | nil => simp [ev]
  | cons q l ih =>
    have : ev f (q :: l) * ev h m - ev f m * ev h (q :: l) = q.1 * (vl f q.2 * ev h m - ev f m * vl h q.2) + (ev f l * ev h m - ev f m * ev h l) := by
      simp only [ev]; grind
    rw [this]
    exact Int.dvd_add (Int.dvd_mul_of_dvd_right (one q.2 m)) ih
/-- the items, and the places that show them -/
def co : Nat → Fm → Int
  | 0, f => f.a
  | 1, f => f.g
  | 2, f => f.e
  | 3, f => f.b
  | 4, f => f.d
  | _, f => f.c
def at6 : Nat → List (Int × V3)
  | 0 => [(1, ⟨1, 0, 0⟩)]
  | 1 => [(1, ⟨1, 1, 0⟩), (-1, ⟨1, 0, 0⟩), (-1, ⟨0, 1, 0⟩)]
  | 2 => [(1, ⟨1, 0, 1⟩), (-1, ⟨1, 0, 0⟩), (-1, ⟨0, 0, 1⟩)]
  | 3 => [(1, ⟨0, 1, 0⟩)]
  | 4 => [(1, ⟨0, 1, 1⟩), (-1, ⟨0, 1, 0⟩), (-1, ⟨0, 0, 1⟩)]
  | _ => [(1, ⟨0, 0, 1⟩)]
theorem co_at (f : Fm) (i : Nat) : co i f = ev f (at6 i) := by
  match i with
  | 0 => simp [co, at6, ev, vl]
  | 1 => simp [co, at6, ev, vl]; omega
  | 2 => simp [co, at6, ev, vl]; omega
  | 3 => simp [co, at6, ev, vl]
  | 4 => simp [co, at6, ev, vl]; omega
  | n + 5 => simp [co, at6, ev, vl]
section
variable {p : Int} (hp : ∀ a b : Int, p ∣ a * b → p ∣ a ∨ p ∣ b)
include hp
theorem vl_par {f h : Fm} {P Q R : V3} (d0 : ¬ p ∣ det P Q R) (f1 : p ∣ vl f P) (f2 : p ∣ vl f Q) (f3 : p ∣ vl f R) (h1 : p ∣ vl h P) (h2 : p ∣ vl h Q) (h3 : p ∣ vl h R)
    (m : p ∣ po f P Q * po h P R - po f P R * po h P Q ∧ p ∣ po f P Q * po h Q R - po f Q R * po h P Q ∧ p ∣ po f P R * po h Q R - po f Q R * po h P R) (X Y : V3) : p ∣ vl f X * vl h Y - vl f Y * vl h X := by
  have dd := no_mul hp d0 d0
  have e : ∀ {f : Fm} (X : V3), p ∣ vl f P → p ∣ vl f Q → p ∣ vl f R → p ∣ det P Q R * det P Q R * vl f X - (det X Q R * det P X R * po f P Q + det X Q R * det P Q X * po f P R + det P X R * det P Q X * po f Q R) := fun {f} X f1 f2 f3 => by
    have : det P Q R * det P Q R * vl f X - (det X Q R * det P X R * po f P Q + det X Q R * det P Q X * po f P R + det P X R * det P Q X * po f Q R) = det X Q R * det X Q R * vl f P + det P X R * det P X R * vl f Q + det P Q X * det P Q X * vl f R := by
      rw [vl_cram f P Q R X]; grind
    rw [this]
    exact Int.dvd_add (Int.dvd_add (Int.dvd_mul_of_dvd_right f1) (Int.dvd_mul_of_dvd_right f2)) (Int.dvd_mul_of_dvd_right f3)
  have fX := e X f1 f2 f3
  have fY := e Y f1 f2 f3
  have hX := e X h1 h2 h3
  have hY := e Y h1 h2 h3
  refine of_mul hp (a := det P Q R * det P Q R * (det P Q R * det P Q R)) ?_ (no_mul hp dd dd)
  generalize det P Q R * det P Q R = D at *
  obtain ⟨m1, m2, m3⟩ := m
  generalize po f P Q = x1 at *
  generalize po f P R = x2 at *
  generalize po f Q R = x3 at *
  generalize po h P Q = y1 at *
  generalize po h P R = y2 at *
  generalize po h Q R = y3 at *
  generalize det X Q R * det P X R = a1 at *
  generalize det X Q R * det P Q X = a2 at *
  generalize det P X R * det P Q X = a3 at *
  generalize det Y Q R * det P Y R = b1 at *
  generalize det Y Q R * det P Q Y = b2 at *
  generalize det P Y R * det P Q Y = b3 at *
  generalize vl f X = u1 at *
  generalize vl f Y = u2 at *
  generalize vl h X = v1 at *
  generalize vl h Y = v2 at *
  have : D * D * (u1 * v2 - u2 * v1) = (D * u1 - (a1 * x1 + a2 * x2 + a3 * x3)) * (D * v2) + (a1 * x1 + a2 * x2 + a3 * x3) * (D * v2 - (b1 * y1 + b2 * y2 + b3 * y3)) - (D * u2 - (b1 * x1 + b2 * x2 + b3 * x3)) * (D * v1) - (b1 * x1 + b2 * x2 + b3 * x3) * (D * v1 - (a1 * y1 + a2 * y2 + a3 * y3))
      + ((a1 * b2 - a2 * b1) * (x1 * y2 - x2 * y1) + (a1 * b3 - a3 * b1) * (x1 * y3 - x3 * y1) + (a2 * b3 - a3 * b2) * (x2 * y3 - x3 * y2)) := by grind
  rw [this]
  exact Int.dvd_add (Int.dvd_sub (Int.dvd_sub (Int.dvd_add (Int.dvd_mul_of_dvd_left fX) (Int.dvd_mul_of_dvd_right hY)) (Int.dvd_mul_of_dvd_left fY)) (Int.dvd_mul_of_dvd_right hX))
    (Int.dvd_add (Int.dvd_add (Int.dvd_mul_of_dvd_right m1) (Int.dvd_mul_of_dvd_right m2)) (Int.dvd_mul_of_dvd_right m3))
end
/-- items below p -/
def Ok (p : Int) (f : Fm) : Prop := ∀ i, 0 ≤ co i f ∧ co i f < p
/-- one the other's times -/
def Tm (p : Int) (f h : Fm) (k : Int) : Prop := ∀ i, co i f * k % p = co i h
theorem times {p : Int} (p0 : 1 < p) (hp : ∀ a b : Int, p ∣ a * b → p ∣ a ∨ p ∣ b) (inv : ∀ x : Int, ¬ p ∣ x → ∃ t, p ∣ x * t - 1) {f h : Fm} (of : Ok p f) (oh : Ok p h) (H : ∀ X Y, p ∣ vl f X * vl h Y - vl f Y * vl h X) :
    ∃ k : Int, 0 ≤ k ∧ k < p ∧ (Tm p f h k ∨ Tm p h f k) := by
  have par : ∀ i j, p ∣ co i f * co j h - co j f * co i h := fun i j => by
    rw [co_at f i, co_at f j, co_at h i, co_at h j]
    exact ev_par H (at6 i) (at6 j)
  have zero : ∀ {f : Fm} {i}, Ok p f → p ∣ co i f → co i f = 0 := fun {f i} o d => by
    rw [dvd_iff, Int.emod_eq_of_lt (o i).1 (o i).2] at d
    exact d
  by_cases hz : ∀ i, p ∣ co i f
  · refine ⟨0, Int.le_refl _, by omega, .inr fun i => ?_⟩
    rw [Int.mul_zero, Int.zero_emod, zero of (hz i)]
  · obtain ⟨i, hi⟩ := Classical.not_forall.mp hz
    obtain ⟨t, ht⟩ := inv _ hi
    refine ⟨co i h * t % p, Int.emod_nonneg _ (by omega), Int.emod_lt_of_pos _ (by omega), .inl fun j => ?_⟩
    have e : p ∣ co j f * (co i h * t) - co j h := by
      have : co j f * (co i h * t) - co j h = co j h * (co i f * t - 1) - t * (co i f * co j h - co j f * co i h) := by grind
      rw [this]
      exact Int.dvd_sub (Int.dvd_mul_of_dvd_right ht) (Int.dvd_mul_of_dvd_right (par i j))
    rw [Int.mul_emod, Int.emod_emod_of_dvd _ (Int.dvd_refl p), ← Int.mul_emod]
    have e2 := Int.emod_emod_of_dvd (co j f * (co i h * t)) (Int.dvd_refl p)
    have := Int.emod_eq_emod_iff_emod_sub_eq_zero.mpr (dvd_iff.mp e)
    rw [this, Int.emod_eq_of_lt (oh j).1 (oh j).2]
end K64

namespace K64
def pts (p : Nat) : List V3 := ⟨0, 0, 1⟩ :: ((List.range p).map (fun c : Nat => (⟨0, 1, c⟩ : V3)) ++ ((List.range p).map fun b : Nat => (List.range p).map fun c : Nat => (⟨1, b, c⟩ : V3)).flatten)
def on (p : Nat) (l : V3) : List V3 := (pts p).filter fun x => dot l x % p == 0
def f1 (p : Nat) : Bool := (pts p).all fun P => (pts p).all fun Q => P == Q || (P.y * Q.z - P.z * Q.y) % p != 0 || (P.z * Q.x - P.x * Q.z) % p != 0 || (P.x * Q.y - P.y * Q.x) % p != 0
def f2 (p : Nat) : Bool := (pts p).all fun P => (pts p).all fun Q => (pts p).any fun l => dot l P % p == 0 && dot l Q % p == 0
def f3 (p : Nat) : Bool := (pts p).all fun l => (on p l).length == p + 1 && (l.x % p != 0 || l.y % p != 0 || l.z % p != 0)
def f4 (p : Nat) : Bool := decide (pts p).Nodup
def f5 (p : Nat) : Bool := (List.range p).all fun x => x == 0 || (List.range p).any fun t => x * t % p == 1
def f6 (p : Nat) : Bool := (List.range p).all fun x => (List.range p).all fun y => x * y % p != 0 || x == 0 || y == 0
def ps : List Nat := [2, 3, 5, 7]
theorem fin1 : ps.all (fun p => f1 p && f3 p && f4 p && f5 p && f6 p) = true := by decide +kernel
theorem fin2 : ps.all (fun p => f2 p) = true := by decide +kernel
end K64

namespace K64
structure Pf (p : Nat) : Prop where
  one : 1 < p
  mul : ∀ a b : Int, (p : Int) ∣ a * b → (p : Int) ∣ a ∨ (p : Int) ∣ b
  inv : ∀ x : Int, ¬ (p : Int) ∣ x → ∃ t, (p : Int) ∣ x * t - 1
  cr : ∀ P ∈ pts p, ∀ Q ∈ pts p, P ≠ Q → ¬ ((p : Int) ∣ P.y * Q.z - P.z * Q.y) ∨ ¬ ((p : Int) ∣ P.z * Q.x - P.x * Q.z) ∨ ¬ ((p : Int) ∣ P.x * Q.y - P.y * Q.x)
  ln : ∀ P ∈ pts p, ∀ Q ∈ pts p, ∃ l ∈ pts p, (p : Int) ∣ dot l P ∧ (p : Int) ∣ dot l Q
  len : ∀ l ∈ pts p, (on p l).length = p + 1
  l0 : ∀ l ∈ pts p, ¬ ((p : Int) ∣ l.x) ∨ ¬ ((p : Int) ∣ l.y) ∨ ¬ ((p : Int) ∣ l.z)
  nd : (pts p).Nodup
theorem ne_dvd {p : Nat} {x : Int} (h : (x % (p : Int) != 0) = true) : ¬ (p : Int) ∣ x := fun z => by
  rw [dvd_iff] at z
  rw [z] at h
  cases h
theorem eq_dvd {p : Nat} {x : Int} (h : (x % (p : Int) == 0) = true) : (p : Int) ∣ x := dvd_iff.mpr (by simpa using h)
theorem pf {p : Nat} (hp : p ∈ ps) : Pf p := by
  have h1 := List.all_eq_true.mp fin1 p hp
  have h2 := List.all_eq_true.mp fin2 p hp
  simp only [Bool.and_eq_true] at h1
  obtain ⟨⟨⟨⟨g1, g3⟩, g4⟩, g5⟩, g6⟩ := h1
  have hp' : p = 2 ∨ p = 3 ∨ p = 5 ∨ p = 7 := by simpa [ps] using hp
  have p1 : 1 < p := by omega
  have res : ∀ x : Int, ∃ r : Nat, r < p ∧ x % p = r := fun x => ⟨(x % p).toNat, by have := Int.emod_lt_of_pos x (show (0 : Int) < p by omega); omega, by have := Int.emod_nonneg x (show (p : Int) ≠ 0 by omega); omega⟩
  refine ⟨p1, fun a b h => ?_, fun x hx => ?_, fun P hP Q hQ hne => ?_, fun P hP Q hQ => ?_, fun l hl => ?_, fun l hl => ?_, of_decide_eq_true g4⟩
  · obtain ⟨r, r1, r2⟩ := res a
    obtain ⟨s, s1, s2⟩ := res b
    have k := List.all_eq_true.mp (List.all_eq_true.mp g6 r (List.mem_range.mpr r1)) s (List.mem_range.mpr s1)
    rw [dvd_iff, Int.mul_emod, r2, s2] at h
    have h' : r * s % p = 0 := by
      have : ((r * s % p : Nat) : Int) = 0 := by push_cast; exact h
      omega
    rw [h'] at k
    simp only [bne_self_eq_false, Bool.false_or, Bool.or_eq_true, beq_iff_eq] at k
    rw [dvd_iff, dvd_iff, r2, s2]
    omega
  · obtain ⟨r, r1, r2⟩ := res x
    have k := List.all_eq_true.mp g5 r (List.mem_range.mpr r1)
    rw [Bool.or_eq_true, List.any_eq_true] at k
    rcases k with k | ⟨t, ht, k⟩
    · have : r = 0 := by simpa using k
      exact absurd (dvd_iff.mpr (by rw [r2, this]; rfl)) hx
    · refine ⟨t, dvd_iff.mpr ?_⟩
      have k : r * t % p = 1 := by simpa using k
      have e : x * t % p = 1 := by
        have e0 : x * t % p = (x % p) * t % p := by rw [Int.mul_emod, Int.mul_emod (x % p) t, Int.emod_emod_of_dvd _ (Int.dvd_refl _)]
        rw [e0, r2]
        have : ((r * t % p : Nat) : Int) = 1 := by rw [k]; rfl
        push_cast at this
        exact this
      rw [Int.sub_emod, e]
      simp
  · have k := List.all_eq_true.mp (List.all_eq_true.mp g1 P hP) Q hQ
    simp only [Bool.or_eq_true] at k
    rcases k with ((k | k) | k) | k
    · exact absurd (by simpa using k) hne
    · exact .inl (ne_dvd k)
    · exact .inr (.inl (ne_dvd k))
    · exact .inr (.inr (ne_dvd k))
  · obtain ⟨l, hl, k⟩ := List.any_eq_true.mp (List.all_eq_true.mp (List.all_eq_true.mp h2 P hP) Q hQ)
    rw [Bool.and_eq_true] at k
    exact ⟨l, hl, eq_dvd k.1, eq_dvd k.2⟩
  · have k := List.all_eq_true.mp g3 l hl
    rw [Bool.and_eq_true] at k
    simpa using k.1
  · have k := List.all_eq_true.mp g3 l hl
    rw [Bool.and_eq_true] at k
    have k := k.2
    simp only [Bool.or_eq_true] at k
    rcases k with (k | k) | k
    · exact .inl (ne_dvd k)
    · exact .inr (.inl (ne_dvd k))
    · exact .inr (.inr (ne_dvd k))
/-- the common noughts -/
def cm (p : Nat) (f h : Fm) : List V3 := (pts p).filter fun X => vl f X % p == 0 && vl h X % p == 0
theorem cm_mem {p : Nat} {f h : Fm} {X : V3} : X ∈ cm p f h ↔ X ∈ pts p ∧ (p : Int) ∣ vl f X ∧ (p : Int) ∣ vl h X := by
  unfold cm
  rw [List.mem_filter, Bool.and_eq_true, dvd_iff, dvd_iff]
  simp
theorem bent {p : Nat} (hp : Pf p) {f h : Fm} (no : ∀ l ∈ pts p, ∃ X ∈ on p l, X ∉ cm p f h) {P Q R : V3} (hP : P ∈ cm p f h) (hQ : Q ∈ cm p f h) (hR : R ∈ cm p f h) (n1 : P ≠ Q) (n2 : P ≠ R) (n3 : Q ≠ R) : ¬ (p : Int) ∣ det P Q R := by
  intro d0
  obtain ⟨a1, a2, a3⟩ := cm_mem.mp hP
  obtain ⟨b1, b2, b3⟩ := cm_mem.mp hQ
  obtain ⟨c1, c2, c3⟩ := cm_mem.mp hR
  obtain ⟨l, hl, l1, l2⟩ := hp.ln P a1 Q b1
  obtain ⟨X, hX, nX⟩ := no l hl
  obtain ⟨x1, x2⟩ := List.mem_filter.mp hX
  have x2 := eq_dvd x2
  have dX : (p : Int) ∣ det P Q X := by
    obtain ⟨e1, e2, e3⟩ := lne l P Q X
    have go : ∀ {t a b c : Int}, t * det P Q X = dot l P * a + dot l Q * b + dot l X * c → ¬ (p : Int) ∣ t → (p : Int) ∣ det P Q X := fun e ht => by
      refine of_mul hp.mul (b := det P Q X) ?_ ht
      rw [e]
      exact Int.dvd_add (Int.dvd_add (Int.dvd_mul_of_dvd_left l1) (Int.dvd_mul_of_dvd_left l2)) (Int.dvd_mul_of_dvd_left x2)
    rcases hp.l0 l hl with z | z | z
    · exact go e1 z
    · exact go e2 z
    · exact go e3 z
  -- a vector beside the line
  obtain ⟨Z, hZ⟩ : ∃ Z : V3, ¬ (p : Int) ∣ det P Q Z := by
    rcases hp.cr P a1 Q b1 n1 with z | z | z
    · exact ⟨⟨1, 0, 0⟩, by rw [show det P Q ⟨1, 0, 0⟩ = P.y * Q.z - P.z * Q.y by simp only [det]; grind]; exact z⟩
    · exact ⟨⟨0, 1, 0⟩, by rw [show det P Q ⟨0, 1, 0⟩ = P.z * Q.x - P.x * Q.z by simp only [det]; grind]; exact z⟩
    · exact ⟨⟨0, 0, 1⟩, by rw [show det P Q ⟨0, 0, 1⟩ = P.x * Q.y - P.y * Q.x by simp only [det]; grind]; exact z⟩
  obtain ⟨k1, k2, k3⟩ := cram P Q Z R
  have r1 : ¬ (p : Int) ∣ det R Q Z := fun z => by
    have go : ∀ {u v : Int}, det P Q Z * (u) = v → (p : Int) ∣ v → (p : Int) ∣ u := fun e hv => of_mul hp.mul (by rw [e]; exact hv) hZ
    have q1 : (p : Int) ∣ Q.y * R.z - Q.z * R.y := go (v := det R Q Z * (Q.y * P.z - Q.z * P.y) + det P Q R * (Q.y * Z.z - Q.z * Z.y)) (by
      have : det P Q Z * (Q.y * R.z - Q.z * R.y) = Q.y * (det P Q Z * R.z) - Q.z * (det P Q Z * R.y) := by grind
      rw [this, k2, k3]; grind) (Int.dvd_add (Int.dvd_mul_of_dvd_left z) (Int.dvd_mul_of_dvd_left d0))
    have q2 : (p : Int) ∣ Q.z * R.x - Q.x * R.z := go (v := det R Q Z * (Q.z * P.x - Q.x * P.z) + det P Q R * (Q.z * Z.x - Q.x * Z.z)) (by
      have : det P Q Z * (Q.z * R.x - Q.x * R.z) = Q.z * (det P Q Z * R.x) - Q.x * (det P Q Z * R.z) := by grind
      rw [this, k1, k3]; grind) (Int.dvd_add (Int.dvd_mul_of_dvd_left z) (Int.dvd_mul_of_dvd_left d0))
    have q3 : (p : Int) ∣ Q.x * R.y - Q.y * R.x := go (v := det R Q Z * (Q.x * P.y - Q.y * P.x) + det P Q R * (Q.x * Z.y - Q.y * Z.x)) (by
      have : det P Q Z * (Q.x * R.y - Q.y * R.x) = Q.x * (det P Q Z * R.y) - Q.y * (det P Q Z * R.x) := by grind
      rw [this, k1, k2]; grind) (Int.dvd_add (Int.dvd_mul_of_dvd_left z) (Int.dvd_mul_of_dvd_left d0))
    rcases hp.cr Q b1 R c1 n3 with z | z | z
    · exact z q1
    · exact z q2
    · exact z q3
  have r2 : ¬ (p : Int) ∣ det P R Z := fun z => by
    have go : ∀ {u v : Int}, det P Q Z * (u) = v → (p : Int) ∣ v → (p : Int) ∣ u := fun e hv => of_mul hp.mul (by rw [e]; exact hv) hZ
    have q1 : (p : Int) ∣ P.y * R.z - P.z * R.y := go (v := det P R Z * (P.y * Q.z - P.z * Q.y) + det P Q R * (P.y * Z.z - P.z * Z.y)) (by
      have : det P Q Z * (P.y * R.z - P.z * R.y) = P.y * (det P Q Z * R.z) - P.z * (det P Q Z * R.y) := by grind
      rw [this, k2, k3]; grind) (Int.dvd_add (Int.dvd_mul_of_dvd_left z) (Int.dvd_mul_of_dvd_left d0))
    have q2 : (p : Int) ∣ P.z * R.x - P.x * R.z := go (v := det P R Z * (P.z * Q.x - P.x * Q.z) + det P Q R * (P.z * Z.x - P.x * Z.z)) (by
      have : det P Q Z * (P.z * R.x - P.x * R.z) = P.z * (det P Q Z * R.x) - P.x * (det P Q Z * R.z) := by grind
      rw [this, k1, k3]; grind) (Int.dvd_add (Int.dvd_mul_of_dvd_left z) (Int.dvd_mul_of_dvd_left d0))
    have q3 : (p : Int) ∣ P.x * R.y - P.y * R.x := go (v := det P R Z * (P.x * Q.y - P.y * Q.x) + det P Q R * (P.x * Z.y - P.y * Z.x)) (by
      have : det P Q Z * (P.x * R.y - P.y * R.x) = P.x * (det P Q Z * R.y) - P.y * (det P Q Z * R.x) := by grind
      rw [this, k1, k2]; grind) (Int.dvd_add (Int.dvd_mul_of_dvd_left z) (Int.dvd_mul_of_dvd_left d0))
    rcases hp.cr P a1 R c1 n2 with z | z | z
    · exact z q1
    · exact z q2
    · exact z q3
  exact nX (cm_mem.mpr ⟨x1, line3 hp.mul hZ a2 b2 c2 d0 dX r1 r2, line3 hp.mul hZ a3 b3 c3 d0 dX r1 r2⟩)
theorem det_s (P Q R : V3) : det P Q R = det R P Q := by simp only [det]; grind
/-- few common points, or a line, or one the other's times -/
theorem few {p : Nat} (hp : Pf p) {f h : Fm} (of : Ok p f) (oh : Ok p h) (no : ∀ l ∈ pts p, ∃ X ∈ on p l, X ∉ cm p f h) (nt : ∀ k : Int, 0 ≤ k → k < p → ¬ Tm p f h k ∧ ¬ Tm p h f k) : (cm p f h).length ≤ 4 := by
  apply Classical.byContradiction
  intro hl
  have nd : (cm p f h).Nodup := hp.nd.filter _
  match hc : cm p f h, hl with
  | [], hl => simp at hl
  | [_], hl => simp at hl
  | [_, _], hl => simp at hl
  | [_, _, _], hl => simp at hl
  | [_, _, _, _], hl => simp at hl
  | P :: Q :: R :: S :: T :: r, _ =>
    rw [hc] at nd
    have mP : P ∈ cm p f h := by rw [hc]; simp
    have mQ : Q ∈ cm p f h := by rw [hc]; simp
    have mR : R ∈ cm p f h := by rw [hc]; simp
    have mS : S ∈ cm p f h := by rw [hc]; simp
    have mT : T ∈ cm p f h := by rw [hc]; simp
    simp only [List.nodup_cons, List.mem_cons, not_or] at nd
    obtain ⟨⟨pq, pr, ps, pt, _⟩, ⟨qr, qs, qt, _⟩, ⟨rs, rt, _⟩, ⟨st, _⟩, _⟩ := nd
    have b := fun {P Q R} => bent hp no (P := P) (Q := Q) (R := R)
    have d0 := b mP mQ mR pq pr qr
    have d1 := b mS mQ mR (Ne.symm qs) (Ne.symm rs) qr
    have d2 := b mT mQ mR (Ne.symm qt) (Ne.symm rt) qr
    have d3 := b mP mS mT ps pt st
    obtain ⟨_, a2, a3⟩ := cm_mem.mp mP
    obtain ⟨_, b2, b3⟩ := cm_mem.mp mQ
    obtain ⟨_, c2, c3⟩ := cm_mem.mp mR
    obtain ⟨_, e2, e3⟩ := cm_mem.mp mS
    obtain ⟨_, g2, g3⟩ := cm_mem.mp mT
    have m := five hp.mul d0 d1 d2 d3 a2 b2 c2 e2 g2 a3 b3 c3 e3 g3
    have H := vl_par hp.mul d0 a2 b2 c2 a3 b3 c3 m
    have hp1 := hp.one
    obtain ⟨k, k0, k1, k2⟩ := times (by omega) hp.mul hp.inv of oh H
    exact k2.elim (nt k k0 k1).1 (nt k k0 k1).2
end K64

namespace K64
open PySem Fz
def V3.d (X : V3) : D := .tup [.int X.x, .int X.y, .int X.z]
def Fm.D (f : Fm) : D := .tup [.tup [.int f.a, .int f.g, .int f.e], .tup [.int 0, .int f.b, .int f.d], .tup [.int 0, .int 0, .int f.c]]
theorem lp2 (g : List (List Fz.D)) : exD ⟨F 18, C⟩ 4 b18 [.int 2] g = .ok (.lst ((pts 2).map V3.d), g) := by kernel_rfl
theorem pp2 (g : List (List Fz.D)) : exD ⟨F 6, C⟩ 3 b6 [.int 2, .int 3] g = .ok (.tup ((pts 2).map V3.d), g) := by kernel_rfl
theorem lp3 (g : List (List Fz.D)) : exD ⟨F 18, C⟩ 4 b18 [.int 3] g = .ok (.lst ((pts 3).map V3.d), g) := by kernel_rfl
theorem pp3 (g : List (List Fz.D)) : exD ⟨F 6, C⟩ 3 b6 [.int 3, .int 3] g = .ok (.tup ((pts 3).map V3.d), g) := by kernel_rfl
theorem lp5 (g : List (List Fz.D)) : exD ⟨F 18, C⟩ 4 b18 [.int 5] g = .ok (.lst ((pts 5).map V3.d), g) := by kernel_rfl
theorem pp5 (g : List (List Fz.D)) : exD ⟨F 6, C⟩ 3 b6 [.int 5, .int 3] g = .ok (.tup ((pts 5).map V3.d), g) := by kernel_rfl
theorem lp7 (g : List (List Fz.D)) : exD ⟨F 18, C⟩ 4 b18 [.int 7] g = .ok (.lst ((pts 7).map V3.d), g) := by kernel_rfl
theorem pp7 (g : List (List Fz.D)) : exD ⟨F 6, C⟩ 3 b6 [.int 7, .int 3] g = .ok (.tup ((pts 7).map V3.d), g) := by kernel_rfl
end K64

namespace K64
open PySem Fz
def Vb (X : V3) : Prop := (0 ≤ X.x ∧ X.x < 10) ∧ (0 ≤ X.y ∧ X.y < 10) ∧ 0 ≤ X.z ∧ X.z < 10
theorem cut0 {a b c : Fz.D} : cut [a, b, c] (some 0) none = [a, b, c] := rfl
theorem cut1 {a b c : Fz.D} : cut [a, b, c] (some 1) none = [b, c] := rfl
theorem cut2 {a b c : Fz.D} : cut [a, b, c] (some 2) none = [c] := rfl
theorem n3 {md : Nat} {a b c : Fz.D} {w : Wd} : newT [a, b, c] w = .ok (.tup [a, b, c], w) := newT_ok' (show 3 ≤ mxLen by decide)
theorem n2 {a b : Fz.D} {w : Wd} : newT [a, b] w = .ok (.tup [a, b], w) := newT_ok' (show 2 ≤ mxLen by decide)
theorem n1 {a : Fz.D} {w : Wd} : newT [a] w = .ok (.tup [a], w) := newT_ok' (show 1 ≤ mxLen by decide)
theorem l3 {a b c : Fz.D} {w : Wd} : newL 0 [a, b, c] w = .ok (.lst [a, b, c], w) := newL_0 (show 3 ≤ mxLen by decide)
theorem l2 {a b : Fz.D} {w : Wd} : newL 0 [a, b] w = .ok (.lst [a, b], w) := newL_0 (show 2 ≤ mxLen by decide)
theorem l1 {a : Fz.D} {w : Wd} : newL 0 [a] w = .ok (.lst [a], w) := newL_0 (show 1 ≤ mxLen by decide)
theorem mx0 : 0 < mxLen := by decide
theorem mx1 : 1 < mxLen := by decide
theorem mx2 : 2 < mxLen := by decide
theorem fme (x : Int) {p : Int} (hp : 0 ≤ p) : x.fmod p = x % p := Int.fmod_eq_emod_of_nonneg _ hp
section
variable {n : Nat} {p : Int} (hp : 1 < p) (hp2 : p < 10) (g : List (List Fz.D))
include hp hp2
theorem formAt_ok (h : 7 < n) {f : Fm} (hf : Ok p f) {X : V3} (hX : Vb X) : F n 7 [.int p, f.D, X.d] g = .ok (.int (vl f X % p), g) := by
  obtain ⟨f, gg, e, b, d, c⟩ := f
  obtain ⟨x, y, z⟩ := X
  have h0 := hf 0; have h1 := hf 1; have h2 := hf 2; have h3 := hf 3; have h4 := hf 4; have h5 := hf 5
  simp only [co] at h0 h1 h2 h3 h4 h5
  obtain ⟨⟨x1, x2⟩, ⟨y1, y2⟩, z1, z2⟩ := hX
  simp only at x1 x2 y1 y2 z1 z2
  have mf : ∀ t, mulOk f t = true := fun t => mulOk_l (by omega)
  have mg : ∀ t, mulOk gg t = true := fun t => mulOk_l (by omega)
  have me : ∀ t, mulOk e t = true := fun t => mulOk_l (by omega)
  have mb : ∀ t, mulOk b t = true := fun t => mulOk_l (by omega)
  have md : ∀ t, mulOk d t = true := fun t => mulOk_l (by omega)
  have mc : ∀ t, mulOk c t = true := fun t => mulOk_l (by omega)
  have mx : ∀ t, mulOk x t = true := fun t => mulOk_l (by omega)
  have my : ∀ t, mulOk y t = true := fun t => mulOk_l (by omega)
  have mz : ∀ t, mulOk z t = true := fun t => mulOk_l (by omega)
  have p0 : ¬ p = 0 := by omega
  rw [F7 h]
  simp only [exD, b7, Fm.D, V3.d]
  by_cases hx : x = 0 <;> by_cases hy : y = 0 <;> by_cases hz : z = 0 <;>
    simp [forL_cons, b7_0, e7_0, coL_cons, enuL, zipD, cut0, cut1, cut2, n3 (md := 0), n2, n1, l3, l2, l1, mf, mg, me, mb, md, mc, mx, my, mz, hx, hy, hz, mx0, mx1, mx2, p0, fme _ (show 0 ≤ p by omega), vl, intD] <;> (first | done | (congr 1; grind))
end
end K64

namespace K64
open PySem Fz
/-- a form's times -/
def tm (p : Int) (f : Fm) (k : Int) : Fm := ⟨f.a * k % p, f.g * k % p, f.e * k % p, f.b * k % p, f.d * k % p, f.c * k % p⟩
theorem tm_iff {p k : Int} {f h : Fm} : tm p f k = h ↔ Tm p f h k := by
  constructor
  · rintro rfl i
    match i with
    | 0 => rfl
    | 1 => rfl
    | 2 => rfl
    | 3 => rfl
    | 4 => rfl
    | _ + 5 => rfl
  · intro H
    have h0 := H 0; have h1 := H 1; have h2 := H 2; have h3 := H 3; have h4 := H 4; have h5 := H 5
    obtain ⟨a, g, e, b, d, c⟩ := h
    simp only [co] at h0 h1 h2 h3 h4 h5
    simp only [tm, h0, h1, h2, h3, h4, h5]
theorem V_rs {ρ : Nat → Option Fz.D} {φ : Bool} (X : V3) : rs ρ φ X.d = some X.d := rs_ok _ rfl
theorem F_rs {ρ : Nat → Option Fz.D} {φ : Bool} (f : Fm) : rs ρ φ f.D = some f.D := rs_ok _ rfl
theorem V_rets (l : List V3) : okRets (l.map V3.d) = true := okRets_all fun d hd => by
  obtain ⟨X, _, rfl⟩ := List.mem_map.mp hd
  rfl
theorem V_eqv (X Y : V3) : PyData.eqv (pd X.d) (pd Y.d) = decide (X = Y) := by
  have := eqv_tupI [X.x, X.y, X.z] [Y.x, Y.y, Y.z]
  rw [show PyData.eqv (pd X.d) (pd Y.d) = PyData.eqv (pd (tupI [X.x, X.y, X.z])) (pd (tupI [Y.x, Y.y, Y.z])) from rfl, this]
  obtain ⟨x, y, z⟩ := X
  obtain ⟨x', y', z'⟩ := Y
  simp
theorem V_pl {X : V3} (h : Vb X) : Pl 4 1 X.d := by
  obtain ⟨⟨x1, x2⟩, ⟨y1, y2⟩, z1, z2⟩ := h
  exact Pl_tup.mpr (Pls_cons.mpr ⟨Pl_int.mpr (by omega), Pls_cons.mpr ⟨Pl_int.mpr (by omega), Pls_cons.mpr ⟨Pl_int.mpr (by omega), trivial⟩⟩⟩)
theorem F_pl {p : Int} (hp2 : p < 10) {f : Fm} (hf : Ok p f) : Pl 4 2 f.D := by
  have h0 := hf 0; have h1 := hf 1; have h2 := hf 2; have h3 := hf 3; have h4 := hf 4; have h5 := hf 5
  simp only [co] at h0 h1 h2 h3 h4 h5
  have i := fun {x : Int} (hx : 0 ≤ x ∧ x < p) => Pl_int (k := 4) (n := 0) (b := x) |>.mpr (by omega)
  have z : Pl 4 0 (.int 0) := Pl_int.mpr (by decide)
  exact Pl_tup.mpr (Pls_cons.mpr ⟨Pl_tup.mpr (Pls_cons.mpr ⟨i h0, Pls_cons.mpr ⟨i h1, Pls_cons.mpr ⟨i h2, trivial⟩⟩⟩), Pls_cons.mpr ⟨Pl_tup.mpr (Pls_cons.mpr ⟨z, Pls_cons.mpr ⟨i h3, Pls_cons.mpr ⟨i h4, trivial⟩⟩⟩), Pls_cons.mpr ⟨Pl_tup.mpr (Pls_cons.mpr ⟨z, Pls_cons.mpr ⟨z, Pls_cons.mpr ⟨i h5, trivial⟩⟩⟩), trivial⟩⟩⟩)
theorem F_eqv (f h : Fm) : PyData.eqv (pd f.D) (pd h.D) = decide (f = h) := by
  obtain ⟨a, g, e, b, d, c⟩ := f
  obtain ⟨a', g', e', b', d', c'⟩ := h
  have r1 := eqv_tupI [a, g, e] [a', g', e']
  have r2 := eqv_tupI [0, b, d] [0, b', d']
  have r3 := eqv_tupI [0, 0, c] [0, 0, c']
  show PyData.eqv (.tuple [pd (tupI [a, g, e]), pd (tupI [0, b, d]), pd (tupI [0, 0, c])]) (.tuple [pd (tupI [a', g', e']), pd (tupI [0, b', d']), pd (tupI [0, 0, c'])]) = _
  rw [PyData.eqv]
  show (PyData.eqv _ _ && (PyData.eqv _ _ && (PyData.eqv _ _ && true))) = _
  rw [r1, r2, r3]
  simp
  grind
theorem F_eq {p : Int} (hp2 : p < 10) {f h : Fm} (hf : Ok p f) (hh : Ok p h) {w : Wd} : cmF .eq f.D h.D w = some (decide (f = h)) := by
  rw [show cmF .eq f.D h.D w = eqF f.D h.D w from rfl, eqF_plain (F_pl hp2 hf) (F_pl hp2 hh) (by decide), F_eqv]
theorem V_in {X : V3} (hX : Vb X) {l : List V3} (hl : ∀ Y ∈ l, Vb Y) {w : Wd} : cmF .isin X.d (.tup (l.map V3.d)) w = some (l.contains X) := by
  rw [in_tup (k := 4) (n := 2) rfl ?_ (Pl_tup.mpr (Pls_all fun d hd => by
    obtain ⟨Y, hY, rfl⟩ := List.mem_map.mp hd
    exact V_pl (hl Y hY))) (by decide), pds_any]
  · congr 1
    rw [← List.elem_eq_contains]
    induction l with
    | nil => rfl
    | cons Y l ih =>
      rw [List.any_cons, List.elem_cons, V_eqv, ih fun Z hZ => hl Z (List.mem_cons_of_mem _ hZ)]
      by_cases h : X = Y
      · subst h; simp
      · have h' : ¬ Y = X := fun z => h z.symm
        have h2 : (X == Y) = false := by simpa using h
        rw [h2]
        simp [h']
  · have := V_pl hX
    obtain ⟨⟨x1, x2⟩, ⟨y1, y2⟩, z1, z2⟩ := hX
    exact Pl_tup.mpr (Pls_cons.mpr ⟨Pl_int.mpr (by omega), Pls_cons.mpr ⟨Pl_int.mpr (by omega), Pls_cons.mpr ⟨Pl_int.mpr (by omega), trivial⟩⟩⟩)
theorem tm_ok {p : Int} (hp : 0 < p) (f : Fm) (k : Int) : Ok p (tm p f k) := fun i => by
  match i with
  | 0 => exact ⟨Int.emod_nonneg _ (by omega), Int.emod_lt_of_pos _ hp⟩
  | 1 => exact ⟨Int.emod_nonneg _ (by omega), Int.emod_lt_of_pos _ hp⟩
  | 2 => exact ⟨Int.emod_nonneg _ (by omega), Int.emod_lt_of_pos _ hp⟩
  | 3 => exact ⟨Int.emod_nonneg _ (by omega), Int.emod_lt_of_pos _ hp⟩
  | 4 => exact ⟨Int.emod_nonneg _ (by omega), Int.emod_lt_of_pos _ hp⟩
  | _ + 5 => exact ⟨Int.emod_nonneg _ (by omega), Int.emod_lt_of_pos _ hp⟩
theorem pts_b {p : Nat} (hp : p < 10) : ∀ X ∈ pts p, Vb X := fun X hX => by
  unfold pts at hX
  rcases List.mem_cons.mp hX with rfl | hX
  · exact ⟨⟨by decide, by decide⟩, ⟨by decide, by decide⟩, by decide, by decide⟩
  · rcases List.mem_append.mp hX with hX | hX
    · obtain ⟨c, hc, rfl⟩ := List.mem_map.mp hX
      have := List.mem_range.mp hc
      exact ⟨⟨show (0 : Int) ≤ 0 by decide, show (0 : Int) < 10 by decide⟩, ⟨show (0 : Int) ≤ 1 by decide, show (1 : Int) < 10 by decide⟩, show (0 : Int) ≤ c by omega, show (c : Int) < 10 by omega⟩
    · obtain ⟨l, hl, hX⟩ := List.mem_flatten.mp hX
      obtain ⟨b, hb, rfl⟩ := List.mem_map.mp hl
      obtain ⟨c, hc, rfl⟩ := List.mem_map.mp hX
      have := List.mem_range.mp hb
      have := List.mem_range.mp hc
      exact ⟨⟨show (0 : Int) ≤ 1 by decide, show (1 : Int) < 10 by decide⟩, ⟨show (0 : Int) ≤ b by omega, show (b : Int) < 10 by omega⟩, show (0 : Int) ≤ c by omega, show (c : Int) < 10 by omega⟩
theorem pts_len {p : Nat} (hp : p ∈ ps) : (pts p).length < 64 ∧ 0 < (pts p).length := by
  have hp' : p = 2 ∨ p = 3 ∨ p = 5 ∨ p = 7 := by simpa [ps] using hp
  rcases hp' with rfl | rfl | rfl | rfl <;> decide
end K64

namespace K64
open PySem Fz
theorem lpts {n p : Nat} (h : 18 < n) (hp : p ∈ ps) (g : List (List Fz.D)) : F n 18 [.int p] g = .ok (.lst ((pts p).map V3.d), g) := by
  have hp' : p = 2 ∨ p = 3 ∨ p = 5 ∨ p = 7 := by simpa [ps] using hp
  rw [F18 h]
  rcases hp' with rfl | rfl | rfl | rfl
  · exact lp2 g
  · exact lp3 g
  · exact lp5 g
  · exact lp7 g
theorem ppts {n p : Nat} (h : 6 < n) (hp : p ∈ ps) (g : List (List Fz.D)) : F n 6 [.int p, .int 3] g = .ok (.tup ((pts p).map V3.d), g) := by
  have hp' : p = 2 ∨ p = 3 ∨ p = 5 ∨ p = 7 := by simpa [ps] using hp
  rw [F6 h]
  rcases hp' with rfl | rfl | rfl | rfl
  · exact pp2 g
  · exact pp3 g
  · exact pp5 g
  · exact pp7 g
theorem lnL {p : Nat} (hp : p ∈ ps) {α : Type} {md : Fz.D → α} (l : List V3) (hl : l.length ≤ (pts p).length) : l.length ≤ mxLen := Nat.le_trans hl (Nat.le_trans (Nat.le_of_lt (pts_len hp).1) (by decide))
section
variable {n p : Nat} (hp : p ∈ ps) (g : List (List Fz.D))
include hp
theorem pb : 1 < p ∧ p < 10 := by
  have hp' : p = 2 ∨ p = 3 ∨ p = 5 ∨ p = 7 := by simpa [ps] using hp
  omega
theorem pbI : (1 : Int) < p ∧ (p : Int) < 10 := by
  have := pb hp
  omega
theorem nlV {md : Nat} {l : List V3} (hl : l.length ≤ (pts p).length) (w : Wd) : newL 0 (l.map V3.d) w = .ok (.lst (l.map V3.d), w) := newL_0 (le_mx (by rw [List.length_map]; have := (pts_len hp).1; omega))
theorem ntV {l : List V3} (hl : l.length ≤ (pts p).length) (w : Wd) : newT (l.map V3.d) w = .ok (.tup (l.map V3.d), w) := newT_ok' (le_mx (by rw [List.length_map]; have := (pts_len hp).1; omega))
theorem mxp {l : List V3} (hl : l.length ≤ (pts p).length) : ([] : List Fz.D).length + l.length ≤ mxLen := le_mx (by have := (pts_len hp).1; simp; omega)
theorem oval_ok (h : 9 < n) {f : Fm} (hf : Ok p f) : F n 9 [.int p, f.D] g = .ok (.tup (((pts p).filter fun X => vl f X % p == 0).map V3.d), g) := by
  have pp := ppts (n := 9) (by decide) hp g
  have fa := fun {X : V3} (hX : Vb X) => formAt_ok (pbI hp).1 (pbI hp).2 g (n := 9) (by decide) hf hX
  have co := coL_fil (bind := asg (.nm 2)) (test := evC ⟨F 9, C⟩ c9_0) (elt := evE ⟨F 9, C⟩ e9_0) (ok := fun _ => true) (own := [2]) (σ := [some (.int p), some f.D, none]) (m := []) (g := g) V3.d V3.d (fun X => vl f X % p == 0) (pts p) [] (mxp hp (Nat.le_refl _)) (fun X hX r acc ha => by
    have b := pts_b (pb hp).2 X hX
    rw [coL_cons]
    by_cases hz : vl f X % p = 0
    · simp [c9_0, e9_0, F_rs, V_rs, fa b, hz, ha]
    · simp [c9_0, e9_0, F_rs, V_rs, fa b, hz])
  rw [F9 h]
  have fl : ((pts p).filter fun X => vl f X % p == 0).length ≤ (pts p).length := List.length_filter_le _ _
  simp [exD, b9, pp, co, nlV hp (md := 0) fl, ntV hp fl, rsL_ok _ (V_rets _)]
theorem common_ok (h : 10 < n) {f k : Fm} (hf : Ok p f) (hk : Ok p k) : F n 10 [.int p, f.D, k.D] g = .ok (.tup ((cm p f k).map V3.d), g) := by
  have o1 := oval_ok hp g (n := 10) (by decide) hf
  have o2 := oval_ok hp g (n := 10) (by decide) hk
  have l1 : ((pts p).filter fun X => vl f X % p == 0).length ≤ (pts p).length := List.length_filter_le _ _
  have bk : ∀ Y ∈ (pts p).filter fun X => vl k X % p == 0, Vb Y := fun Y hY => pts_b (pb hp).2 Y (List.mem_filter.mp hY).1
  have co := coL_fil (bind := asg (.nm 4)) (test := evC ⟨F 10, C⟩ c10_0) (elt := evE ⟨F 10, C⟩ e10_0) (ok := fun _ => true) (own := [4]) (σ := [some (.int p), some f.D, some k.D, some (.tup (((pts p).filter fun X => vl k X % p == 0).map V3.d)), none]) (m := []) (g := g) V3.d V3.d (fun X => ((pts p).filter fun X => vl k X % p == 0).contains X) ((pts p).filter fun X => vl f X % p == 0) [] (mxp hp l1) (fun X hX r acc ha => by
    have b := pts_b (pb hp).2 X (List.mem_filter.mp hX).1
    have vi := fun {w : Wd} => V_in b bk (w := w)
    rw [coL_cons]
    generalize ((pts p).filter fun X => vl k X % p == 0).contains X = t at vi
    cases t with
    | true => simp [c10_0, e10_0, vi, ha]
    | false => simp [c10_0, e10_0, vi])
  have e : (((pts p).filter fun X => vl f X % p == 0).filter fun X => ((pts p).filter fun X => vl k X % p == 0).contains X) = cm p f k := by
    unfold cm
    rw [List.filter_filter]
    have go : ∀ X ∈ pts p, (((pts p).filter fun X => vl k X % p == 0).contains X && (vl f X % p == 0)) = (vl f X % p == 0 && vl k X % p == 0) := fun X hX => by
      have e1 : ((pts p).filter fun X => vl k X % p == 0).contains X = (vl k X % p == 0) := by
        rw [Bool.eq_iff_iff, List.contains_iff_mem, List.mem_filter]
        exact ⟨fun h => h.2, fun h => ⟨hX, h⟩⟩
      rw [e1, Bool.and_comm]
    exact List.filter_congr go
  rw [e] at co
  have l2 : (cm p f k).length ≤ (pts p).length := List.length_filter_le _ _
  rw [F10 h]
  simp [exD, b10, F_rs, o1, o2, co, nlV hp (md := 0) l2, ntV hp l2, rsL_ok _ (V_rets _)]
theorem sum_ok (h : 8 < n) {l X : V3} (hl : Vb l) (hX : Vb X) : F n 8 [.int p, l.d, X.d] g = .ok (.int (dot l X % p), g) := by
  obtain ⟨x, y, z⟩ := l
  obtain ⟨x', y', z'⟩ := X
  obtain ⟨⟨x1, x2⟩, ⟨y1, y2⟩, z1, z2⟩ := hl
  simp only at x1 x2 y1 y2 z1 z2
  have mx : ∀ t, mulOk x t = true := fun t => mulOk_l (by omega)
  have my : ∀ t, mulOk y t = true := fun t => mulOk_l (by omega)
  have mz : ∀ t, mulOk z t = true := fun t => mulOk_l (by omega)
  have pp := pb hp
  have p0 : ¬ p = 0 := by omega
  rw [F8 h]
  simp [exD, b8, V3.d, e8_0, coL_cons, zipD, l3, mx, my, mz, mx0, mx1, mx2, p0, fme _ (show (0 : Int) ≤ p by omega), dot, intD]
  congr 1
  grind
/-- the first line of common noughts -/
def fst (p : Nat) (f k : Fm) : Option V3 := (pts p).find? fun l => ((cm p f k).filter fun X => dot l X % p == 0).length == p + 1
def oV : Option V3 → Fz.D
  | some l => l.d
  | none => .non
theorem line_ok (h : 11 < n) {f k : Fm} (hf : Ok p f) (hk : Ok p k) : F n 11 [.int p, f.D, k.D] g = .ok (oV (fst p f k), g) := by
  have c1 := common_ok hp g (n := 11) (by decide) hf hk
  have pp := ppts (n := 11) (by decide) hp g
  have l2 : (cm p f k).length ≤ (pts p).length := List.length_filter_le _ _
  have L := forL_find (bind := asg (.nm 4)) (body := exB ⟨F 11, C⟩ b11_0) (post := postF [4] false 0) (ok := fun _ => true) V3.d V3.d (fun l => ((cm p f k).filter fun X => dot l X % p == 0).length == p + 1) ⟨[some (.int p), some f.D, some k.D, some (.tup ((cm p f k).map V3.d)), none, none], [], g⟩ (fun l => ⟨[some (.int p), some f.D, some k.D, some (.tup ((cm p f k).map V3.d)), some l.d, none], [], g⟩) (pts p) (fun l hl r => by
    have bl := pts_b (pb hp).2 l hl
    have co := coL_fil (bind := asg (.nm 5)) (test := evC ⟨F 11, C⟩ c11_0) (elt := evE ⟨F 11, C⟩ e11_0) (ok := fun _ => true) (own := [5]) (σ := [some (.int p), some f.D, some k.D, some (.tup ((cm p f k).map V3.d)), some l.d, none]) (m := []) (g := g) V3.d V3.d (fun X => dot l X % p == 0) (cm p f k) [] (mxp hp l2) (fun X hX r acc ha => by
      have b := pts_b (pb hp).2 X (List.mem_filter.mp hX).1
      have s1 := sum_ok hp g (n := 11) (by decide) bl b
      rw [coL_cons]
      by_cases hz : dot l X % p = 0
      · simp [c11_0, e11_0, V_rs, s1, hz, ha]
      · simp [c11_0, e11_0, V_rs, s1, hz])
    have l3 : ((cm p f k).filter fun X => dot l X % p == 0).length ≤ (pts p).length := Nat.le_trans (List.length_filter_le _ _) l2
    have c : (((cm p f k).filter fun X => dot l X % p == 0).length : Int) = (p : Int) + 1 ↔ ((cm p f k).filter fun X => dot l X % p == 0).length = p + 1 := by omega
    rw [forL_cons]
    by_cases hz : ((cm p f k).filter fun X => dot l X % p == 0).length = p + 1
    · simp [b11_0, co, nlV hp (md := 0) l3, c, hz]
    · simp [b11_0, co, nlV hp (md := 0) l3, c, hz])
  rw [F11 h]
  unfold fst
  simp [exD, b11, F_rs, c1, pp, L]
  cases (pts p).find? (fun l => ((cm p f k).filter fun X => dot l X % p == 0).length == p + 1) with
  | none => simp [oV]
  | some l => simp [oV, V_rs]
end
end K64

namespace K64
open PySem Fz
section
variable {n p : Nat} (hp : p ∈ ps) (g : List (List Fz.D))
include hp
theorem times_ok (h : 12 < n) {f : Fm} (hf : Ok p f) (k : Int) : F n 12 [.int p, f.D, .int k] g = .ok ((tm p f k).D, g) := by
  obtain ⟨a, gg, e, b, d, c⟩ := f
  have h0 := hf 0; have h1 := hf 1; have h2 := hf 2; have h3 := hf 3; have h4 := hf 4; have h5 := hf 5
  simp only [co] at h0 h1 h2 h3 h4 h5
  have pp := pb hp
  have ma : ∀ t, mulOk a t = true := fun t => mulOk_l (by omega)
  have mg : ∀ t, mulOk gg t = true := fun t => mulOk_l (by omega)
  have me : ∀ t, mulOk e t = true := fun t => mulOk_l (by omega)
  have mb : ∀ t, mulOk b t = true := fun t => mulOk_l (by omega)
  have md : ∀ t, mulOk d t = true := fun t => mulOk_l (by omega)
  have mc : ∀ t, mulOk c t = true := fun t => mulOk_l (by omega)
  have m0 : ∀ t, mulOk 0 t = true := fun t => mulOk_l (by decide)
  have p0 : ¬ p = 0 := by omega
  rw [F12 h]
  simp [exD, b12, Fm.D, e12_1, e12_0, coL_cons, l3, n3 (md := 0), m0, ma, mg, me, mb, md, mc, mx0, mx1, mx2, p0, fme _ (show (0 : Int) ≤ p by omega), tm]
def isT (p : Nat) (f k : Fm) : Bool := (List.range p).any fun t : Nat => decide (tm p f t = k) || decide (tm p k t = f)
theorem areT_ok (h : 13 < n) {f k : Fm} (hf : Ok p f) (hk : Ok p k) : F n 13 [.int p, f.D, k.D] g = .ok (.bl (isT p f k), g) := by
  have pp := pb hp
  have t1 := fun t => times_ok hp g (n := 13) (by decide) hf t
  have t2 := fun t => times_ok hp g (n := 13) (by decide) hk t
  have q1 := fun (t : Int) {w : Wd} => F_eq (pbI hp).2 (tm_ok (show (0 : Int) < p by omega) f t) hk (w := w)
  have q2 := fun (t : Int) {w : Wd} => F_eq (pbI hp).2 (tm_ok (show (0 : Int) < p by omega) k t) hf (w := w)
  have q3 := fun {w : Wd} => F_eq (pbI hp).2 hk hk (w := w)
  have q4 := fun {w : Wd} => F_eq (pbI hp).2 hf hf (w := w)
  have L := forL_find (bind := asg (.nm 3)) (body := exB ⟨F 13, C⟩ b13_0) (post := postF [3] false 0) (ok := fun _ => true) (fun t : Nat => .int t) (fun _ => .bl true) (fun t : Nat => decide (tm p f t = k) || decide (tm p k t = f)) ⟨[some (.int p), some f.D, some k.D, none], [], g⟩ (fun t : Nat => ⟨[some (.int p), some f.D, some k.D, some (.int t)], [], g⟩) (List.range p) (fun t _ r => by
    rw [forL_cons]
    by_cases c1 : tm p f t = k
    · simp [b13_0, F_rs, t1, t2, q1, q2, q3, c1]
    · by_cases c2 : tm p k t = f
      · simp [b13_0, F_rs, t1, t2, q1, q2, q4, c1, c2]
      · simp [b13_0, F_rs, t1, t2, q1, q2, c1, c2])
  have r : rngF [.int (p : Int)] = some ((List.range p).map fun t : Nat => Fz.D.int t) := by
    rw [rng_1 (n := p) (by omega) (by omega), rngL_map]
    simp
  rw [F13 h]
  unfold isT
  simp only [exD, b13]
  simp [r, -List.map_map]
  rw [show (fun t : Nat => Fz.D.int (t : Int)) = (fun t : Nat => Fz.D.int t) from rfl] at L
  rw [L]
  cases hf : (List.range p).find? (fun t : Nat => decide (tm p f t = k) || decide (tm p k t = f)) with
  | none =>
    have : (List.range p).any (fun t : Nat => decide (tm p f t = k) || decide (tm p k t = f)) = false := by
      rw [List.find?_eq_none] at hf
      rw [List.any_eq_false]
      exact hf
    simp [this]
  | some t =>
    have : (List.range p).any (fun t : Nat => decide (tm p f t = k) || decide (tm p k t = f)) = true := List.any_eq_true.mpr ⟨t, List.mem_of_find?_eq_some hf, by simpa using List.find?_some hf⟩
    simp [this]
def wd (p : Nat) (f k : Fm) : Str := if isT p f k then "times" else match fst p f k with
  | none => "points"
  | some _ => "line"
theorem word_ok (h : 14 < n) {f k : Fm} (hf : Ok p f) (hk : Ok p k) : F n 14 [.int p, f.D, k.D] g = .ok (.str (wd p f k), g) := by
  have a := areT_ok hp g (n := 14) (by decide) hf hk
  have l := line_ok hp g (n := 14) (by decide) hf hk
  have i1 : ∀ {w : Wd}, cmF .is .non .non w = some true := rfl
  have i2 : ∀ {ds : List Fz.D} {w : Wd}, cmF .is (.tup ds) .non w = some false := rfl
  rw [F14 h]
  unfold wd
  cases c1 : isT p f k with
  | true => simp [exD, b14, F_rs, a, c1]
  | false => cases c2 : fst p f k with
    | none => simp [exD, b14, F_rs, a, l, c1, c2, oV, i1]
    | some X => simp [exD, b14, F_rs, a, l, c1, c2, oV, V3.d, i2]
/-! ### the law's own -/
theorem lat_ok (h : 19 < n) {f : Fm} (hf : Ok p f) {X : V3} (hX : Vb X) : F n 19 [.int p, f.D, X.d] g = .ok (.int (vl f X % p), g) := by
  obtain ⟨f, gg, e, b, d, c⟩ := f
  obtain ⟨x, y, z⟩ := X
  have h0 := hf 0; have h1 := hf 1; have h2 := hf 2; have h3 := hf 3; have h4 := hf 4; have h5 := hf 5
  simp only [co] at h0 h1 h2 h3 h4 h5
  obtain ⟨⟨x1, x2⟩, ⟨y1, y2⟩, z1, z2⟩ := hX
  simp only at x1 x2 y1 y2 z1 z2
  have pp := pb hp
  have mf : ∀ t, mulOk f t = true := fun t => mulOk_l (by omega)
  have mg : ∀ t, mulOk gg t = true := fun t => mulOk_l (by omega)
  have me : ∀ t, mulOk e t = true := fun t => mulOk_l (by omega)
  have mb : ∀ t, mulOk b t = true := fun t => mulOk_l (by omega)
  have md : ∀ t, mulOk d t = true := fun t => mulOk_l (by omega)
  have mc : ∀ t, mulOk c t = true := fun t => mulOk_l (by omega)
  have mx : ∀ t, mulOk t x = true := fun t => mulOk_r (by omega)
  have my : ∀ t, mulOk t y = true := fun t => mulOk_r (by omega)
  have mz : ∀ t, mulOk t z = true := fun t => mulOk_r (by omega)
  have p0 : ¬ p = 0 := by omega
  have r3 : rngF [.int 3] = some [.int 0, .int 1, .int 2] := rfl
  have r03 : rngF [.int 0, .int 3] = some [.int 0, .int 1, .int 2] := rfl
  have r13 : rngF [.int 1, .int 3] = some [.int 1, .int 2] := rfl
  have r23 : rngF [.int 2, .int 3] = some [.int 2] := rfl
  rw [F19 h]
  simp [exD, b19, Fm.D, V3.d, forL_cons, b19_0, e19_0, coL_cons, r3, r03, r13, r23, l3, l2, l1, mf, mg, me, mb, md, mc, mx, my, mz, mx0, mx1, mx2, p0, fme _ (show (0 : Int) ≤ p by omega), vl, intD]
  congr 1
  grind
theorem mixed_ok (h : 23 < n) {f : Fm} (hf : Ok p f) (k : Int) : F n 23 [.int p, f.D, f.D, .int k, .int 0] g = .ok ((tm p f k).D, g) := by
  obtain ⟨a, gg, e, b, d, c⟩ := f
  have h0 := hf 0; have h1 := hf 1; have h2 := hf 2; have h3 := hf 3; have h4 := hf 4; have h5 := hf 5
  simp only [co] at h0 h1 h2 h3 h4 h5
  have pp := pb hp
  have ma : ∀ t, mulOk t a = true := fun t => mulOk_r (by omega)
  have mg : ∀ t, mulOk t gg = true := fun t => mulOk_r (by omega)
  have me : ∀ t, mulOk t e = true := fun t => mulOk_r (by omega)
  have mb : ∀ t, mulOk t b = true := fun t => mulOk_r (by omega)
  have md : ∀ t, mulOk t d = true := fun t => mulOk_r (by omega)
  have mc : ∀ t, mulOk t c = true := fun t => mulOk_r (by omega)
  have m0 : ∀ t, mulOk t 0 = true := fun t => mulOk_r (by decide)
  have p0 : ¬ p = 0 := by omega
  rw [F23 h]
  simp [exD, b23, Fm.D, e23_1, e23_0, coL_cons, zipD, l3, n3 (md := 0), m0, ma, mg, me, mb, md, mc, mx0, mx1, mx2, p0, fme _ (show (0 : Int) ≤ p by omega), tm, Int.mul_comm]
theorem on_ok (h : 25 < n) {l : V3} (hl : Vb l) : F n 25 [.int p, l.d] g = .ok (.lst ((on p l).map V3.d), g) := by
  have pp := lpts (n := 25) (by decide) hp g
  have pq := pb hp
  have co := coL_fil (bind := asg (.nm 2)) (test := evC ⟨F 25, C⟩ c25_1) (elt := evE ⟨F 25, C⟩ e25_1) (ok := fun _ => true) (own := [2]) (σ := [some (.int p), some l.d, none, none, none]) (m := []) (g := g) V3.d V3.d (fun X => dot l X % p == 0) (pts p) [] (mxp hp (Nat.le_refl _)) (fun X hX r acc ha => by
    obtain ⟨x, y, z⟩ := l
    obtain ⟨⟨x1, x2⟩, ⟨y1, y2⟩, z1, z2⟩ := hl
    simp only at x1 x2 y1 y2 z1 z2
    have mx : ∀ t, mulOk x t = true := fun t => mulOk_l (by omega)
    have my : ∀ t, mulOk y t = true := fun t => mulOk_l (by omega)
    have mz : ∀ t, mulOk z t = true := fun t => mulOk_l (by omega)
    have p0 : ¬ p = 0 := by omega
    have e : x * X.x + (y * X.y + z * X.z) = dot ⟨x, y, z⟩ X := by simp only [dot]; omega
    rw [coL_cons]
    by_cases hz : dot ⟨x, y, z⟩ X % p = 0
    · simp [c25_1, e25_1, e25_0, V3.d, coL_cons, zipD, l3, mx, my, mz, mx0, mx1, mx2, p0, fme _ (show (0 : Int) ≤ p by omega), intD, e, hz, ha]
    · simp [c25_1, e25_1, e25_0, V3.d, coL_cons, zipD, l3, mx, my, mz, mx0, mx1, mx2, p0, fme _ (show (0 : Int) ≤ p by omega), intD, e, hz])
  have ln : (on p l).length ≤ (pts p).length := List.length_filter_le _ _
  rw [F25 h]
  unfold on at ln ⊢
  simp [exD, b25, pp, co, nlV hp (md := 0) ln, rsL_ok _ (V_rets _)]
end
end K64

namespace K64
open PySem Fz
/-! ### lines of common noughts -/
def full (p : Nat) (f k : Fm) (l : V3) : Bool := (on p l).all fun X => (cm p f k).contains X
theorem full_eq {p : Nat} (hp : Pf p) {f k : Fm} {l : V3} (hl : l ∈ pts p) : (((cm p f k).filter fun X => dot l X % p == 0).length == p + 1) = full p f k l := by
  have e1 : (cm p f k).filter (fun X => dot l X % p == 0) = (on p l).filter (fun X => vl f X % p == 0 && vl k X % p == 0) := by
    unfold cm on
    rw [List.filter_filter, List.filter_filter]
    exact List.filter_congr fun X _ => Bool.and_comm _ _
  have e2 : full p f k l = (on p l).all fun X => vl f X % p == 0 && vl k X % p == 0 := by
    unfold full
    have go : ∀ X ∈ on p l, (cm p f k).contains X = (vl f X % p == 0 && vl k X % p == 0) := fun X hX => by
      rw [Bool.eq_iff_iff, List.contains_iff_mem]
      unfold cm
      rw [List.mem_filter]
      exact ⟨fun h => h.2, fun h => ⟨(List.mem_filter.mp hX).1, h⟩⟩
    rw [Bool.eq_iff_iff, List.all_eq_true, List.all_eq_true]
    exact ⟨fun h X hX => by rw [← go X hX]; exact h X hX, fun h X hX => by rw [go X hX]; exact h X hX⟩
  rw [e1, e2, ← hp.len l hl, Bool.eq_iff_iff, beq_iff_eq, List.length_filter_eq_length_iff, List.all_eq_true]
theorem fst_eq {p : Nat} (hp : Pf p) (f k : Fm) : fst p f k = if (cm p f k).length > p then ((pts p).filter (full p f k)).head? else none := by
  unfold fst
  split
  · rw [List.head?_filter]
    have : ∀ l : List V3, (∀ x ∈ l, x ∈ pts p) → l.find? (fun l => ((cm p f k).filter fun X => dot l X % p == 0).length == p + 1) = l.find? (full p f k) := by
      intro l
      induction l with
      | nil => intro _; rfl
      | cons x l ih =>
        intro h
        rw [List.find?_cons, List.find?_cons, full_eq hp (h x List.mem_cons_self), ih fun y hy => h y (List.mem_cons_of_mem _ hy)]
    exact this _ fun _ h => h
  · rename_i hl
    rw [List.find?_eq_none]
    intro l _ h
    have h := beq_iff_eq.mp h
    have := List.length_filter_le (fun X => dot l X % p == 0) (cm p f k)
    omega
theorem few_points {p : Nat} (hp : p ∈ ps) {f k : Fm} (hf : Ok p f) (hk : Ok p k) (t : isT p f k = false) (l : fst p f k = none) : (cm p f k).length ≤ 4 := by
  have P := pf hp
  have p1 := P.one
  refine few P hf hk (fun l hl => ?_) fun t h0 h1 => ?_
  · have h := List.find?_eq_none.mp (show (pts p).find? _ = none from by assumption) l hl
    rw [full_eq P hl] at h
    unfold full at h
    simp only [List.all_eq_true, Classical.not_forall] at h
    obtain ⟨X, hX, h⟩ := h
    exact ⟨X, hX, fun z => h (List.contains_iff_mem.mpr z)⟩
  · have ht : ∀ u ∈ List.range p, ¬ (decide (tm p f (u : Int) = k) || decide (tm p k (u : Int) = f)) = true := by
      have := t
      rename_i t0
      exact fun u hu => by
        have := List.any_eq_false.mp t0 u hu
        exact this
    have h := ht t.toNat (List.mem_range.mpr (by omega))
    rw [show ((t.toNat : Nat) : Int) = t by omega] at h
    simp only [Bool.or_eq_true, decide_eq_true_eq, not_or] at h
    exact ⟨fun z => h.1 (tm_iff.mpr z), fun z => h.2 (tm_iff.mpr z)⟩
/-! ### what is drawn -/
theorem draw16 {n : Nat} (h : 16 < n) {g : List (List Fz.D)} (hg : Bag g) {m : Int} (h1 : 1 ≤ m) (h2 : m < 1000000) : ∃ (r : Nat) (g' : List (List Fz.D)), F n 16 [.g 1, .int m] g = .ok (.int r, g') ∧ Bag g' ∧ (r : Int) < m := by
  obtain ⟨r, g', e, p, r0, r1⟩ := draw_ok (P := ⟨F 16, C⟩) hg h1 (by omega)
  obtain ⟨k, rfl⟩ : ∃ k : Nat, r = (k : Int) := ⟨r.toNat, by omega⟩
  exact ⟨k, g', by rw [F16 h]; exact e, p, r1⟩
theorem pick17 {n : Nat} (h : 17 < n) {g : List (List Fz.D)} (hg : Bag g) (l : List Fz.D) (h0 : 0 < l.length) (h1 : l.length < 1000000) (hr : okRets l = true) : ∃ (x : Fz.D) (g' : List (List Fz.D)), F n 17 [.g 1, .lst l] g = .ok (x, g') ∧ Bag g' ∧ x ∈ l := by
  obtain ⟨i, hi, g', e, p⟩ := pick_ok (P := ⟨F 17, C⟩) (P2 := ⟨F 16, C⟩) (j := 16) (F16 (by decide)) hg (ds := l) h0 h1 hr
  exact ⟨l[i], g', by rw [F17 h]; exact e, p, List.getElem_mem hi⟩
theorem made_ok {n : Nat} (h : 20 < n) (g : List (List Fz.D)) (a gg e b d c : Int) : F n 20 [.lst [.int a, .int gg, .int e, .int b, .int d, .int c]] g = .ok (Fm.D ⟨a, gg, e, b, d, c⟩, g) := by
  rw [F20 h]
  have i4 : ixI 6 4 = some 4 := rfl
  have i5 : ixI 6 5 = some 5 := rfl
  simp [exD, b20, n3 (md := 0), Fm.D, i4, i5]
theorem made_ok' {n : Nat} (h : 20 < n) (g : List (List Fz.D)) (a gg e b d c : Int) : F n 20 [.fl [.int a, .int gg, .int e, .int b, .int d, .int c]] g = .ok (Fm.D ⟨a, gg, e, b, d, c⟩, g) := by
  rw [F20 h]
  have i4 : ixI 6 4 = some 4 := rfl
  have i5 : ixI 6 5 = some 5 := rfl
  simp [exD, b20, n3 (md := 0), Fm.D, i4, i5]
theorem Ok_of {p a g e b d c : Int} (h0 : 0 ≤ a ∧ a < p) (h1 : 0 ≤ g ∧ g < p) (h2 : 0 ≤ e ∧ e < p) (h3 : 0 ≤ b ∧ b < p) (h4 : 0 ≤ d ∧ d < p) (h5 : 0 ≤ c ∧ c < p) : Ok p ⟨a, g, e, b, d, c⟩ := fun i => by
  match i with
  | 0 => exact h0
  | 1 => exact h1
  | 2 => exact h2
  | 3 => exact h3
  | 4 => exact h4
  | _ + 5 => exact h5
section
variable {n p : Nat} (hp : p ∈ ps)
include hp
theorem pickP {n : Nat} (h : 17 < n) {g : List (List Fz.D)} (hg : Bag g) : ∃ (X : V3) (g' : List (List Fz.D)), F n 17 [.g 1, .lst ((pts p).map V3.d)] g = .ok (X.d, g') ∧ Bag g' ∧ Vb X := by
  have pl := pts_len hp
  obtain ⟨x, g', e, p', hx⟩ := pick17 h hg ((pts p).map V3.d) (by rw [List.length_map]; omega) (by rw [List.length_map]; omega) (V_rets _)
  obtain ⟨X, hX, rfl⟩ := List.mem_map.mp hx
  exact ⟨X, g', e, p', pts_b (pb hp).2 X hX⟩
theorem lines_ok (h : 21 < n) {X Y : V3} (hX : Vb X) (hY : Vb Y) (g : List (List Fz.D)) : ∃ f, Ok p f ∧ F n 21 [.int p, X.d, Y.d] g = .ok (f.D, g) := by
  obtain ⟨x, y, z⟩ := X
  obtain ⟨x', y', z'⟩ := Y
  obtain ⟨⟨x1, x2⟩, ⟨y1, y2⟩, z1, z2⟩ := hX
  simp only at x1 x2 y1 y2 z1 z2
  have mx : ∀ t, mulOk x t = true := fun t => mulOk_l (by omega)
  have my : ∀ t, mulOk y t = true := fun t => mulOk_l (by omega)
  have mz : ∀ t, mulOk z t = true := fun t => mulOk_l (by omega)
  have pp := pb hp
  have p0 : ¬ p = 0 := by omega
  have r3 : rngF [.int 3] = some [.int 0, .int 1, .int 2] := rfl
  have r13 : rngF [.int 1, .int 3] = some [.int 1, .int 2] := rfl
  have r23 : rngF [.int 2, .int 3] = some [.int 2] := rfl
  have r33 : rngF [.int 3, .int 3] = some [] := rfl
  have ml : ∀ t : Int, 0 ≤ t % p ∧ t % p < p := fun t => ⟨Int.emod_nonneg _ (by omega), Int.emod_lt_of_pos _ (by omega)⟩
  have e0 : ∀ w : Wd, newL 1 [] w = .ok (.ref w.m.length, { w with m := w.m ++ [[]] }) := fun w => newL_1 (by decide)
  have ez : ∀ w : Wd, newL 0 [] w = .ok (.lst [], w) := fun w => newL_0 (by decide)
  have k1 : 1 ≤ mxLen := by decide
  have k2 : 2 ≤ mxLen := by decide
  have k3 : 3 ≤ mxLen := by decide
  have k4 : 4 ≤ mxLen := by decide
  have k5 : 5 ≤ mxLen := by decide
  have k6 : 6 ≤ mxLen := by decide
  have j3 : 3 < mxLen := by decide
  have j4 : 4 < mxLen := by decide
  have j5 : 5 < mxLen := by decide
  refine ⟨⟨x * x' % p, (x * y' + y * x') % p, (x * z' + z * x') % p, y * y' % p, (y * z' + z * y') % p, z * z' % p⟩, Ok_of (ml _) (ml _) (ml _) (ml _) (ml _) (ml _), ?_⟩
  have md := made_ok' (n := 21) (by decide) g
  rw [F21 h]
  simp [exD, b21, V3.d, forL_cons, b21_0, e21_0, coL_cons, r3, r13, r23, r33, e0, ez, l2, l1, mx, my, mz, mx0, mx1, mx2, p0, fme _ (show (0 : Int) ≤ p by omega), deq, k1, k2, k3, k4, k5, k6, j3, j4, j5, md, F_rs]
theorem form_ok (h : 22 < n) {g : List (List Fz.D)} (hg : Bag g) : ∃ (f : Fm) (g' : List (List Fz.D)), Ok p f ∧ Bag g' ∧ F n 22 [.g 1, .int p] g = .ok (f.D, g') := by
  have pp := pb hp
  obtain ⟨w, g1, e1, p1, h1⟩ := draw16 (n := 22) (by decide) hg (m := 8) (by decide) (by decide)
  rw [F22 h]
  by_cases c : w < 3
  · obtain ⟨X, g2, e2, p2, hX⟩ := pickP hp (n := 22) (by decide) p1
    obtain ⟨Y, g3, e3, p3, hY⟩ := pickP hp (n := 22) (by decide) p2
    obtain ⟨f, hf, ef⟩ := lines_ok hp (n := 22) (by decide) hX hY g3
    have l1 := lpts (n := 22) (by decide) hp g1
    have l2 := lpts (n := 22) (by decide) hp g2
    have c' : (w : Int) < 3 := by omega
    refine ⟨f, g3, hf, p3, ?_⟩
    simp [exD, b22, e1, c, c', l1, l2, e2, e3, ef, rsL_ok _ (V_rets _), V_rs, F_rs]
  · obtain ⟨o, g2, e2, p2, h2⟩ := draw16 (n := 22) (by decide) p1 (m := 3) (by decide) (by decide)
    have ml : ∀ t : Nat, (t : Int) < p → 0 ≤ (t : Int) ∧ (t : Int) < p := fun t h => ⟨by omega, h⟩
    obtain ⟨ys, g3, hy, ⟨l, rfl, hl, p3⟩, e⟩ := coL_inv (bind := asg (.nm 4)) (test := evC ⟨F 22, C⟩ .no) (elt := evE ⟨F 22, C⟩ e22_0) (ok := fun _ => true) (own := [4]) (σ := [some (.g 1), some (.int p), some (.int w), some (.int (1 + (o : Int))), none]) (m := [])
      (fun acc g => ∃ l : List Int, acc = l.map Fz.D.int ∧ (∀ t ∈ l, 0 ≤ t ∧ t < p) ∧ Bag g) (rngL 0 6) [] g2 (fun x hx r acc g1 ⟨l, hl1, hl2, hg1⟩ hmx => by
        have put : ∀ (t : Int) (g' : List (List Fz.D)), 0 ≤ t ∧ t < p → Bag g' → evE ⟨F 22, C⟩ e22_0 ⟨[some (.g 1), some (.int p), some (.int w), some (.int (1 + (o : Int))), some x], [], g1⟩ = .ok (.int t, ⟨[some (.g 1), some (.int p), some (.int w), some (.int (1 + (o : Int))), some x], [], g'⟩) → ∃ y g', (∃ l : List Int, acc ++ [y] = l.map Fz.D.int ∧ (∀ t ∈ l, 0 ≤ t ∧ t < p) ∧ Bag g') ∧ coL (asg (.nm 4)) (evC ⟨F 22, C⟩ .no) (evE ⟨F 22, C⟩ e22_0) (fun _ => true) [4] [some (.g 1), some (.int p), some (.int w), some (.int (1 + (o : Int))), none] (x :: r) ⟨[some (.g 1), some (.int p), some (.int w), some (.int (1 + (o : Int))), none], [], g1⟩ acc = coL (asg (.nm 4)) (evC ⟨F 22, C⟩ .no) (evE ⟨F 22, C⟩ e22_0) (fun _ => true) [4] [some (.g 1), some (.int p), some (.int w), some (.int (1 + (o : Int))), none] r ⟨[some (.g 1), some (.int p), some (.int w), some (.int (1 + (o : Int))), none], [], g'⟩ (acc ++ [y]) := fun t g' ht hg' he => by
          refine ⟨.int t, g', ⟨l ++ [t], by rw [hl1, List.map_append]; rfl, fun u hu => ?_, hg'⟩, ?_⟩
          · rcases List.mem_append.mp hu with hu | hu
            · exact hl2 u hu
            · rw [List.mem_singleton.mp hu]; exact ht
          · rw [coL_cons]
            simp [he, hmx]
        have w3 : ¬ w < 3 := c
        by_cases c7 : w < 7
        · have c7' : (w : Int) < 7 := by omega
          obtain ⟨r1, g2, e2, p2, h2⟩ := draw16 (n := 22) (by decide) hg1 (m := 1 + (o : Int)) (by omega) (by omega)
          by_cases z : r1 = 0
          · subst z
            obtain ⟨r2, g3, e3, p3, h3⟩ := draw16 (n := 22) (by decide) p2 (m := p) (by omega) (by omega)
            exact put r2 g3 (ml _ h3) p3 (by simp at e2; simp [e22_0, c7, c7', e2, e3])
          · exact put 0 g2 ⟨by omega, by omega⟩ p2 (by simp [e22_0, c7, c7', e2, z])
        · have c7' : ¬ (w : Int) < 7 := by omega
          exact put 0 g1 ⟨by omega, by omega⟩ hg1 (by simp [e22_0, c7, c7'])) (by decide) ⟨[], rfl, fun _ h => (nomatch h), p2⟩
    rw [List.length_map] at hy
    match l, hy with
    | [a, gg, e', b, d, cc], _ =>
      have hz := fun t ht => hl t ht
      have q0 := hz a (by simp); have q1 := hz gg (by simp); have q2 := hz e' (by simp); have q3 := hz b (by simp); have q4 := hz d (by simp); have q5 := hz cc (by simp)
      have md := made_ok (n := 22) (by decide) g3 a gg e' b d cc
      have r6 : rngF [.int 6] = some (rngL 0 6) := rfl
      have l6 : ∀ (w : Wd), newL 0 [Fz.D.int a, .int gg, .int e', .int b, .int d, .int cc] w = .ok (.lst [.int a, .int gg, .int e', .int b, .int d, .int cc], w) := fun w => newL_0 (show 6 ≤ mxLen by decide)
      have c' : ¬ (w : Int) < 3 := by omega
      refine ⟨⟨a, gg, e', b, d, cc⟩, g3, Ok_of q0 q1 q2 q3 q4 q5, p3, ?_⟩
      simp only [List.map_cons, List.map_nil] at e
      simp [exD, b22, e1, c, c', e2, r6, e, l6, md, F_rs]
theorem pair_ok (h : 27 < n) {g : List (List Fz.D)} (hg : Bag g) : ∃ (f k : Fm) (g' : List (List Fz.D)), Ok p f ∧ Ok p k ∧ Bag g' ∧ F n 27 [.g 1, .int p] g = .ok (.tup [f.D, k.D], g') := by
  have pp := pb hp
  obtain ⟨f, g1, hf, p1, e1⟩ := form_ok hp (n := 27) (by decide) hg
  obtain ⟨w, g2, e2, p2, h2⟩ := draw16 (n := 27) (by decide) p1 (m := 5) (by decide) (by decide)
  rw [F27 h]
  by_cases c0 : w = 0
  · subst c0
    obtain ⟨t, g3, e3, p3, h3⟩ := draw16 (n := 27) (by decide) p2 (m := p) (by omega) (by omega)
    have mx := mixed_ok hp g3 (n := 27) (by decide) hf t
    obtain ⟨u, g4, e4, p4, h4⟩ := draw16 (n := 27) (by decide) p3 (m := 2) (by decide) (by decide)
    simp at e2
    by_cases cu : u = 0
    · subst cu
      simp at e4
      exact ⟨f, tm p f t, g4, hf, tm_ok (by omega) f t, p4, by simp [exD, b27, e1, e2, e3, mx, e4, n2, F_rs]⟩
    · exact ⟨tm p f t, f, g4, tm_ok (by omega) f t, hf, p4, by simp [exD, b27, e1, e2, e3, mx, e4, cu, n2, F_rs]⟩
  · by_cases c1 : w = 1
    · subst c1
      simp at e2
      obtain ⟨X, g3, e3, p3, hX⟩ := pickP hp (n := 27) (by decide) p2
      obtain ⟨Y, g4, e4, p4, hY⟩ := pickP hp (n := 27) (by decide) p3
      obtain ⟨f1, hf1, ef1⟩ := lines_ok hp (n := 27) (by decide) hX hY g4
      obtain ⟨Z, g5, e5, p5, hZ⟩ := pickP hp (n := 27) (by decide) p4
      obtain ⟨f2, hf2, ef2⟩ := lines_ok hp (n := 27) (by decide) hX hZ g5
      have l2 := lpts (n := 27) (by decide) hp g2
      have l3' := lpts (n := 27) (by decide) hp g3
      have l4 := lpts (n := 27) (by decide) hp g4
      exact ⟨f1, f2, g5, hf1, hf2, p5, by simp [exD, b27, e1, e2, l2, e3, e27_0, coL_cons, n2, l3', e4, ef1, l4, e5, ef2, mx0, mx1, Fz.rsL_ok _ (V_rets _), V_rs, F_rs, K64.l2]⟩
    · obtain ⟨k, g3, hk, p3, e3⟩ := form_ok hp (n := 27) (by decide) p2
      have c1' : ¬ (w : Int) = 1 := by omega
      exact ⟨f, k, g3, hf, hk, p3, by simp [exD, b27, e1, e2, c0, c1, c1', e3, n2, F_rs]⟩
end
end K64

namespace K64
open PySem Fz
theorem szV (X : V3) : szB 4 X.d = 24 := by
  unfold V3.d szB szBs szBs szBs szBs szB
  rfl
theorem szF (f : Fm) : szB 4 f.D = 81 := by
  unfold Fm.D szB szBs szBs szBs szBs szB szBs szBs szBs szBs szB
  rfl
theorem rF {p : Int} (hp2 : p < 10) {f k : Fm} (hf : Ok p f) (hk : Ok p k) {w : Wd} : biF .repr 0 [.lst [f.D, k.D]] w = .ok (.str (pd (.lst [f.D, k.D])).shown, w) := by
  refine repr_of (k := 4) (n := 3) (Pl_lst.mpr (Pls_cons.mpr ⟨F_pl hp2 hf, Pls_cons.mpr ⟨F_pl hp2 hk, trivial⟩⟩)) (by decide) (by decide) (by decide) ?_
  have h1 := szF f
  have h2 := szF k
  generalize f.D = a at *
  generalize k.D = b at *
  unfold szB szBs szBs szBs
  omega
theorem rP {l : List V3} (hl : ∀ X ∈ l, Vb X) (h64 : l.length < 64) {w : Wd} : biF .repr 0 [.lst [.tup (l.map V3.d), .tup (l.map V3.d)]] w = .ok (.str (pd (.lst [.tup (l.map V3.d), .tup (l.map V3.d)])).shown, w) := by
  have pl : Pl 4 2 (.tup (l.map V3.d)) := Pl_tup.mpr (Pls_all fun d hd => by
    obtain ⟨X, hX, rfl⟩ := List.mem_map.mp hd
    exact V_pl (hl X hX))
  refine repr_of (k := 4) (n := 3) (Pl_lst.mpr (Pls_cons.mpr ⟨pl, Pls_cons.mpr ⟨pl, trivial⟩⟩)) (by decide) (by decide) (by decide) ?_
  have sz : szBs 4 (l.map V3.d) ≤ (l.map V3.d).length * (24 + 2) := szBs_le fun d hd => by
    obtain ⟨X, hX, rfl⟩ := List.mem_map.mp hd
    rw [szV]
    exact Nat.le_refl _
  rw [List.length_map] at sz
  have e : szB 4 (.tup (l.map V3.d)) ≤ 2000 := by
    unfold szB
    omega
  generalize Fz.D.tup (l.map V3.d) = d at *
  unfold szB szBs szBs szBs
  omega
theorem rL {o : Option V3} (ho : ∀ X, o = some X → Vb X) {w : Wd} : biF .repr 0 [.lst [oV o, oV o]] w = .ok (.str (pd (.lst [oV o, oV o])).shown, w) := by
  have pl : Pl 4 1 (oV o) ∧ szB 4 (oV o) ≤ 24 := by
    cases o with
    | none => exact ⟨trivial, by decide⟩
    | some X => exact ⟨V_pl (ho X rfl), Nat.le_of_eq (szV X)⟩
  refine repr_of (k := 4) (n := 2) (Pl_lst.mpr (Pls_cons.mpr ⟨pl.1, Pls_cons.mpr ⟨pl.1, trivial⟩⟩)) (by decide) (by decide) (by decide) ?_
  have := pl.2
  generalize oV o = d at *
  unfold szB szBs szBs szBs
  omega
theorem rB {b : Bool} {w : Wd} : biF .repr 0 [.lst [.bl b, .bl b]] w = .ok (.str (pd (.lst [.bl b, .bl b])).shown, w) := by
  refine repr_of (k := 4) (n := 2) (Pl_lst.mpr (Pls_cons.mpr ⟨trivial, Pls_cons.mpr ⟨trivial, trivial⟩⟩)) (by decide) (by decide) (by decide) ?_
  cases b <;> decide
theorem rS {s : Str} (h1 : PyData.strOk s = true) (h2 : (reprText s).length ≤ 100) {w : Wd} : biF .repr 0 [.lst [.str s, .str s]] w = .ok (.str (pd (.lst [.str s, .str s])).shown, w) := by
  refine repr_of (k := 4) (n := 2) (Pl_lst.mpr (Pls_cons.mpr ⟨h1, Pls_cons.mpr ⟨h1, trivial⟩⟩)) (by decide) (by decide) (by decide) ?_
  unfold szB szBs szBs szBs szB
  omega
theorem V_ne {l : List V3} (hl : ∀ X ∈ l, Vb X) {w : Wd} : cmF .ne (.lst (l.map V3.d)) (.lst []) w = some (!l.isEmpty) := by
  show (eqF _ _ w).map (fun b => !b) = _
  rw [eqF_plain (k := 4) (n := 2) (Pl_lst.mpr (Pls_all fun d hd => by
    obtain ⟨X, hX, rfl⟩ := List.mem_map.mp hd
    exact V_pl (hl X hX))) (Pl_lst.mpr (Pls_nil.mpr trivial)) (by decide)]
  cases l with
  | nil => simp [pd, pds, PyData.eqv, PyData.eqvAll]
  | cons X l => simp [pd, pds, PyData.eqv, PyData.eqvAll]
theorem boolD_map {α : Type} (q : α → Bool) (l : List α) : boolD (l.map fun x => Fz.D.bl (q x)) = some (l.map q) := by
  induction l with
  | nil => rfl
  | cons x l ih =>
    simp only [List.map_cons]
    rw [boolD, ih]
    rfl
theorem any_map {α : Type} (q : α → Bool) (l : List α) : (l.map q).any id = l.any q := by
  induction l with
  | nil => rfl
  | cons x l ih => simp only [List.map_cons, List.any_cons, ih]; rfl
def hd (sc : List Int) (t : Int) (p : Nat) (f k : Fm) (r : List (Option Fz.D)) : List (Option Fz.D) := some (.sc (sc.map Fz.D.int)) :: some (.g 1) :: some (.int t) :: some (.int p) :: some f.D :: some k.D :: r
section
variable {p : Nat} (hp : p ∈ ps)
include hp
/-- what is asked of two forms -/
theorem asked {sc : List Int} {t : Int} {f k : Fm} (hf : Ok p f) (hk : Ok p k) (g : List (List Fz.D)) : ∃ (x6 x7 x9 x11 x12 x14 : Option Fz.D),
    exB ⟨F 28, C⟩ (b28_0.drop 2) ⟨hd sc t p f k [none, none, none, none, none, none, none, none, none], [], g⟩ = .ok (.nx, ⟨hd sc t p f k [x6, x7, none, x9, none, x11, x12, none, x14], [], g⟩) := by
  have P := pf hp
  have pp := pb hp
  have pI := pbI hp
  obtain ⟨txt, htxt⟩ : ∃ s, s = (pd (.lst [f.D, k.D])).shown := ⟨_, rfl⟩
  have rf := fun {w : Wd} => rF pI.2 hf hk (w := w)
  rw [← htxt] at rf
  have cb : ∀ X ∈ cm p f k, Vb X := fun X hX => pts_b pp.2 X (List.mem_filter.mp hX).1
  have cl : (cm p f k).length ≤ (pts p).length := List.length_filter_le _ _
  have pl := pts_len hp
  have lp := lpts (n := 28) (by decide) hp g
  have la := fun {f : Fm} (hf : Ok p f) {X : V3} (hX : Vb X) => lat_ok hp g (n := 28) (by decide) hf hX
  have co1 := common_ok hp g (n := 28) (by decide) hf hk
  have co2 := line_ok hp g (n := 28) (by decide) hf hk
  have co3 := areT_ok hp g (n := 28) (by decide) hf hk
  have co4 := word_ok hp g (n := 28) (by decide) hf hk
  have m1 := fun (t : Int) => mixed_ok hp g (n := 28) (by decide) hf t
  have m2 := fun (t : Int) => mixed_ok hp g (n := 28) (by decide) hk t
  -- the common points
  have c1 : ∀ σ, σ = hd sc t p f k [some (.str txt), none, none, none, none, none, none, none, none] → coL (asg (.nm 8)) (evC ⟨F 28, C⟩ c28_0) (evE ⟨F 28, C⟩ e28_0) (fun _ => true) [8] σ ((pts p).map V3.d) ⟨σ, [], g⟩ [] = .ok ((cm p f k).map V3.d, ⟨σ, [], g⟩) := by
    intro σ hσ
    have := coL_fil (bind := asg (.nm 8)) (test := evC ⟨F 28, C⟩ c28_0) (elt := evE ⟨F 28, C⟩ e28_0) (ok := fun _ => true) (own := [8]) (σ := σ) (m := []) (g := g) V3.d V3.d (fun X => vl f X % p == 0 && vl k X % p == 0) (pts p) [] (mxp hp (Nat.le_refl _)) (fun X hX r acc ha => by
      have b := pts_b pp.2 X hX
      have a1 := la hf b
      have a2 := la hk b
      subst hσ
      simp only [hd]
      rw [coL_cons]
      by_cases z1 : vl f X % p = 0
      · by_cases z2 : vl k X % p = 0
        · simp [c28_0, e28_0, F_rs, V_rs, a1, a2, z1, z2, ha]
        · simp [c28_0, e28_0, F_rs, V_rs, a1, a2, z1, z2]
      · simp [c28_0, e28_0, F_rs, V_rs, a1, z1])
    rw [this]
    rfl
  -- full lines
  have c2 : ∀ σ, σ = hd sc t p f k [some (.str txt), some (.tup ((cm p f k).map V3.d)), none, none, none, none, none, none, none] → coL (asg (.nm 10)) (evC ⟨F 28, C⟩ c28_2) (evE ⟨F 28, C⟩ e28_2) (fun _ => true) [10] σ ((pts p).map V3.d) ⟨σ, [], g⟩ [] = .ok (((pts p).filter (full p f k)).map V3.d, ⟨σ, [], g⟩) := by
    intro σ hσ
    have := coL_fil (bind := asg (.nm 10)) (test := evC ⟨F 28, C⟩ c28_2) (elt := evE ⟨F 28, C⟩ e28_2) (ok := fun _ => true) (own := [10]) (σ := σ) (m := []) (g := g) V3.d V3.d (full p f k) (pts p) [] (mxp hp (Nat.le_refl _)) (fun l hl r acc ha => by
      have bl := pts_b pp.2 l hl
      have lo := on_ok hp g (n := 28) (by decide) bl
      have ol : (on p l).length ≤ (pts p).length := List.length_filter_le _ _
      have ci := coL_mp (bind := asg (.nm 8)) (test := evC ⟨F 28, C⟩ .no) (elt := evE ⟨F 28, C⟩ e28_1) (ok := fun _ => true) (own := [8]) (σ := hd sc t p f k [some (.str txt), some (.tup ((cm p f k).map V3.d)), none, none, some l.d, none, none, none, none]) (m := []) (g := g) V3.d (fun X => .bl ((cm p f k).contains X)) (on p l) [] (mxp hp ol) (fun X hX r acc ha => by
        have vi := fun {w : Wd} => V_in (pts_b pp.2 X (List.mem_filter.mp hX).1) cb (w := w)
        rw [coL_cons]
        simp only [hd]
        generalize (cm p f k).contains X = u at vi
        simp [e28_1, vi, ha])
      have bd : ∀ l : List V3, boolD (l.map fun X => Fz.D.bl ((cm p f k).contains X)) = some (l.map fun X => (cm p f k).contains X) ∧ (l.map fun X => (cm p f k).contains X).all id = l.all fun X => (cm p f k).contains X := by
        intro l
        induction l with
        | nil => exact ⟨rfl, rfl⟩
        | cons X l ih =>
          refine ⟨?_, ?_⟩
          · simp only [List.map_cons]
            rw [boolD, ih.1]
            rfl
          · simp only [List.map_cons, List.all_cons, ih.2]
            rfl
      obtain ⟨bd1, bd2⟩ := bd (on p l)
      have nl : ∀ w, newL 0 ((on p l).map fun X => Fz.D.bl ((cm p f k).contains X)) w = .ok (.lst ((on p l).map fun X => Fz.D.bl ((cm p f k).contains X)), w) := fun w => newL_0 (le_mx (by rw [List.length_map]; omega))
      have ff : full p f k l = (on p l).all fun X => (cm p f k).contains X := rfl
      subst hσ
      rw [coL_cons]
      simp only [hd] at ci ⊢
      have tst : evC ⟨F 28, C⟩ c28_2 ⟨[some (.sc (sc.map Fz.D.int)), some (.g 1), some (.int t), some (.int p), some f.D, some k.D, some (.str txt), some (.tup ((cm p f k).map V3.d)), none, none, some l.d, none, none, none, none], [], g⟩ = .ok (full p f k l, ⟨[some (.sc (sc.map Fz.D.int)), some (.g 1), some (.int t), some (.int p), some f.D, some k.D, some (.str txt), some (.tup ((cm p f k).map V3.d)), none, none, some l.d, none, none, none, none], [], g⟩) := by
        unfold c28_2
        simp only [evC_so, evE_bi, evEs_cons, evEs_nil, evE_co, evI_seq, evE_call, evE_v, List.getElem?_cons_succ, List.getElem?_cons_zero, R.bd_ok]
        simp [V_rs, lo, -List.map_map]
        rw [ci]
        simp only [List.nil_append, R.bd_ok, nl]
        rw [bq_all]
        simp only [isT_lst, seq_lst, Option.bind_some, bd1, R.of_some, R.bd_ok, bd2, ← ff]
        simp
      generalize full p f k l = u at tst
      cases u with
      | true => simp [tst, e28_2, ha]
      | false => simp [tst])
    rw [this]
    rfl
  -- times
  have r : rngF [.int (p : Int)] = some ((List.range p).map fun t : Nat => Fz.D.int t) := by
    rw [rng_1 (n := p) (by omega) (by omega), rngL_map]
    simp
  have c3 : ∀ {f k : Fm}, Ok p f → Ok p k → ∀ (i : Nat) (E1 : E) (σ : List (Option Fz.D)), (∀ t : Nat, evE ⟨F 28, C⟩ E1 ⟨σ.set 13 (some (.int t)), [], g⟩ = .ok (.bl (decide (tm p f t = k)), ⟨σ.set 13 (some (.int t)), [], g⟩)) → σ.set 13 none = σ → coL (asg (.nm 13)) (evC ⟨F 28, C⟩ .no) (evE ⟨F 28, C⟩ E1) (fun _ => true) [13] σ ((List.range p).map fun t : Nat => Fz.D.int t) ⟨σ, [], g⟩ [] = .ok ((List.range p).map fun t : Nat => Fz.D.bl (decide (tm p f t = k)), ⟨σ, [], g⟩) := by
    intro f k hf hk i E1 σ hE hσ
    have := coL_mp (bind := asg (.nm 13)) (test := evC ⟨F 28, C⟩ .no) (elt := evE ⟨F 28, C⟩ E1) (ok := fun _ => true) (own := [13]) (σ := σ) (m := []) (g := g) (fun t : Nat => Fz.D.int t) (fun t : Nat => Fz.D.bl (decide (tm p f t = k))) (List.range p) [] (le_mx (by simp; omega)) (fun t ht r acc ha => by
      rw [coL_cons]
      simp [hσ, hE, ha])
    rw [this]
    rfl
  have nb : ∀ (q : Nat → Bool) (w : Wd), newL 0 ((List.range p).map fun t : Nat => Fz.D.bl (q t)) w = .ok (.lst ((List.range p).map fun t : Nat => Fz.D.bl (q t)), w) := fun q w => newL_0 (le_mx (by rw [List.length_map, List.length_range]; omega))
  have eqs1 := fun (t : Int) {w : Wd} => F_eq pI.2 (tm_ok (show (0 : Int) < p by omega) f t) hk (w := w)
  have eqs2 := fun (t : Int) {w : Wd} => F_eq pI.2 (tm_ok (show (0 : Int) < p by omega) k t) hf (w := w)
  obtain ⟨T1, hT1⟩ : ∃ b, b = (List.range p).any (fun t : Nat => decide (tm p f t = k)) := ⟨_, rfl⟩
  obtain ⟨T2, hT2⟩ : ∃ b, b = (List.range p).any (fun t : Nat => decide (tm p k t = f)) := ⟨_, rfl⟩
  have hT : isT p f k = (T1 || T2) := by
    rw [hT1, hT2]
    unfold isT
    induction List.range p with
    | nil => rfl
    | cons x l ih =>
      simp only [List.any_cons, ih]
      cases decide (tm p f (x : Int) = k) <;> cases decide (tm p k (x : Int) = f) <;> cases l.any (fun t : Nat => decide (tm p f t = k)) <;> cases l.any (fun t : Nat => decide (tm p k t = f)) <;> rfl
  -- the line
  have fe := fst_eq P f k
  have fb : ∀ X, fst p f k = some X → Vb X := fun X h => pts_b pp.2 X (List.mem_of_find?_eq_some h)
  obtain ⟨ls, hls⟩ : ∃ ls : List V3, ls = if (cm p f k).length > p then (pts p).filter (full p f k) else [] := ⟨_, rfl⟩
  have lsb : ∀ X ∈ ls, Vb X := fun X hX => by
    rw [hls] at hX
    split at hX
    · exact pts_b pp.2 X (List.mem_filter.mp hX).1
    · cases hX
  have lsl : ls.length ≤ (pts p).length := by
    rw [hls]
    split
    · exact List.length_filter_le _ _
    · exact Nat.zero_le _
  have fo : fst p f k = ls.head? := by
    rw [fe, hls]
    split <;> rfl
  have few' : isT p f k = false → fst p f k = none → (cm p f k).length ≤ 4 := few_points hp hf hk
  have wok : PyData.strOk (wd p f k) = true ∧ (reprText (wd p f k)).length ≤ 100 := by
    unfold wd
    split
    · exact ⟨by decide +kernel, by decide +kernel⟩
    · split
      · exact ⟨by decide +kernel, by decide +kernel⟩
      · exact ⟨by decide +kernel, by decide +kernel⟩
  refine ⟨some (.str txt), some (.tup ((cm p f k).map V3.d)), some (.lst (ls.map V3.d)), some (oV (fst p f k)), some (.bl (isT p f k)), some (.str (wd p f k)), ?_⟩
  unfold b28_0
  rw [show List.drop 2 _ = _ from rfl]
  refine (exB_step (w' := ⟨hd sc t p f k [some (.str txt), none, none, none, none, none, none, none, none], [], g⟩) (by simp only [hd]; simp [l2, rf])).trans ?_
  refine (exB_step (w' := ⟨hd sc t p f k [some (.str txt), some (.tup ((cm p f k).map V3.d)), none, none, none, none, none, none, none], [], g⟩) ?_).trans ?_
  · have c := c1 _ rfl
    simp only [hd] at c ⊢
    simp [lp, c, nlV hp (md := 0) cl, ntV hp cl]
  refine (exB_step (w' := ⟨hd sc t p f k [some (.str txt), some (.tup ((cm p f k).map V3.d)), none, none, none, none, none, none, none], [], g⟩) ?_).trans ?_
  · have rp := fun {w : Wd} => rP cb (by omega) (w := w)
    simp only [hd]
    simp [F_rs, co1, l2, rp, arr]
  refine (exB_step (w' := ⟨hd sc t p f k [some (.str txt), some (.tup ((cm p f k).map V3.d)), none, some (.lst (ls.map V3.d)), none, none, none, none, none], [], g⟩) ?_).trans ?_
  · have c := c2 _ rfl
    have z0 : ∀ w : Wd, newL 0 [] w = .ok (.lst [], w) := fun w => newL_0 (by decide)
    by_cases h : p < (cm p f k).length
    · rw [if_pos h] at hls
      have lf : ((pts p).filter (full p f k)).length ≤ (pts p).length := List.length_filter_le _ _
      simp only [hd] at c ⊢
      simp [lp, h]
      rw [c]
      simp [nlV hp (md := 0) lf, hls]
    · rw [if_neg h] at hls
      have h' : (cm p f k).length ≤ p := by omega
      simp only [hd]
      simp [h, z0, hls]
  refine (exB_step (w' := ⟨hd sc t p f k [some (.str txt), some (.tup ((cm p f k).map V3.d)), none, some (.lst (ls.map V3.d)), none, some (oV (fst p f k)), none, none, none], [], g⟩) ?_).trans ?_
  · have vn := fun {w : Wd} => V_ne lsb (w := w)
    have z0 : ∀ w : Wd, newL 0 [] w = .ok (.lst [], w) := fun w => newL_0 (by decide)
    simp only [hd]
    rw [fo]
    cases ls with
    | nil =>
      simp only [List.map_nil] at vn
      simp [z0, vn, oV]
    | cons X l =>
      simp only [List.map_cons] at vn
      simp [z0, vn, oV]
  refine (exB_step (w' := ⟨hd sc t p f k [some (.str txt), some (.tup ((cm p f k).map V3.d)), none, some (.lst (ls.map V3.d)), none, some (oV (fst p f k)), none, none, none], [], g⟩) ?_).trans ?_
  · have rp := fun {w : Wd} => rL fb (w := w)
    simp only [hd]
    simp [F_rs, co2, l2, rp, arr]
  refine (exB_step (w' := ⟨hd sc t p f k [some (.str txt), some (.tup ((cm p f k).map V3.d)), none, some (.lst (ls.map V3.d)), none, some (oV (fst p f k)), some (.bl T1), none, none], [], g⟩) ?_).trans ?_
  · have c := c3 hf hk 0 e28_3 (hd sc t p f k [some (.str txt), some (.tup ((cm p f k).map V3.d)), none, some (.lst (ls.map V3.d)), none, some (oV (fst p f k)), none, none, none]) (fun u => by
      simp only [hd]
      simp [e28_3, F_rs, m1, eqs1]) rfl
    simp only [hd] at c ⊢
    simp [r, -List.map_map]
    rw [c]
    simp only [R.bd_ok, nb]
    rw [bq_any]
    simp only [isT_lst, seq_lst, Option.bind_some, boolD_map, R.of_some, R.bd_ok, any_map, ← hT1]
    simp
  refine (exB_step (w' := ⟨hd sc t p f k [some (.str txt), some (.tup ((cm p f k).map V3.d)), none, some (.lst (ls.map V3.d)), none, some (oV (fst p f k)), some (.bl (isT p f k)), none, none], [], g⟩) ?_).trans ?_
  · cases T1 with
    | true =>
      simp only [hd]
      simp [hT]
    | false =>
      have c := c3 hk hf 0 e28_4 (hd sc t p f k [some (.str txt), some (.tup ((cm p f k).map V3.d)), none, some (.lst (ls.map V3.d)), none, some (oV (fst p f k)), some (.bl false), none, none]) (fun u => by
        simp only [hd]
        simp [e28_4, F_rs, m2, eqs2]) rfl
      simp only [hd] at c ⊢
      simp [r, -List.map_map]
      rw [c]
      simp only [R.bd_ok, nb]
      rw [bq_any]
      simp only [isT_lst, seq_lst, Option.bind_some, boolD_map, R.of_some, R.bd_ok, any_map, ← hT2]
      simp [hT]
  refine (exB_step (w' := ⟨hd sc t p f k [some (.str txt), some (.tup ((cm p f k).map V3.d)), none, some (.lst (ls.map V3.d)), none, some (oV (fst p f k)), some (.bl (isT p f k)), none, none], [], g⟩) ?_).trans ?_
  · have rp := fun {w : Wd} => rB (b := isT p f k) (w := w)
    simp only [hd]
    simp [F_rs, co3, l2, rp, arr]
  refine (exB_step (w' := ⟨hd sc t p f k [some (.str txt), some (.tup ((cm p f k).map V3.d)), none, some (.lst (ls.map V3.d)), none, some (oV (fst p f k)), some (.bl (isT p f k)), none, some (.str (wd p f k))], [], g⟩) ?_).trans ?_
  · have i1 : ∀ {w : Wd}, cmF .isnot .non .non w = some false := rfl
    have i2 : ∀ {ds : List Fz.D} {w : Wd}, cmF .isnot (.tup ds) .non w = some true := rfl
    unfold wd
    simp only [hd]
    cases isT p f k with
    | true => simp
    | false => cases fst p f k with
      | none => simp [oV, i1]
      | some X => simp [oV, V3.d, i2]
  refine (exB_step (w' := ⟨hd sc t p f k [some (.str txt), some (.tup ((cm p f k).map V3.d)), none, some (.lst (ls.map V3.d)), none, some (oV (fst p f k)), some (.bl (isT p f k)), none, some (.str (wd p f k))], [], g⟩) ?_).trans ?_
  · have rp := fun {w : Wd} => rS wok.1 wok.2 (w := w)
    simp only [hd]
    simp [F_rs, co4, l2, rp, arr]
  refine (exB_step (w' := ⟨hd sc t p f k [some (.str txt), some (.tup ((cm p f k).map V3.d)), none, some (.lst (ls.map V3.d)), none, some (oV (fst p f k)), some (.bl (isT p f k)), none, some (.str (wd p f k))], [], g⟩) ?_).trans rfl
  have w1 : ¬ (("times" : Str) = "points") := by decide
  have w2 : ¬ (("line" : Str) = "points") := by decide
  unfold wd
  simp only [hd]
  cases h1 : isT p f k with
  | true => simp [w1, l2, rf]
  | false => cases h2 : fst p f k with
    | none =>
      have h4 := few' h1 h2
      have h4' : ¬ 4 < ((cm p f k).length : Int) := by omega
      have h4'' : ¬ 4 < (cm p f k).length := by omega
      simp [h4', h4'', l2, rf]
    | some X => simp [w2, l2, rf]
end
end K64

namespace K64
open PySem Fz
theorem turn {sc : List Int} {i : Nat} {g : List (List Fz.D)} (hg : Bag g) : ∃ (σ : List (Option Fz.D)) (g' : List (List Fz.D)), Bag g' ∧ (σ.length = 12 ∧ σ[5]? = some none ∧ σ[7]? = some none ∧ σ[10]? = some none) ∧
    exB ⟨F 28, C⟩ b28_0 ⟨[some (.sc (sc.map Fz.D.int)), some (.g 1), some (.int (0 + i)), none, none, none, none, none, none, none, none, none, none, none, none], [], g⟩ = .ok (.nx, ⟨some (.sc (sc.map Fz.D.int)) :: some (.g 1) :: some (.int (0 + i)) :: σ, [], g'⟩) := by
  obtain ⟨p, g1, hp, p1, e1⟩ : ∃ (p : Nat) (g1 : List (List Fz.D)), p ∈ ps ∧ Bag g1 ∧ exS ⟨F 28, C⟩ (.set (.nm 3) (.call 17 none (.cons (.v 1) (.cons (.ite (.cm .eq (.v 2) (.k (.int 0))) (.lst 0 (.cons (.k (.int 2)) (.cons (.k (.int 3)) (.cons (.k (.int 5)) (.cons (.k (.int 7)) .nil))))) (.lst 0 (.cons (.k (.int 2)) (.cons (.k (.int 3)) (.cons (.k (.int 5)) .nil))))) .nil)) .nil)) ⟨[some (.sc (sc.map Fz.D.int)), some (.g 1), some (.int (0 + i)), none, none, none, none, none, none, none, none, none, none, none, none], [], g⟩ =
      .ok (.nx, ⟨[some (.sc (sc.map Fz.D.int)), some (.g 1), some (.int (0 + i)), some (.int p), none, none, none, none, none, none, none, none, none, none, none], [], g1⟩) := by
    by_cases h : (0 + (i : Int)) = 0
    · obtain ⟨x, g1, e, p1, hx⟩ := pick17 (n := 28) (by decide) hg (([2, 3, 5, 7] : List Int).map Fz.D.int) (by decide) (by decide) (okRets_int _)
      obtain ⟨y, hy, rfl⟩ := List.mem_map.mp hx
      have hy : y = 2 ∨ y = 3 ∨ y = 5 ∨ y = 7 := by simpa using hy
      obtain ⟨p, rfl⟩ : ∃ p : Nat, y = (p : Int) := ⟨y.toNat, by omega⟩
      have l4 : ∀ w : Wd, newL 0 [Fz.D.int 2, .int 3, .int 5, .int 7] w = .ok (.lst [.int 2, .int 3, .int 5, .int 7], w) := fun w => newL_0 (show 4 ≤ mxLen by decide)
      simp only [List.map_cons, List.map_nil] at e
      refine ⟨p, g1, by have : p = 2 ∨ p = 3 ∨ p = 5 ∨ p = 7 := by omega
                        simpa [ps] using this, p1, ?_⟩
      simp only [exS_set, evE_call, evEs_cons, evEs_nil, evE_ite, evE_cm]
      simp [h, l4, e]
    · obtain ⟨x, g1, e, p1, hx⟩ := pick17 (n := 28) (by decide) hg (([2, 3, 5] : List Int).map Fz.D.int) (by decide) (by decide) (okRets_int _)
      obtain ⟨y, hy, rfl⟩ := List.mem_map.mp hx
      have hy : y = 2 ∨ y = 3 ∨ y = 5 := by simpa using hy
      obtain ⟨p, rfl⟩ : ∃ p : Nat, y = (p : Int) := ⟨y.toNat, by omega⟩
      have h' : ¬ i = 0 := by omega
      simp only [List.map_cons, List.map_nil] at e
      refine ⟨p, g1, by have : p = 2 ∨ p = 3 ∨ p = 5 ∨ p = 7 := by omega
                        simpa [ps] using this, p1, ?_⟩
      simp only [exS_set, evE_call, evEs_cons, evEs_nil, evE_ite, evE_cm]
      simp [h', l3, e]
  obtain ⟨f, k, g2, hf, hk, p2, e2⟩ := pair_ok hp (n := 28) (by decide) p1
  obtain ⟨x6, x7, x9, x11, x12, x14, e3⟩ := asked hp (sc := sc) (t := 0 + i) hf hk g2
  refine ⟨[some (.int p), some f.D, some k.D, x6, x7, none, x9, none, x11, x12, none, x14], g2, p2, ⟨rfl, rfl, rfl, rfl⟩, ?_⟩
  unfold b28_0
  refine (exB_step e1).trans ?_
  refine (exB_step (w' := ⟨hd sc (0 + i) p f k [none, none, none, none, none, none, none, none, none], [], g2⟩) (by simp only [hd]; simp [e2])).trans ?_
  exact e3
theorem main : ∀ ns : List Int, ns.length ≤ 63 → ∃ g', F 29 28 [.sc (ns.map Fz.D.int)] [] = .ok (.bl true, g') := by
  intro ns hn
  obtain ⟨g0, e0, p0⟩ := bag_ok (P := ⟨F 15, C⟩) hn
  have e0 : F 28 15 [.sc (ns.map Fz.D.int)] [] = .ok (.g 1, g0) := by rw [F15 (by decide)]; exact e0
  obtain ⟨w, ⟨g, rfl, p⟩, e⟩ := forL_rngI (bind := asg (.nm 2)) (body := exB ⟨F 28, C⟩ b28_0) (post := postF [2, 3, 4, 5, 6, 7, 9, 11, 12, 14] false 0) (ok := fun _ => true)
    (fun _ w => ∃ g, w = ⟨[some (.sc (ns.map Fz.D.int)), some (.g 1), none, none, none, none, none, none, none, none, none, none, none, none, none], [], g⟩ ∧ Bag g) 0 4 ⟨[some (.sc (ns.map Fz.D.int)), some (.g 1), none, none, none, none, none, none, none, none, none, none, none, none, none], [], g0⟩ (fun i w r hi h => by
      obtain ⟨g, rfl, p⟩ := h
      obtain ⟨σ, g', p', hs, e⟩ := turn (sc := ns) (i := i) p
      match σ, hs with
      | [x1, x2, x3, x4, x5, x6, x7, x8, x9, x10, x11, x12], hs =>
        obtain rfl : x6 = none := Option.some.inj hs.2.1
        obtain rfl : x8 = none := Option.some.inj hs.2.2.1
        obtain rfl : x11 = none := Option.some.inj hs.2.2.2
        refine ⟨_, ⟨g', rfl, p'⟩, ?_⟩
        rw [forL_cons]
        simp only [asg_nm, R.of_some, R.bd_ok, List.set_cons_succ, List.set_cons_zero]
        rw [e]
        simp) ⟨g0, rfl, p0⟩
  refine ⟨g, ?_⟩
  rw [F28 (by decide)]
  have r : rngF [.int 4] = some (rngL 0 4) := rng_1 (by decide) (by decide)
  simp [exD, b28, e0, r, e]
end K64

/-! the head of k64 (printed by wip/gen.py) -/
namespace K64
open PySem PySem.Spec PyProof.Rows L2 Fz
theorem ck : ckAll (tbOf ds fre cns bnd) 0 ds sts = true := by decide +kernel
theorem bn0 (kV doc pm : Value) (an : Option Addr) (cdv ct : Value) : ∀ (us ws zs : List Value), us.length = 1 → ws.length = 0 → arrD (none : Option (List Nat)) (us ++ ws) = some zs → bindArgs (PySem.W.fnOf (stName (topS 5)) (stName (topS 5)) (defArgs (topS 5)) (defBody (topS 5)) (defScope (topS 5)) .none kV doc pm an cdv ct) ⟨us, ([] : List Str).zip ws⟩ = pure (d0.ps.zip zs)
  | [_], [], _, _, _, e => by cases e; rfl
theorem bn1 (kV doc pm : Value) (an : Option Addr) (cdv ct : Value) : ∀ (us ws zs : List Value), us.length = 2 → ws.length = 0 → arrD (none : Option (List Nat)) (us ++ ws) = some zs → bindArgs (PySem.W.fnOf (stName (topS 6)) (stName (topS 6)) (defArgs (topS 6)) (defBody (topS 6)) (defScope (topS 6)) .none kV doc pm an cdv ct) ⟨us, ([] : List Str).zip ws⟩ = pure (d1.ps.zip zs)
  | [_, _], [], _, _, _, e => by cases e; rfl
theorem bn2 (kV doc pm : Value) (an : Option Addr) (cdv ct : Value) : ∀ (us ws zs : List Value), us.length = 0 → ws.length = 3 → arrD (some [2, 1, 0]) (us ++ ws) = some zs → bindArgs (PySem.W.fnOf (stName (topS 19)) (stName (topS 19)) (defArgs (topS 19)) (defBody (topS 19)) (defScope (topS 19)) .none kV doc pm an cdv ct) ⟨us, (["other", "one", "p"] : List Str).zip ws⟩ = pure (d10.ps.zip zs)
  | [], [_, _, _], _, _, _, e => by cases e; rfl
theorem bn3 (kV doc pm : Value) (an : Option Addr) (cdv ct : Value) : ∀ (us ws zs : List Value), us.length = 3 → ws.length = 0 → arrD (none : Option (List Nat)) (us ++ ws) = some zs → bindArgs (PySem.W.fnOf (stName (topS 19)) (stName (topS 19)) (defArgs (topS 19)) (defBody (topS 19)) (defScope (topS 19)) .none kV doc pm an cdv ct) ⟨us, ([] : List Str).zip ws⟩ = pure (d10.ps.zip zs)
  | [_, _, _], [], _, _, _, e => by cases e; rfl
theorem bn4 (kV doc pm : Value) (an : Option Addr) (cdv ct : Value) : ∀ (us ws zs : List Value), us.length = 0 → ws.length = 3 → arrD (some [2, 1, 0]) (us ++ ws) = some zs → bindArgs (PySem.W.fnOf (stName (topS 20)) (stName (topS 20)) (defArgs (topS 20)) (defBody (topS 20)) (defScope (topS 20)) .none kV doc pm an cdv ct) ⟨us, (["other", "one", "p"] : List Str).zip ws⟩ = pure (d11.ps.zip zs)
  | [], [_, _, _], _, _, _, e => by cases e; rfl
theorem bn5 (kV doc pm : Value) (an : Option Addr) (cdv ct : Value) : ∀ (us ws zs : List Value), us.length = 3 → ws.length = 0 → arrD (none : Option (List Nat)) (us ++ ws) = some zs → bindArgs (PySem.W.fnOf (stName (topS 20)) (stName (topS 20)) (defArgs (topS 20)) (defBody (topS 20)) (defScope (topS 20)) .none kV doc pm an cdv ct) ⟨us, ([] : List Str).zip ws⟩ = pure (d11.ps.zip zs)
  | [_, _, _], [], _, _, _, e => by cases e; rfl
theorem bn6 (kV doc pm : Value) (an : Option Addr) (cdv ct : Value) : ∀ (us ws zs : List Value), us.length = 3 → ws.length = 0 → arrD (none : Option (List Nat)) (us ++ ws) = some zs → bindArgs (PySem.W.fnOf (stName (topS 21)) (stName (topS 21)) (defArgs (topS 21)) (defBody (topS 21)) (defScope (topS 21)) .none kV doc pm an cdv ct) ⟨us, ([] : List Str).zip ws⟩ = pure (d12.ps.zip zs)
  | [_, _, _], [], _, _, _, e => by cases e; rfl
theorem bn7 (kV doc pm : Value) (an : Option Addr) (cdv ct : Value) : ∀ (us ws zs : List Value), us.length = 0 → ws.length = 3 → arrD (some [2, 1, 0]) (us ++ ws) = some zs → bindArgs (PySem.W.fnOf (stName (topS 22)) (stName (topS 22)) (defArgs (topS 22)) (defBody (topS 22)) (defScope (topS 22)) .none kV doc pm an cdv ct) ⟨us, (["other", "one", "p"] : List Str).zip ws⟩ = pure (d13.ps.zip zs)
  | [], [_, _, _], _, _, _, e => by cases e; rfl
theorem bn8 (kV doc pm : Value) (an : Option Addr) (cdv ct : Value) : ∀ (us ws zs : List Value), us.length = 3 → ws.length = 0 → arrD (none : Option (List Nat)) (us ++ ws) = some zs → bindArgs (PySem.W.fnOf (stName (topS 22)) (stName (topS 22)) (defArgs (topS 22)) (defBody (topS 22)) (defScope (topS 22)) .none kV doc pm an cdv ct) ⟨us, ([] : List Str).zip ws⟩ = pure (d13.ps.zip zs)
  | [_, _, _], [], _, _, _, e => by cases e; rfl
theorem bn9 (kV doc pm : Value) (an : Option Addr) (cdv ct : Value) : ∀ (us ws zs : List Value), us.length = 0 → ws.length = 3 → arrD (some [2, 1, 0]) (us ++ ws) = some zs → bindArgs (PySem.W.fnOf (stName (topS 23)) (stName (topS 23)) (defArgs (topS 23)) (defBody (topS 23)) (defScope (topS 23)) .none kV doc pm an cdv ct) ⟨us, (["other", "one", "p"] : List Str).zip ws⟩ = pure (d14.ps.zip zs)
  | [], [_, _, _], _, _, _, e => by cases e; rfl
theorem bn10 (kV doc pm : Value) (an : Option Addr) (cdv ct : Value) : ∀ (us ws zs : List Value), us.length = 3 → ws.length = 0 → arrD (none : Option (List Nat)) (us ++ ws) = some zs → bindArgs (PySem.W.fnOf (stName (topS 23)) (stName (topS 23)) (defArgs (topS 23)) (defBody (topS 23)) (defScope (topS 23)) .none kV doc pm an cdv ct) ⟨us, ([] : List Str).zip ws⟩ = pure (d14.ps.zip zs)
  | [_, _, _], [], _, _, _, e => by cases e; rfl
theorem bn11 (kV doc pm : Value) (an : Option Addr) (cdv ct : Value) : ∀ (us ws zs : List Value), us.length = 1 → ws.length = 0 → arrD (none : Option (List Nat)) (us ++ ws) = some zs → bindArgs (PySem.W.fnOf (stName (topS 25)) (stName (topS 25)) (defArgs (topS 25)) (defBody (topS 25)) (defScope (topS 25)) .none kV doc pm an cdv ct) ⟨us, ([] : List Str).zip ws⟩ = pure (d15.ps.zip zs)
  | [_], [], _, _, _, e => by cases e; rfl
theorem bn12 (kV doc pm : Value) (an : Option Addr) (cdv ct : Value) : ∀ (us ws zs : List Value), us.length = 2 → ws.length = 0 → arrD (none : Option (List Nat)) (us ++ ws) = some zs → bindArgs (PySem.W.fnOf (stName (topS 26)) (stName (topS 26)) (defArgs (topS 26)) (defBody (topS 26)) (defScope (topS 26)) .none kV doc pm an cdv ct) ⟨us, ([] : List Str).zip ws⟩ = pure (d16.ps.zip zs)
  | [_, _], [], _, _, _, e => by cases e; rfl
theorem bn13 (kV doc pm : Value) (an : Option Addr) (cdv ct : Value) : ∀ (us ws zs : List Value), us.length = 2 → ws.length = 0 → arrD (none : Option (List Nat)) (us ++ ws) = some zs → bindArgs (PySem.W.fnOf (stName (topS 27)) (stName (topS 27)) (defArgs (topS 27)) (defBody (topS 27)) (defScope (topS 27)) .none kV doc pm an cdv ct) ⟨us, ([] : List Str).zip ws⟩ = pure (d17.ps.zip zs)
  | [_, _], [], _, _, _, e => by cases e; rfl
theorem bn14 (kV doc pm : Value) (an : Option Addr) (cdv ct : Value) : ∀ (us ws zs : List Value), us.length = 1 → ws.length = 0 → arrD (none : Option (List Nat)) (us ++ ws) = some zs → bindArgs (PySem.W.fnOf (stName (topS 28)) (stName (topS 28)) (defArgs (topS 28)) (defBody (topS 28)) (defScope (topS 28)) .none kV doc pm an cdv ct) ⟨us, ([] : List Str).zip ws⟩ = pure (d18.ps.zip zs)
  | [_], [], _, _, _, e => by cases e; rfl
theorem bn15 (kV doc pm : Value) (an : Option Addr) (cdv ct : Value) : ∀ (us ws zs : List Value), us.length = 3 → ws.length = 0 → arrD (none : Option (List Nat)) (us ++ ws) = some zs → bindArgs (PySem.W.fnOf (stName (topS 29)) (stName (topS 29)) (defArgs (topS 29)) (defBody (topS 29)) (defScope (topS 29)) .none kV doc pm an cdv ct) ⟨us, ([] : List Str).zip ws⟩ = pure (d19.ps.zip zs)
  | [_, _, _], [], _, _, _, e => by cases e; rfl
theorem bn16 (kV doc pm : Value) (an : Option Addr) (cdv ct : Value) : ∀ (us ws zs : List Value), us.length = 2 → ws.length = 0 → arrD (none : Option (List Nat)) (us ++ ws) = some zs → bindArgs (PySem.W.fnOf (stName (topS 7)) (stName (topS 7)) (defArgs (topS 7)) (defBody (topS 7)) (defScope (topS 7)) .none kV doc pm an cdv ct) ⟨us, ([] : List Str).zip ws⟩ = pure (d2.ps.zip zs)
  | [_, _], [], _, _, _, e => by cases e; rfl
theorem bn17 (kV doc pm : Value) (an : Option Addr) (cdv ct : Value) : ∀ (us ws zs : List Value), us.length = 1 → ws.length = 0 → arrD (none : Option (List Nat)) (us ++ ws) = some zs → bindArgs (PySem.W.fnOf (stName (topS 30)) (stName (topS 30)) (defArgs (topS 30)) (defBody (topS 30)) (defScope (topS 30)) .none kV doc pm an cdv ct) ⟨us, ([] : List Str).zip ws⟩ = pure (d20.ps.zip zs)
  | [_], [], _, _, _, e => by cases e; rfl
theorem bn18 (kV doc pm : Value) (an : Option Addr) (cdv ct : Value) : ∀ (us ws zs : List Value), us.length = 3 → ws.length = 0 → arrD (none : Option (List Nat)) (us ++ ws) = some zs → bindArgs (PySem.W.fnOf (stName (topS 31)) (stName (topS 31)) (defArgs (topS 31)) (defBody (topS 31)) (defScope (topS 31)) .none kV doc pm an cdv ct) ⟨us, ([] : List Str).zip ws⟩ = pure (d21.ps.zip zs)
  | [_, _, _], [], _, _, _, e => by cases e; rfl
theorem bn19 (kV doc pm : Value) (an : Option Addr) (cdv ct : Value) : ∀ (us ws zs : List Value), us.length = 2 → ws.length = 0 → arrD (none : Option (List Nat)) (us ++ ws) = some zs → bindArgs (PySem.W.fnOf (stName (topS 32)) (stName (topS 32)) (defArgs (topS 32)) (defBody (topS 32)) (defScope (topS 32)) .none kV doc pm an cdv ct) ⟨us, ([] : List Str).zip ws⟩ = pure (d22.ps.zip zs)
  | [_, _], [], _, _, _, e => by cases e; rfl
theorem bn20 (kV doc pm : Value) (an : Option Addr) (cdv ct : Value) : ∀ (us ws zs : List Value), us.length = 5 → ws.length = 0 → arrD (none : Option (List Nat)) (us ++ ws) = some zs → bindArgs (PySem.W.fnOf (stName (topS 33)) (stName (topS 33)) (defArgs (topS 33)) (defBody (topS 33)) (defScope (topS 33)) .none kV doc pm an cdv ct) ⟨us, ([] : List Str).zip ws⟩ = pure (d23.ps.zip zs)
  | [_, _, _, _, _], [], _, _, _, e => by cases e; rfl
theorem bn21 (kV doc pm : Value) (an : Option Addr) (cdv ct : Value) : ∀ (us ws zs : List Value), us.length = 2 → ws.length = 0 → arrD (none : Option (List Nat)) (us ++ ws) = some zs → bindArgs (PySem.W.fnOf (stName (topS 35)) (stName (topS 35)) (defArgs (topS 35)) (defBody (topS 35)) (defScope (topS 35)) .none kV doc pm an cdv ct) ⟨us, ([] : List Str).zip ws⟩ = pure (d25.ps.zip zs)
  | [_, _], [], _, _, _, e => by cases e; rfl
theorem bn22 (kV doc pm : Value) (an : Option Addr) (cdv ct : Value) : ∀ (us ws zs : List Value), us.length = 2 → ws.length = 0 → arrD (none : Option (List Nat)) (us ++ ws) = some zs → bindArgs (PySem.W.fnOf (stName (topS 37)) (stName (topS 37)) (defArgs (topS 37)) (defBody (topS 37)) (defScope (topS 37)) .none kV doc pm an cdv ct) ⟨us, ([] : List Str).zip ws⟩ = pure (d27.ps.zip zs)
  | [_, _], [], _, _, _, e => by cases e; rfl
theorem bn23 (kV doc pm : Value) (an : Option Addr) (cdv ct : Value) : ∀ (us ws zs : List Value), us.length = 2 → ws.length = 0 → arrD (none : Option (List Nat)) (us ++ ws) = some zs → bindArgs (PySem.W.fnOf (stName (topS 8)) (stName (topS 8)) (defArgs (topS 8)) (defBody (topS 8)) (defScope (topS 8)) .none kV doc pm an cdv ct) ⟨us, ([] : List Str).zip ws⟩ = pure (d3.ps.zip zs)
  | [_, _], [], _, _, _, e => by cases e; rfl
theorem bn24 (kV doc pm : Value) (an : Option Addr) (cdv ct : Value) : ∀ (us ws zs : List Value), us.length = 1 → ws.length = 0 → arrD (none : Option (List Nat)) (us ++ ws) = some zs → bindArgs (PySem.W.fnOf (stName (topS 9)) (stName (topS 9)) (defArgs (topS 9)) (defBody (topS 9)) (defScope (topS 9)) .none kV doc pm an cdv ct) ⟨us, ([] : List Str).zip ws⟩ = pure (d4.ps.zip zs)
  | [_], [], _, _, _, e => by cases e; rfl
theorem bn25 (kV doc pm : Value) (an : Option Addr) (cdv ct : Value) : ∀ (us ws zs : List Value), us.length = 2 → ws.length = 0 → arrD (none : Option (List Nat)) (us ++ ws) = some zs → bindArgs (PySem.W.fnOf (stName (topS 10)) (stName (topS 10)) (defArgs (topS 10)) (defBody (topS 10)) (defScope (topS 10)) .none kV doc pm an cdv ct) ⟨us, ([] : List Str).zip ws⟩ = pure (d5.ps.zip zs)
  | [_, _], [], _, _, _, e => by cases e; rfl
theorem bn26 (kV doc pm : Value) (an : Option Addr) (cdv ct : Value) : ∀ (us ws zs : List Value), us.length = 2 → ws.length = 0 → arrD (none : Option (List Nat)) (us ++ ws) = some zs → bindArgs (PySem.W.fnOf (stName (topS 11)) (stName (topS 11)) (defArgs (topS 11)) (defBody (topS 11)) (defScope (topS 11)) .none kV doc pm an cdv ct) ⟨us, ([] : List Str).zip ws⟩ = pure (d6.ps.zip zs)
  | [_, _], [], _, _, _, e => by cases e; rfl
theorem bn27 (kV doc pm : Value) (an : Option Addr) (cdv ct : Value) : ∀ (us ws zs : List Value), us.length = 3 → ws.length = 0 → arrD (none : Option (List Nat)) (us ++ ws) = some zs → bindArgs (PySem.W.fnOf (stName (topS 13)) (stName (topS 13)) (defArgs (topS 13)) (defBody (topS 13)) (defScope (topS 13)) .none kV doc pm an cdv ct) ⟨us, ([] : List Str).zip ws⟩ = pure (d7.ps.zip zs)
  | [_, _, _], [], _, _, _, e => by cases e; rfl
theorem bn28 (kV doc pm : Value) (an : Option Addr) (cdv ct : Value) : ∀ (us ws zs : List Value), us.length = 3 → ws.length = 0 → arrD (none : Option (List Nat)) (us ++ ws) = some zs → bindArgs (PySem.W.fnOf (stName (topS 15)) (stName (topS 15)) (defArgs (topS 15)) (defBody (topS 15)) (defScope (topS 15)) .none kV doc pm an cdv ct) ⟨us, ([] : List Str).zip ws⟩ = pure (d8.ps.zip zs)
  | [_, _, _], [], _, _, _, e => by cases e; rfl
theorem bn29 (kV doc pm : Value) (an : Option Addr) (cdv ct : Value) : ∀ (us ws zs : List Value), us.length = 2 → ws.length = 0 → arrD (none : Option (List Nat)) (us ++ ws) = some zs → bindArgs (PySem.W.fnOf (stName (topS 17)) (stName (topS 17)) (defArgs (topS 17)) (defBody (topS 17)) (defScope (topS 17)) .none kV doc pm an cdv ct) ⟨us, ([] : List Str).zip ws⟩ = pure (d9.ps.zip zs)
  | [_, _], [], _, _, _, e => by cases e; rfl
theorem bnds : BindsAll ds sts bnd := by
  intro b hb d st h1 h2
  have hb : b ∈ ([(0, 1, [], none), (1, 2, [], none), (10, 0, ["other", "one", "p"], some [2, 1, 0]), (10, 3, [], none), (11, 0, ["other", "one", "p"], some [2, 1, 0]), (11, 3, [], none), (12, 3, [], none), (13, 0, ["other", "one", "p"], some [2, 1, 0]), (13, 3, [], none), (14, 0, ["other", "one", "p"], some [2, 1, 0]), (14, 3, [], none), (15, 1, [], none), (16, 2, [], none), (17, 2, [], none), (18, 1, [], none), (19, 3, [], none), (2, 2, [], none), (20, 1, [], none), (21, 3, [], none), (22, 2, [], none), (23, 5, [], none), (25, 2, [], none), (27, 2, [], none), (3, 2, [], none), (4, 1, [], none), (5, 2, [], none), (6, 2, [], none), (7, 3, [], none), (8, 3, [], none), (9, 2, [], none)] : List (Nat × Nat × List Str × Option (List Nat))) := hb
  simp only [List.mem_cons, List.not_mem_nil, or_false] at hb
  rcases hb with rfl | rfl | rfl | rfl | rfl | rfl | rfl | rfl | rfl | rfl | rfl | rfl | rfl | rfl | rfl | rfl | rfl | rfl | rfl | rfl | rfl | rfl | rfl | rfl | rfl | rfl | rfl | rfl | rfl | rfl
  · cases h1; cases h2; exact fun kV doc pm an cdv ct us ws zs l1 l2 e => bn0 kV doc pm an cdv ct us ws zs l1 l2 e
  · cases h1; cases h2; exact fun kV doc pm an cdv ct us ws zs l1 l2 e => bn1 kV doc pm an cdv ct us ws zs l1 l2 e
  · cases h1; cases h2; exact fun kV doc pm an cdv ct us ws zs l1 l2 e => bn2 kV doc pm an cdv ct us ws zs l1 l2 e
  · cases h1; cases h2; exact fun kV doc pm an cdv ct us ws zs l1 l2 e => bn3 kV doc pm an cdv ct us ws zs l1 l2 e
  · cases h1; cases h2; exact fun kV doc pm an cdv ct us ws zs l1 l2 e => bn4 kV doc pm an cdv ct us ws zs l1 l2 e
  · cases h1; cases h2; exact fun kV doc pm an cdv ct us ws zs l1 l2 e => bn5 kV doc pm an cdv ct us ws zs l1 l2 e
  · cases h1; cases h2; exact fun kV doc pm an cdv ct us ws zs l1 l2 e => bn6 kV doc pm an cdv ct us ws zs l1 l2 e
  · cases h1; cases h2; exact fun kV doc pm an cdv ct us ws zs l1 l2 e => bn7 kV doc pm an cdv ct us ws zs l1 l2 e
  · cases h1; cases h2; exact fun kV doc pm an cdv ct us ws zs l1 l2 e => bn8 kV doc pm an cdv ct us ws zs l1 l2 e
  · cases h1; cases h2; exact fun kV doc pm an cdv ct us ws zs l1 l2 e => bn9 kV doc pm an cdv ct us ws zs l1 l2 e
  · cases h1; cases h2; exact fun kV doc pm an cdv ct us ws zs l1 l2 e => bn10 kV doc pm an cdv ct us ws zs l1 l2 e
  · cases h1; cases h2; exact fun kV doc pm an cdv ct us ws zs l1 l2 e => bn11 kV doc pm an cdv ct us ws zs l1 l2 e
  · cases h1; cases h2; exact fun kV doc pm an cdv ct us ws zs l1 l2 e => bn12 kV doc pm an cdv ct us ws zs l1 l2 e
  · cases h1; cases h2; exact fun kV doc pm an cdv ct us ws zs l1 l2 e => bn13 kV doc pm an cdv ct us ws zs l1 l2 e
  · cases h1; cases h2; exact fun kV doc pm an cdv ct us ws zs l1 l2 e => bn14 kV doc pm an cdv ct us ws zs l1 l2 e
  · cases h1; cases h2; exact fun kV doc pm an cdv ct us ws zs l1 l2 e => bn15 kV doc pm an cdv ct us ws zs l1 l2 e
  · cases h1; cases h2; exact fun kV doc pm an cdv ct us ws zs l1 l2 e => bn16 kV doc pm an cdv ct us ws zs l1 l2 e
  · cases h1; cases h2; exact fun kV doc pm an cdv ct us ws zs l1 l2 e => bn17 kV doc pm an cdv ct us ws zs l1 l2 e
  · cases h1; cases h2; exact fun kV doc pm an cdv ct us ws zs l1 l2 e => bn18 kV doc pm an cdv ct us ws zs l1 l2 e
  · cases h1; cases h2; exact fun kV doc pm an cdv ct us ws zs l1 l2 e => bn19 kV doc pm an cdv ct us ws zs l1 l2 e
  · cases h1; cases h2; exact fun kV doc pm an cdv ct us ws zs l1 l2 e => bn20 kV doc pm an cdv ct us ws zs l1 l2 e
  · cases h1; cases h2; exact fun kV doc pm an cdv ct us ws zs l1 l2 e => bn21 kV doc pm an cdv ct us ws zs l1 l2 e
  · cases h1; cases h2; exact fun kV doc pm an cdv ct us ws zs l1 l2 e => bn22 kV doc pm an cdv ct us ws zs l1 l2 e
  · cases h1; cases h2; exact fun kV doc pm an cdv ct us ws zs l1 l2 e => bn23 kV doc pm an cdv ct us ws zs l1 l2 e
  · cases h1; cases h2; exact fun kV doc pm an cdv ct us ws zs l1 l2 e => bn24 kV doc pm an cdv ct us ws zs l1 l2 e
  · cases h1; cases h2; exact fun kV doc pm an cdv ct us ws zs l1 l2 e => bn25 kV doc pm an cdv ct us ws zs l1 l2 e
  · cases h1; cases h2; exact fun kV doc pm an cdv ct us ws zs l1 l2 e => bn26 kV doc pm an cdv ct us ws zs l1 l2 e
  · cases h1; cases h2; exact fun kV doc pm an cdv ct us ws zs l1 l2 e => bn27 kV doc pm an cdv ct us ws zs l1 l2 e
  · cases h1; cases h2; exact fun kV doc pm an cdv ct us ws zs l1 l2 e => bn28 kV doc pm an cdv ct us ws zs l1 l2 e
  · cases h1; cases h2; exact fun kV doc pm an cdv ct us ws zs l1 l2 e => bn29 kV doc pm an cdv ct us ws zs l1 l2 e
def fn : List He.DefD := sts.map dOf
def fa : List He.Fa := faOf ds fre cns
abbrev Rw : PySem.W.OpenRow := PySem.W.OpenLaw.row PySem.Challenge.rw_formspaces_k64_whole_common_points
abbrev hk : PySem.W.Hook := He.hookD 4 fa fn
def ob (s : PySem.W.SharedT) : He.AlD := He.obsDG 4 fa fn (HandSHeadRun.getT s)
theorem ob_eq (s : PySem.W.SharedT) : ob s = hk.obs s.abs := He.obsDG_eq (HandSHeadRun.getT_eq s)
def loose_0 : List Str := ["head_of", "power_of", "need_few", "rows_of_length", "is_point", "all_rows", "points_of", "form_at", "item_sum", "oval_points", "common_points", "common_line", "times_form", "are_times", "meeting_word", "_law_bag", "_law_draw", "_law_pick", "_law_points", "_law_at"]
def loose_1 : List Str := ["_law_made", "_law_lines_form", "_law_form", "_law_mixed", "_law_is_oval", "_law_on", "_law_joining", "_law_pair", "MAX_ROWS", "SpaceError", "TooMany"]
def loose : List Str := loose_0 ++ loose_1
theorem run (w : World) : HandSHeadRun.RunEq Rw (PySem.W.view Rw.prog [38]) hk ob 3340 loose w := by
  intro os
  kernel_rfl
end K64
open PySem PySem.W PySem.Calls PyProof.Rows in
theorem PySem.Challenge.cw_formspaces_k64_whole_common_points_holds : PySem.Challenge.rw_formspaces_k64_whole_common_points.Holds := by
  w_on; o_law
  refine HandSHeadRun.head_any (r := K64.Rw) (q := view K64.Rw.prog [38]) (H := K64.hk) (ob := K64.ob) (M := 3340) (loose := K64.loose) (d := HandSHeadRun.topDef K64.Rw.prog 38) (kwd := []) K64.ob_eq
    (by kernel_rfl) (fun s => by kernel_rfl) K64.run (by kernel_rfl) (by kernel_rfl) (by kernel_rfl) (by rfl) (by first | assumption | decide +kernel) (by decide +kernel) ⟨rfl, rfl, rfl, rfl, rfl, by decide +kernel⟩ ?hw ?hc
  case hw => w_witness2
  case hc =>
    refine Fz.walk_ofG (l := PySem.Challenge.rw_formspaces_k64_whole_common_points) (n := 63) (k := 29) (x := "script") (Fl := K64.F 29 28) rfl (by decide) (by kernel_rfl) ⟨rfl, by decide, by decide⟩ ?F (fun ns h => K64.main ns h)
    intro w mg fa h Y G hmg0
    obtain ⟨K, KX, c⟩ := Y
    have hmg : mg ("law" : PySem.Str) = some (.ref fa) := by
      have e : (HandSHeadRun.topDef K64.Rw.prog 38).name = ("law" : PySem.Str) := by kernel_rfl
      rw [← e]
      exact hmg0
    refine ⟨K, ?_⟩
    obtain ⟨fd, F, g, J, _⟩ := Fz.all_ok (P := (PySem.Challenge.rw_formspaces_k64_whole_common_points).prog) (w := w) KX G c K64.ck K64.bnds 28 K64.d28 rfl
    exact Fz.end_ok (d := K64.d28) ⟨fd, F, g, J, fun _ _ _ _ => trivial⟩ rfl (fun f fd F s u => L2.FunD.bindsA (ps := ["script"]) F (fun _ _ _ _ _ _ us hl => match us, hl with | [_], _ => rfl) s [u] rfl) KX hmg
