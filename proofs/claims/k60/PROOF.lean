import PyProof.Rows.All
import HandS.ForMost
import HandS.Style
import HandS.Flow
import HandS.TupAny
import HandS.Wide
import KE.GoesEnum
import HandS.Zip
import PyProof.Rows.ChunkLeaf
import HandS.Conv
import HandS.Defaults
import HandS.More
import HandS.WordsExc
import HandS.Head0
import HandS.Head1
import HandS.Head2
import HandS.HeadEnd
import HandS.HeadHook1
import HandS.HeadHook2
import KE.DataEq
import PyProof.Rows.StrJoinMade
import KE.BitLaws
import PySem.Challenge.RW_formspaces_k60_whole_kind_numbers
set_option Elab.async false
set_option linter.all false
set_option maxRecDepth 100000
set_option maxHeartbeats 4000000
/-! Q1: data, own syntax, the pure evaluator. -/
namespace Fz
open PySem

inductive D where
  | non | bl (b : Bool) | int (i : Int) | str (s : Str)
  | tup (ds : List D) | lst (ds : List D) | fl (ds : List D) | sc (ds : List D)
  | ref (k : Nat) | g (k : Nat)
  /-- a dict with texts as keys, never changed -/
  | dic (ks : List Str) (ds : List D)
  deriving Inhabited

inductive R (α : Type) where
  | ok (a : α) | exc (c : Str) (ds : List D) | err

def R.bd {α β : Type} (r : R α) (f : α → R β) : R β := match r with
  | .ok a => f a
  | .exc c ds => .exc c ds
  | .err => .err
@[simp] theorem R.bd_ok {α β : Type} (a : α) (f : α → R β) : (R.ok a).bd f = f a := .trans rfl rfl
@[simp] theorem R.bd_exc {α β : Type} (c ds) (f : α → R β) : (R.exc c ds : R α).bd f = .exc c ds := .trans rfl rfl
@[simp] theorem R.bd_err {α β : Type} (f : α → R β) : (R.err : R α).bd f = .err := .trans rfl rfl
def R.of {α : Type} : Option α → R α
  | some a => .ok a
  | none => .err
@[simp] theorem R.of_some {α : Type} (a : α) : R.of (some a) = .ok a := .trans rfl rfl
@[simp] theorem R.of_none {α : Type} : R.of (none : Option α) = .err := .trans rfl rfl

structure Wd where
  σ : List (Option D)
  m : List (List D)
  g : List (List D)

/-! ### equality of data, by structure -/
mutual
def deq : D → D → Bool
  | .non, .non => true
  | .bl a, .bl b => a == b
  | .int a, .int b => decide (a = b)
  | .str a, .str b => decide (a = b)
  | .tup a, .tup b => deqL a b
  | .lst a, .lst b => deqL a b
  | .fl a, .fl b => deqL a b
  | .sc a, .sc b => deqL a b
  | .ref a, .ref b => a == b
  | .g a, .g b => a == b
  | .dic ks a, .dic js b => decide (ks = js) && deqL a b
  | _, _ => false
def deqL : List D → List D → Bool
  | [], [] => true
  | x :: xs, y :: ys => deq x y && deqL xs ys
  | _, _ => false
end
mutual
theorem deq_refl : ∀ d : D, deq d d = true
  | .non => rfl
  | .bl b => by simp [deq]
  | .int _ => by simp [deq]
  | .str _ => by simp [deq]
  | .tup ds => by simpa [deq] using deqL_refl ds
  | .lst ds => by simpa [deq] using deqL_refl ds
  | .fl ds => by simpa [deq] using deqL_refl ds
  | .sc ds => by simpa [deq] using deqL_refl ds
  | .ref _ => by simp [deq]
  | .g _ => by simp [deq]
  | .dic ks ds => by simpa [deq] using deqL_refl ds
theorem deqL_refl : ∀ ds : List D, deqL ds ds = true
  | [] => rfl
  | x :: xs => by simp [deqL, deq_refl x, deqL_refl xs]
end
mutual
theorem deq_eq : ∀ d e : D, deq d e = true → d = e
  | .non, e, h => by cases e <;> first | rfl | (simp [deq] at h)
  | .bl b, e, h => by cases e <;> simp_all [deq]
  | .int b, e, h => by cases e <;> simp_all [deq]
  | .str b, e, h => by cases e <;> simp_all [deq]
  | .tup ds, e, h => by
    cases e with
    | tup es => rw [deqL_eq ds es (by simpa [deq] using h)]
    | _ => simp [deq] at h
  | .lst ds, e, h => by
    cases e with
    | lst es => rw [deqL_eq ds es (by simpa [deq] using h)]
    | _ => simp [deq] at h
  | .fl ds, e, h => by
    cases e with
    | fl es => rw [deqL_eq ds es (by simpa [deq] using h)]
    | _ => simp [deq] at h
  | .sc ds, e, h => by
    cases e with
    | sc es => rw [deqL_eq ds es (by simpa [deq] using h)]
    | _ => simp [deq] at h
  | .ref k, e, h => by cases e <;> simp_all [deq]
  | .g k, e, h => by cases e <;> simp_all [deq]
  | .dic ks ds, e, h => by
    cases e with
    | dic js es =>
      have h := (Bool.and_eq_true_iff.mp (show (decide (ks = js) && deqL ds es) = true by simpa [deq] using h))
      rw [deqL_eq ds es h.2, of_decide_eq_true h.1]
    | _ => simp [deq] at h
theorem deqL_eq : ∀ ds es : List D, deqL ds es = true → ds = es
  | [], es, h => by cases es <;> simp_all [deqL]
  | x :: xs, es, h => by
    cases es with
    | nil => simp [deqL] at h
    | cons y ys =>
      simp only [deqL, Bool.and_eq_true] at h
      rw [deq_eq x y h.1, deqL_eq xs ys h.2]
end

/-! ### looking at data -/
def Wd.seq (w : Wd) : D → Option (List D)
  | .tup ds => some ds
  | .lst ds => some ds
  | .fl ds => some ds
  | .sc ds => some ds
  | .ref k => w.m[k]?
  | .g k => w.g[k]?
  | _ => none
def isT : D → Bool
  | .tup _ => true
  | _ => false
/-- a list that stands tracked (no tuple, no frozen script) -/
def isL : D → Bool
  | .lst _ => true
  | .fl _ => true
  | .ref _ => true
  | .g _ => true
  | _ => false
/-- a text's, a list's .. truth -/
def Wd.tru (w : Wd) : D → Option Bool
  | .non => some false
  | .bl b => some b
  | .int i => some (i != 0)
  | .str s => if s.length ≤ 1000000 then some (s.length != 0) else none
  | d => (w.seq d).map fun xs => !xs.isEmpty

-- refs turned by ρ; φ: borrowed lists may stand
mutual
def rs (ρ : Nat → Option D) (φ : Bool) : D → Option D
  | .non => some .non
  | .bl b => some (.bl b)
  | .int i => some (.int i)
  | .str s => some (.str s)
  | .tup ds => (rsL ρ φ ds).map D.tup
  | .lst ds => (rsL ρ φ ds).map D.lst
  | .fl ds => if φ then (rsL ρ φ ds).map D.fl else none
  | .sc ds => if φ then (rsL ρ φ ds).map D.sc else none
  | .ref k => ρ k
  | .g k => some (.g k)
  | .dic ks ds => (rsL ρ φ ds).map (D.dic ks)
def rsL (ρ : Nat → Option D) (φ : Bool) : List D → Option (List D)
  | [] => some []
  | x :: xs => (rs ρ φ x).bind fun y => (rsL ρ φ xs).map fun ys => y :: ys
end
/-- refs from L on turned into what they hold -/
def up (mk : List D → D) (L : Nat) (m : List (List D)) (φ : Bool) : Nat → Nat → Option D
  | 0, k => if k < L then some (.ref k) else none
  | n + 1, k => if k < L then some (.ref k) else (m[k]?).bind fun ds => (rsL (up mk L m φ n) φ ds).map mk
def lend (w : Wd) (d : D) : Option D := rs (up D.fl 0 w.m true 4) true d
def give (w : Wd) (d : D) : Option D := rs (up D.lst 0 w.m false 4) false d
def lendL (w : Wd) (ds : List D) : Option (List D) := rsL (up D.fl 0 w.m true 4) true ds
def keep (L : Nat) (m : List (List D)) : Nat → Option D := up D.lst L m true 4
def keepO (L : Nat) (m : List (List D)) : List (Option D) → Option (List (Option D))
  | [] => some []
  | none :: r => (keepO L m r).map fun xs => none :: xs
  | some d :: r => (rs (keep L m) true d).bind fun y => (keepO L m r).map fun xs => some y :: xs
def keepM (L : Nat) (m : List (List D)) : List (List D) → Option (List (List D))
  | [] => some []
  | x :: r => (rsL (keep L m) true x).bind fun y => (keepM L m r).map fun xs => y :: xs
/-- all own lists from L on are frozen -/
def Wd.gc (w : Wd) (L : Nat) : Option Wd :=
  (keepO L w.m w.σ).bind fun σ => (keepM L w.m (w.m.take L)).map fun m => { w with σ := σ, m := m }

-- as the model's data
mutual
def py (ρ γ : Nat → Option PyData) : D → Option PyData
  | .non => some .none
  | .bl b => some (.bool b)
  | .int i => some (.int i)
  | .str s => some (.str s)
  | .tup ds => (pyL ρ γ ds).map PyData.tuple
  | .lst ds => (pyL ρ γ ds).map PyData.list
  | .fl ds => (pyL ρ γ ds).map PyData.list
  | .sc ds => (pyL ρ γ ds).map PyData.list
  | .ref k => ρ k
  | .g k => γ k
  | .dic _ _ => none
def pyL (ρ γ : Nat → Option PyData) : List D → Option (List PyData)
  | [] => some []
  | x :: xs => (py ρ γ x).bind fun y => (pyL ρ γ xs).map fun ys => y :: ys
end
/-- own lists (b: true), shared ones (b: false), nested at most four deep -/
def pyR (w : Wd) : Nat → Bool → Nat → Option PyData
  | 0, _, _ => none
  | n + 1, b, k => ((if b then w.m[k]? else w.g[k]?).bind fun ds => (pyL (pyR w n true) (pyR w n false) ds).map PyData.list)
def Wd.py (w : Wd) (d : D) : Option PyData := Fz.py (pyR w 4 true) (pyR w 4 false) d

/-- what a shared list may hold -/
def gOk : D → Bool
  | .non => true
  | .bl _ => true
  | .int _ => true
  | .str _ => true
  | .g _ => true
  | _ => false
def mxLen : Nat := 1000000
def newL (md : Nat) (xs : List D) (w : Wd) : R (D × Wd) :=
  if xs.length ≤ mxLen then
    match md with
    | 0 => .ok (.lst xs, w)
    | 1 => .ok (.ref w.m.length, { w with m := w.m ++ [xs] })
    | _ => if xs.all gOk then .ok (.g w.g.length, { w with g := w.g ++ [xs] }) else .err
  else .err
def newT (xs : List D) (w : Wd) : R (D × Wd) := if xs.length ≤ mxLen then .ok (.tup xs, w) else .err
/-- a mutable list's items stored anew -/
def Wd.put (w : Wd) (d : D) (xs : List D) : Option Wd := match d with
  | .ref k => if k < w.m.length then some { w with m := w.m.set k xs } else none
  | .g k => if k < w.g.length ∧ xs.all gOk = true then some { w with g := w.g.set k xs } else none
  | _ => none

mutual
def okRet : D → Bool
  | .tup ds => okRets ds
  | .lst ds => okRets ds
  | .fl _ => false
  | .sc _ => false
  | .ref _ => false
  | .dic _ ds => okRets ds
  | _ => true
def okRets : List D → Bool
  | [] => true
  | d :: ds => okRet d && okRets ds
end

/-! ### syntax -/
inductive Op where | add | sub | mul | fdiv | mod | pow | band | bxor | shl
inductive Cm where | eq | ne | lt | le | gt | ge | is | isnot | isin | notin
inductive Bi where | len | abs | int | bool | repr | sum | max | min | tuple | list | sorted | all | any | str | isinst | dict
inductive Me where | append | extend | pop | insert | index | count | remove
inductive Tg where
  | nm (i : Nat)
  | tu (ts : List Tg)
mutual
inductive E where
  | v (i : Nat)
  | k (d : D)
  | gl (i : Nat)
  | op (o : Op) (md : Nat) (a b : E)
  | neg (a : E)
  | no (a : E)
  | an (a b : E)
  | or (a b : E)
  | cm (c : Cm) (a b : E)
  | ch (a : E) (c : Cm) (b : E) (c2 : Cm) (d : E)
  | ite (c a b : E)
  | tup (es : Es)
  | lst (md : Nat) (es : Es)
  | ix (a i : E)
  /-- {k: e, ..}, keys texts -/
  | dis (ks : List Str) (es : Es)
  /-- list(range(..)), tuple(range(..)) -/
  | lrg (tp : Bool) (md : Nat) (es : Es)
  | sl (md : Nat) (a : E) (lo hi : Oe)
  | rev (md : Nat) (a : E)
  | call (f : Nat) (perm : Option (List Nat)) (es ks : Es)
  | bi (b : Bi) (md : Nat) (es : Es)
  | me (m : Me) (o : E) (es : Es)
  | co (md : Nat) (t : Tg) (it : It) (c : Oe) (e : E) (own : List Nat)
inductive Es where
  | nil
  | cons (e : E) (r : Es)
inductive Oe where
  | no
  | so (e : E)
inductive It where
  | seq (e : E)
  | rng (es : Es)
  | enu (e : E)
  | zip (a b : E)
end
inductive S where
  | set (t : Tg) (e : E)
  | put (o i e : E)
  | ex (e : E)
  | ret (e : E)
  | retn
  | brk
  | cnt
  | pas
  | dead
  | ite (c : E) (a b : List S)
  | for (t : Tg) (it : It) (body : List S) (kill : List Nat) (gc : Bool)
  | whl (c : E) (body : List S) (kill : List Nat) (gc : Bool)
inductive Fl where
  | nx | rt (d : D) | bk | ct
end Fz

/-! Q2: the pure evaluator. -/
namespace Fz
open PySem

/-- what the defs are worth, the module's constants -/
structure Pg where
  F : Nat → List D → List (List D) → R (D × List (List D))
  C : List D

def mulOk (i j : Int) : Bool := decide ((-(2 ^ 64) < i ∧ i < 2 ^ 64) ∨ (-(2 ^ 64) < j ∧ j < 2 ^ 64) ∨ (i.natAbs < 2 ^ 400000 ∧ j.natAbs < 2 ^ 400000))
def divOk (i j : Int) : Bool := decide (j ≠ 0) && (decide (j.natAbs < 1073741824) || !Builtin.divisionGoesByPylong i j)
def powOk (i j : Int) : Bool := decide (0 ≤ j ∧ j ≤ 1000000 ∧ i.natAbs < 2 ^ 64)
def opF (o : Op) (md : Nat) (x y : D) (w : Wd) : R (D × Wd) :=
  match o, x, y with
  | .add, .int i, .int j => .ok (.int (i + j), w)
  | .sub, .int i, .int j => .ok (.int (i - j), w)
  | .mul, .int i, .int j => if mulOk i j then .ok (.int (i * j), w) else .err
  | .fdiv, .int i, .int j => if divOk i j then .ok (.int (i.fdiv j), w) else .err
  | .mod, .int i, .int j => if j = 0 then .err else .ok (.int (i.fmod j), w)
  | .pow, .int i, .int j => if powOk i j then .ok (.int (i ^ j.toNat), w) else .err
  | .shl, .int i, .int j => if powOk i j then .ok (.int (i * 2 ^ j.toNat), w) else .err
  | .band, .int i, .int j => .ok (.int (Builtin.bitAnd i j), w)
  | .bxor, .int i, .int j => .ok (.int (Builtin.bitXor i j), w)
  | .add, .str a, .str b => if a.length + b.length ≤ mxLen then .ok (.str (a ++ b), w) else .err
  | .add, .tup a, .tup b => newT (a ++ b) w
  | .add, x, y => if isL x && isL y then (R.of (w.seq x)).bd fun a => (R.of (w.seq y)).bd fun b => newL md (a ++ b) w else .err
  | .mul, x, .int j => if isL x && decide (-(2 ^ 63) ≤ j ∧ j < 2 ^ 63) then (R.of (w.seq x)).bd fun a => if a.length * j.toNat ≤ mxLen then newL md (List.replicate j.toNat a).flatten w else .err else .err
  | _, _, _ => .err

def isFlat : D → Bool
  | .non => true
  | .bl _ => true
  | .int _ => true
  | .str _ => true
  | _ => false
def eqF (x y : D) (w : Wd) : Option Bool := match x, y with
  | .int i, .int j => some (decide (i = j))
  | .str i, .str j => some (decide (i = j))
  | x, y => (w.py x).bind fun a => (w.py y).bind fun b => if SeqAt.shaped a && SeqAt.shaped b then some (PyData.eqv a b) else none
def flatEq : D → D → Bool
  | .non, .non => true
  | .bl a, .bl b => a == b
  | .bl a, .int b => (if a then 1 else 0) == b
  | .int a, .bl b => a == (if b then 1 else 0)
  | .int a, .int b => a == b
  | .str a, .str b => a == b
  | _, _ => false
def cmF (c : Cm) (x y : D) (w : Wd) : Option Bool := match c, x, y with
  | .eq, x, y => eqF x y w
  | .ne, x, y => (eqF x y w).map fun b => !b
  | .lt, .int i, .int j => some (decide (i < j))
  | .le, .int i, .int j => some (decide (i ≤ j))
  | .gt, .int i, .int j => some (decide (j < i))
  | .ge, .int i, .int j => some (decide (j ≤ i))
  | .is, x, .non => some (match x with | .non => true | _ => false)
  | .isnot, x, .non => some (match x with | .non => false | _ => true)
  | .is, .bl a, .bl b => some (decide (a = b))
  | .isnot, .bl a, .bl b => some (!decide (a = b))
  | .isin, x, y => if isFlat x then (w.seq y).bind fun ys => if ys.all isFlat then some (ys.any fun z => flatEq z x) else none else none
  | .notin, x, y => if isFlat x then (w.seq y).bind fun ys => if ys.all isFlat then some (!(ys.any fun z => flatEq z x)) else none else none
  | _, _, _ => none

def stepL (lo c : Int) : Nat → List D
  | 0 => []
  | n + 1 => .int lo :: stepL (lo + c) c n
/-- an index, of any sign -/
def ixI (n : Nat) (i : Int) : Option Nat := if 0 ≤ i then (if i < n then some i.toNat else none) else if -(n : Int) ≤ i then some (i + n).toNat else none
def cut {α : Type} (xs : List α) (lo hi : Option Int) : List α := (xs.drop (HT.sIx xs.length 0 lo)).take (HT.sIx xs.length xs.length hi - HT.sIx xs.length 0 lo)

def intD : List D → Option (List Int)
  | [] => some []
  | .int i :: r => (intD r).map fun is => i :: is
  | _ => none
/-- pairs of a text and something -/
def prsD : List D → Option (List Str × List D)
  | [] => some ([], [])
  | .tup [.str k, d] :: r => (prsD r).map fun p => (k :: p.1, d :: p.2)
  | _ => none
/-- what stands at a key -/
def lkp : List Str → List D → Str → Option D
  | k :: ks, d :: ds, x => if k = x then some d else lkp ks ds x
  | _, _, _ => none
/-- d[k] of a dict -/
def dicL : D → Str → Option D
  | .dic ks ds, k => lkp ks ds k
  | _, _ => none
def boolD : List D → Option (List Bool)
  | [] => some []
  | .bl i :: r => (boolD r).map fun is => i :: is
  | _ => none
mutual
/-- what can be shown: no dict, ints below the limit -/
def canShow : PyData → Bool
  | .none => true
  | .bool _ => true
  | .int i => decide (i.natAbs < 10 ^ 4300)
  | .str _ => true
  | .list ps => canShows ps
  | .tuple ps => canShows ps
  | .dict _ => false
def canShows : List PyData → Bool
  | [] => true
  | p :: ps => canShow p && canShows ps
end
/-- repr of data -/
def reprOk (p : PyData) : Bool := canShow p && decide (p.depth ≤ 60) && decide (p.shown.length ≤ mxLen)
def maxL : List Int → Int
  | [] => 0
  | [x] => x
  | x :: y :: r => let z := maxL (y :: r); if x < z then z else x
def minL : List Int → Int
  | [] => 0
  | [x] => x
  | x :: y :: r => let z := minL (y :: r); if z < x then z else x
def sortI (xs : List Int) : List Int := xs.mergeSort (fun a b => decide (a ≤ b))
def biF (b : Bi) (md : Nat) (ds : List D) (w : Wd) : R (D × Wd) := match b, ds with
  | .len, [.str s] => if s.length ≤ mxLen then .ok (.int s.length, w) else .err
  | .len, [d] => (R.of (w.seq d)).bd fun xs => .ok (.int xs.length, w)
  | .abs, [.int i] => .ok (.int (if i < 0 then -i else i), w)
  | .int, [.int i] => .ok (.int i, w)
  | .int, [.bl k] => .ok (.int (if k then 1 else 0), w)
  | .bool, [.int i] => .ok (.bl (i != 0), w)
  | .bool, [.bl k] => .ok (.bl k, w)
  | .repr, [d] => (R.of (w.py d)).bd fun p => if reprOk p then .ok (.str p.shown, w) else .err
  | .sum, [d] => (R.of ((w.seq d).bind intD)).bd fun xs => .ok (.int xs.sum, w)
  | .dict, [d] => if isT d then .err else (R.of ((w.seq d).bind prsD)).bd fun p => if p.1.Nodup ∧ p.1 ≠ [] ∧ p.1.length ≤ 15 then .ok (.dic p.1 p.2, w) else .err
  | .max, [.int i, .int j] => .ok (.int (if j > i then j else i), w)
  | .min, [.int i, .int j] => .ok (.int (if j < i then j else i), w)
  | .max, [d] => if isT d then .err else (R.of ((w.seq d).bind intD)).bd fun xs => if xs.isEmpty then .err else .ok (.int (maxL xs), w)
  | .min, [d] => if isT d then .err else (R.of ((w.seq d).bind intD)).bd fun xs => if xs.isEmpty then .err else .ok (.int (minL xs), w)
  | .tuple, [d] => (R.of (w.seq d)).bd fun xs => newT xs w
  | .list, [d] => (R.of (w.seq d)).bd fun xs => newL md xs w
  | .all, [d] => if isT d then .err else (R.of ((w.seq d).bind boolD)).bd fun xs => .ok (.bl (xs.all id), w)
  | .any, [d] => if isT d then .err else (R.of ((w.seq d).bind boolD)).bd fun xs => .ok (.bl (xs.any id), w)
  | _, _ => .err
def meF (m : Me) (o : D) (ds : List D) (w : Wd) : R (D × Wd) := match m, ds with
  | .append, [d] => (R.of (w.seq o)).bd fun xs => if xs.length < mxLen then (R.of (w.put o (xs ++ [d]))).bd fun w' => .ok (.non, w') else .err
  | .extend, [d] => if isL d && !deq d o then (R.of (w.seq o)).bd fun xs => (R.of (w.seq d)).bd fun ys => if xs.length + ys.length ≤ mxLen then (R.of (w.put o (xs ++ ys))).bd fun w' => .ok (.non, w') else .err else .err
  | .pop, [] => (R.of (w.seq o)).bd fun xs => (R.of xs[xs.length - 1]?).bd fun y => (R.of (w.put o xs.dropLast)).bd fun w' => .ok (y, w')
  | .pop, [.int i] => (R.of (w.seq o)).bd fun xs => (R.of (ixI xs.length i)).bd fun k => (R.of xs[k]?).bd fun y => (R.of (w.put o (xs.eraseIdx k))).bd fun w' => .ok (y, w')
  | _, _ => .err

def wipeD (σ : List (Option D)) : List Nat → List (Option D)
  | [] => σ
  | v :: vs => (wipeD σ vs).set v none
mutual
def asg : Tg → D → Wd → Option Wd
  | .nm i, d, w => some { w with σ := w.σ.set i (some d) }
  | .tu ts, .tup ds, w => asgL ts ds w
  | .tu _, _, _ => none
def asgL : List Tg → List D → Wd → Option Wd
  | [], [], w => some w
  | t :: ts, d :: ds, w => (asg t d w).bind fun w' => asgL ts ds w'
  | _, _, _ => none
end
/-- what a loop walks: the list stands as it was -/
inductive Src where
  | non | ref (k : Nat) | g (k : Nat)
def Src.ok (s : Src) (xs : List D) (w : Wd) : Bool := match s with
  | .non => true
  | .ref k => (w.m[k]?).any fun ys => deqL ys xs
  | .g k => (w.g[k]?).any fun ys => deqL ys xs
def srcOf : D → Src
  | .ref k => .ref k
  | .g k => .g k
  | _ => .non
def rngL (lo : Int) : Nat → List D
  | 0 => []
  | n + 1 => .int lo :: rngL (lo + 1) n
def rngOk (i : Int) : Bool := decide (-(2 ^ 62) ≤ i ∧ i < 2 ^ 62)
def rngF : List D → Option (List D)
  | [.int j] => if rngOk j then some (rngL 0 j.toNat) else none
  | [.int i, .int j] => if rngOk i && rngOk j then some (rngL i (j - i).toNat) else none
  | [.int i, .int j, .int c] => if decide (c ≠ 0 ∧ c.natAbs < 1073741824) && Builtin.Range.small i j c then some (stepL i c (Builtin.Range.rangeSize i j c).toNat) else none
  | _ => none
def enuL (i : Int) : List D → List D
  | [] => []
  | x :: xs => .tup [.int i, x] :: enuL (i + 1) xs
def zipD : List D → List D → List D
  | x :: xs, y :: ys => .tup [x, y] :: zipD xs ys
  | _, _ => []
/-- what is walked: the items, the lists that must stand still -/
structure Itd where
  xs : List D
  ok : Wd → Bool

def coL (bind : D → Wd → Option Wd) (test : Wd → R (Bool × Wd)) (elt : Wd → R (D × Wd)) (ok : Wd → Bool) (own : List Nat) (σ : List (Option D)) : List D → Wd → List D → R (List D × Wd)
  | [], w, acc => .ok (acc, w)
  | x :: xs, w, acc => (R.of (bind x { w with σ := wipeD σ own })).bd fun w1 => (test w1).bd fun r => if r.1 then
      (elt r.2).bd fun q => if ok { q.2 with σ := σ } && decide (acc.length < mxLen) then coL bind test elt ok own σ xs { q.2 with σ := σ } (acc ++ [q.1]) else .err
    else if ok { r.2 with σ := σ } then coL bind test elt ok own σ xs { r.2 with σ := σ } acc else .err
def forL (bind : D → Wd → Option Wd) (body : Wd → R (Fl × Wd)) (post : Wd → Option Wd) (ok : Wd → Bool) : List D → Wd → R (Fl × Wd)
  | [], w => .ok (.nx, w)
  | x :: xs, w => (R.of (bind x w)).bd fun w1 => (body w1).bd fun r => match r.1 with
    | .bk => .ok (.nx, r.2)
    | .rt d => .ok (.rt d, r.2)
    | _ => (R.of (post r.2)).bd fun w3 => if ok w3 then forL bind body post ok xs w3 else .err
def whlL (test : Wd → R (Bool × Wd)) (body : Wd → R (Fl × Wd)) (post : Wd → Option Wd) : Nat → Wd → R (Fl × Wd)
  | 0, _ => .err
  | n + 1, w => (test w).bd fun r => if r.1 then (body r.2).bd fun q => match q.1 with
      | .bk => .ok (.nx, q.2)
      | .rt d => .ok (.rt d, q.2)
      | _ => (R.of (post q.2)).bd fun w3 => whlL test body post n w3
    else .ok (.nx, r.2)
def postF (kill : List Nat) (gc : Bool) (L : Nat) (w : Wd) : Option Wd :=
  let w1 : Wd := { w with σ := wipeD w.σ kill }
  if gc then w1.gc L else some w1

/-- arguments in the parameters' order -/
def arr {α : Type} (p : List Nat) (xs : List α) : Option (List α) := match p with
  | [] => some []
  | i :: r => (xs[i]?).bind fun x => (arr r xs).map fun ys => x :: ys
def arrD {α : Type} : Option (List Nat) → List α → Option (List α)
  | none, xs => some xs
  | some p, xs => arr p xs
variable (P : Pg)
mutual
def evE : E → Wd → R (D × Wd)
  | .v i, w => match w.σ[i]? with
    | some (some d) => .ok (d, w)
    | _ => .err
  | .k d, w => .ok (d, w)
  | .gl i, w => (R.of P.C[i]?).bd fun d => .ok (d, w)
  | .op o md a b, w => (evE a w).bd fun x => (evE b x.2).bd fun y => opF o md x.1 y.1 y.2
  | .neg a, w => (evE a w).bd fun x => match x.1 with
    | .int i => .ok (.int (-i), x.2)
    | _ => .err
  | .no a, w => (evE a w).bd fun x => (R.of (x.2.tru x.1)).bd fun b => .ok (.bl (!b), x.2)
  | .an a b, w => (evE a w).bd fun x => (R.of (x.2.tru x.1)).bd fun c => if c then evE b x.2 else .ok x
  | .or a b, w => (evE a w).bd fun x => (R.of (x.2.tru x.1)).bd fun c => if c then .ok x else evE b x.2
  | .cm c a b, w => (evE a w).bd fun x => (evE b x.2).bd fun y => (R.of (cmF c x.1 y.1 y.2)).bd fun r => .ok (.bl r, y.2)
  | .ch a c b c2 d, w => (evE a w).bd fun x => (evE b x.2).bd fun y => (R.of (cmF c x.1 y.1 y.2)).bd fun r => if r then
      (evE d y.2).bd fun z => (R.of (cmF c2 y.1 z.1 z.2)).bd fun q => .ok (.bl q, z.2) else .ok (.bl false, y.2)
  | .ite c a b, w => (evE c w).bd fun x => (R.of (x.2.tru x.1)).bd fun r => if r then evE a x.2 else evE b x.2
  | .tup es, w => (evEs es w).bd fun x => newT x.1 x.2
  | .lst md es, w => (evEs es w).bd fun x => newL md x.1 x.2
  | .ix a i, w => (evE a w).bd fun x => (evE i x.2).bd fun y => match y.1 with
    | .int k => (R.of (y.2.seq x.1)).bd fun xs => (R.of ((ixI xs.length k).bind fun j => xs[j]?)).bd fun d => .ok (d, y.2)
    | .str k => (R.of (dicL x.1 k)).bd fun d => .ok (d, y.2)
    | _ => .err
  | .lrg tp md es, w => (evEs es w).bd fun x => (R.of (rngF x.1)).bd fun xs => if tp then newT xs x.2 else newL md xs x.2
  | .dis ks es, w => (evEs es w).bd fun x => if ks.Nodup ∧ ks ≠ [] ∧ ks.length ≤ 15 ∧ ks.length = x.1.length then .ok (.dic ks x.1, x.2) else .err
  | .sl md a lo hi, w => (evE a w).bd fun x => (evO lo x.2).bd fun l => (evO hi l.2).bd fun h => (R.of (h.2.seq x.1)).bd fun xs =>
      if isT x.1 then newT (cut xs l.1 h.1) h.2 else newL md (cut xs l.1 h.1) h.2
  | .rev md a, w => (evE a w).bd fun x => (R.of (x.2.seq x.1)).bd fun xs => if isT x.1 then .err else newL md xs.reverse x.2
  | .call f perm es ks, w => (evEs es w).bd fun x => (evEs ks x.2).bd fun y => (R.of (lendL y.2 (x.1 ++ y.1))).bd fun ds => (R.of (arrD perm ds)).bd fun ds =>
      (P.F f ds y.2.g).bd fun r => .ok (r.1, { y.2 with g := r.2 })
  | .bi b md es, w => (evEs es w).bd fun x => biF b md x.1 x.2
  | .me m o es, w => (evE o w).bd fun x => (evEs es x.2).bd fun y => meF m x.1 y.1 y.2
  | .co md t it c e own, w => (evI it w).bd fun x => (coL (asg t) (evC c) (evE e) x.1.ok own x.2.σ x.1.xs x.2 []).bd fun r => newL md r.1 r.2
def evEs : Es → Wd → R (List D × Wd)
  | .nil, w => .ok ([], w)
  | .cons e r, w => (evE e w).bd fun x => (evEs r x.2).bd fun y => .ok (x.1 :: y.1, y.2)
def evO : Oe → Wd → R (Option Int × Wd)
  | .no, w => .ok (none, w)
  | .so e, w => (evE e w).bd fun x => match x.1 with
    | .int i => .ok (some i, x.2)
    | _ => .err
def evC : Oe → Wd → R (Bool × Wd)
  | .no, w => .ok (true, w)
  | .so e, w => (evE e w).bd fun x => (R.of (x.2.tru x.1)).bd fun b => .ok (b, x.2)
def evI : It → Wd → R (Itd × Wd)
  | .seq e, w => (evE e w).bd fun x => (R.of (x.2.seq x.1)).bd fun xs => .ok (⟨xs, (srcOf x.1).ok xs⟩, x.2)
  | .rng es, w => (evEs es w).bd fun x => (R.of (rngF x.1)).bd fun xs => .ok (⟨xs, fun _ => true⟩, x.2)
  | .enu e, w => (evE e w).bd fun x => (R.of (x.2.seq x.1)).bd fun xs => .ok (⟨enuL 0 xs, (srcOf x.1).ok xs⟩, x.2)
  | .zip a b, w => (evE a w).bd fun x => (evE b x.2).bd fun y => (R.of (y.2.seq x.1)).bd fun xs => (R.of (y.2.seq y.1)).bd fun ys =>
      if isT x.1 == isT y.1 then .ok (⟨zipD xs ys, fun w => (srcOf x.1).ok xs w && (srcOf y.1).ok ys w⟩, y.2) else .err
end
/-- a test: the truth of the value -/
def evT (e : E) (w : Wd) : R (Bool × Wd) := (evE P e w).bd fun x => (R.of (x.2.tru x.1)).bd fun b => .ok (b, x.2)
def fuel : Nat := 1000000000000
mutual
def exS : S → Wd → R (Fl × Wd)
  | .set t e, w => (evE P e w).bd fun x => (R.of (asg t x.1 x.2)).bd fun w' => .ok (.nx, w')
  | .put o i e, w => (evE P e w).bd fun z => (evE P o z.2).bd fun x => (evE P i x.2).bd fun y => match y.1 with
    | .int k => (R.of (y.2.seq x.1)).bd fun xs => (R.of (ixI xs.length k)).bd fun j => (R.of (y.2.put x.1 (xs.set j z.1))).bd fun w' => .ok (.nx, w')
    | _ => .err
  | .ex e, w => (evE P e w).bd fun x => .ok (.nx, x.2)
  | .ret e, w => (evE P e w).bd fun x => .ok (.rt x.1, x.2)
  | .retn, w => .ok (.rt .non, w)
  | .brk, w => .ok (.bk, w)
  | .cnt, w => .ok (.ct, w)
  | .pas, w => .ok (.nx, w)
  | .dead, _ => .err
  | .ite c a b, w => (evT P c w).bd fun x => if x.1 then exB a x.2 else exB b x.2
  | .for t it body kill gc, w => (evI P it w).bd fun x => forL (asg t) (exB body) (postF kill gc x.2.m.length) x.1.ok x.1.xs x.2
  | .whl c body kill gc, w => whlL (evT P c) (exB body) (postF kill gc w.m.length) fuel w
def exB : List S → Wd → R (Fl × Wd)
  | [], w => .ok (.nx, w)
  | s :: r, w => (exS s w).bd fun x => match x.1 with
    | .nx => exB r x.2
    | f => .ok (f, x.2)
end
/-- a def: its parameters in the first slots; its end without a return gives None -/
def exD (n : Nat) (body : List S) (ds : List D) (g : List (List D)) : R (D × List (List D)) :=
  (exB P body ⟨ds.map some ++ List.replicate (n - ds.length) none, [], g⟩).bd fun x => match x.1 with
    | .rt d => (R.of (give x.2 d)).bd fun d' => .ok (d', x.2.g)
    | .nx => .ok (.non, x.2.g)
    | _ => .err
end Fz

/-! Q3: data stand in the heap. -/
namespace Fz
open PySem PySem.Spec PyProof.Rows L2

/-- own lists, shared ones, those that somebody further out may still change -/
structure Ad where
  mu : List Addr
  ga : List Addr
  bad : List Addr
  /-- lists that a comprehension is making -/
  cn : List Addr
/-- locked or written: never changes -/
def SqF (K : PySem.W.Frag) (H : Hp) (a : Addr) (vs : List V) : Prop := (∃ o, H a = some (.frz o (.lst vs))) ∨ SqL K (fun _ => none) a vs
mutual
def RD (K : PySem.W.Frag) (H : Hp) (A : Ad) : D → V → Prop
  | .non, v => v = .non
  | .bl b, v => v = .bl b
  | .int i, v => v = .int i
  | .str s, v => v = .str s
  | .tup ds, v => ∃ a vs, v = .ref a ∧ SqT K H a vs ∧ RDs K H A ds vs
  | .lst ds, v => ∃ a vs, v = .ref a ∧ H a = some (.lst vs) ∧ (a ∉ A.mu ∧ a ∉ A.ga ∧ a ∉ A.cn) ∧ a ∉ A.bad ∧ RDs K H A ds vs
  | .fl ds, v => ∃ a vs, v = .ref a ∧ H a = some (.lst vs) ∧ (a ∉ A.mu ∧ a ∉ A.ga ∧ a ∉ A.cn) ∧ RDs K H A ds vs
  | .sc ds, v => ∃ a vs, v = .ref a ∧ SqF K H a vs ∧ RDs K H A ds vs
  | .ref k, v => ∃ a, A.mu[k]? = some a ∧ v = .ref a
  | .g k, v => ∃ a, A.ga[k]? = some a ∧ v = .ref a
  | .dic ks ds, v => ∃ a kvs, v = .ref a ∧ H a = some (.dK kvs) ∧ (a ∉ A.mu ∧ a ∉ A.ga ∧ a ∉ A.cn) ∧ a ∉ A.bad ∧ (ks ≠ [] ∧ ks.Nodup ∧ kvs.map Prod.fst = ks.map Sum.inr) ∧ RDs K H A ds (kvs.map Prod.snd)
def RDs (K : PySem.W.Frag) (H : Hp) (A : Ad) : List D → List V → Prop
  | [], vs => vs = []
  | d :: ds, vs => ∃ v r, vs = v :: r ∧ RD K H A d v ∧ RDs K H A ds r
end
/-- may not be changed by who stands here -/
def Ad.out (A : Ad) (a : Addr) : Prop := a ∉ A.mu ∧ a ∉ A.ga ∧ a ∉ A.cn
structure Car (A : Ad) (H : Hp) (A' : Ad) (H' : Hp) : Prop where
  kept : ∀ a o, H a = some o → A.out a → H' a = some o ∧ A'.out a
  tup : ∀ a vs, H a = some (.tup vs) → H' a = some (.tup vs)
  frz : ∀ a o u, H a = some (.frz o u) → H' a = some (.frz o u)
  mu : ∀ (k : Nat) (a : Addr), A.mu[k]? = some a → A'.mu[k]? = some a
  ga : ∀ (k : Nat) (a : Addr), A.ga[k]? = some a → A'.ga[k]? = some a
  bad : A'.bad = A.bad
structure Step (A : Ad) (H : Hp) (A' : Ad) (H' : Hp) : Prop extends Car A H A' H' where
  cn : A'.cn = A.cn
  cnk : ∀ a ∈ A.cn, H' a = H a
theorem Car.refl (A : Ad) (H : Hp) : Car A H A H := ⟨fun _ _ h a => ⟨h, a⟩, fun _ _ h => h, fun _ _ _ h => h, fun _ _ h => h, fun _ _ h => h, rfl⟩
theorem Step.refl (A : Ad) (H : Hp) : Step A H A H := ⟨Car.refl A H, rfl, fun _ _ => rfl⟩
theorem Car.trans {A A1 A2 : Ad} {H H1 H2 : Hp} (a : Car A H A1 H1) (b : Car A1 H1 A2 H2) : Car A H A2 H2 :=
  ⟨fun c o h x => let ⟨p, q⟩ := a.kept c o h x; b.kept c o p q, fun c vs h => b.tup c vs (a.tup c vs h), fun c o u h => b.frz c o u (a.frz c o u h),
    fun k c h => b.mu k c (a.mu k c h), fun k c h => b.ga k c (a.ga k c h), b.bad.trans a.bad⟩
theorem Step.trans {A A1 A2 : Ad} {H H1 H2 : Hp} (a : Step A H A1 H1) (b : Step A1 H1 A2 H2) : Step A H A2 H2 :=
  ⟨a.toCar.trans b.toCar, b.cn.trans a.cn, fun c h => (b.cnk c (by rw [a.cn]; exact h)).trans (a.cnk c h)⟩
section
variable {K : PySem.W.Frag} {H H' : Hp} {A A' : Ad}
theorem SqF.sq {a : Addr} {vs : List V} (h : SqF K H a vs) : SqL K H a vs := by
  rcases h with ⟨o, h⟩ | h
  · exact .inl (.inr ⟨o, h⟩)
  · rcases h with (h | ⟨o, h⟩) | h
    · cases h
    · cases h
    · exact .inr h
theorem SqT.step {a : Addr} {vs : List V} (s : Car A H A' H') (h : SqT K H a vs) : SqT K H' a vs := by
  rcases h with (h | ⟨o, h⟩) | h
  · exact .inl (.inl (s.tup _ _ h))
  · exact .inl (.inr ⟨o, s.frz _ _ _ h⟩)
  · exact .inr h
theorem SqF.step {a : Addr} {vs : List V} (s : Car A H A' H') (h : SqF K H a vs) : SqF K H' a vs := by
  rcases h with ⟨o, h⟩ | h
  · exact .inl ⟨o, s.frz _ _ _ h⟩
  · exact .inr h
mutual
theorem RD.step (s : Car A H A' H') : ∀ (d : D) (v : V), RD K H A d v → RD K H' A' d v
  | .non, _, h => h
  | .bl _, _, h => h
  | .int _, _, h => h
  | .str _, _, h => h
  | .tup ds, _, h => by
    obtain ⟨a, vs, e, q, r⟩ := h
    exact ⟨a, vs, e, SqT.step s q, RDs.step s ds vs r⟩
  | .lst ds, _, h => by
    obtain ⟨a, vs, e, q, x, z, r⟩ := h
    obtain ⟨q', x'⟩ := s.kept a _ q x
    exact ⟨a, vs, e, q', x', by rw [s.bad]; exact z, RDs.step s ds vs r⟩
  | .fl ds, _, h => by
    obtain ⟨a, vs, e, q, x, r⟩ := h
    obtain ⟨q', x'⟩ := s.kept a _ q x
    exact ⟨a, vs, e, q', x', RDs.step s ds vs r⟩
  | .sc ds, _, h => by
    obtain ⟨a, vs, e, q, r⟩ := h
    exact ⟨a, vs, e, SqF.step s q, RDs.step s ds vs r⟩
  | .ref k, _, h => by
    obtain ⟨a, e, q⟩ := h
    exact ⟨a, s.mu k a e, q⟩
  | .g k, _, h => by
    obtain ⟨a, e, q⟩ := h
    exact ⟨a, s.ga k a e, q⟩
  | .dic ks ds, _, h => by
    obtain ⟨a, kvs, e, q, x, z, y, r⟩ := h
    obtain ⟨q', x'⟩ := s.kept a _ q x
    exact ⟨a, kvs, e, q', x', by rw [s.bad]; exact z, y, RDs.step s ds _ r⟩
theorem RDs.step (s : Car A H A' H') : ∀ (ds : List D) (vs : List V), RDs K H A ds vs → RDs K H' A' ds vs
  | [], _, h => h
  | d :: ds, _, h => by
    obtain ⟨v, r, e, x, y⟩ := h
    exact ⟨v, r, e, RD.step s d v x, RDs.step s ds r y⟩
end
theorem RDs.length : ∀ {ds : List D} {vs : List V}, RDs K H A ds vs → vs.length = ds.length
  | [], _, h => by rw [show _ = [] from h]; rfl
  | d :: ds, _, h => by
    obtain ⟨v, r, e, x, y⟩ := h
    rw [e, List.length_cons, List.length_cons, RDs.length y]
theorem RDs.get : ∀ {ds : List D} {vs : List V} {k : Nat} {d : D}, RDs K H A ds vs → ds[k]? = some d → ∃ v, vs[k]? = some v ∧ RD K H A d v
  | [], _, _, _, _, e => by simp at e
  | x :: ds, _, 0, _, h, e => by
    obtain ⟨v, r, e', p, q⟩ := h
    subst e'
    have e2 : x = _ := Option.some.inj e
    subst e2
    exact ⟨v, rfl, p⟩
  | x :: ds, _, k + 1, _, h, e => by
    obtain ⟨v, r, e', p, q⟩ := h
    subst e'
    exact RDs.get (k := k) q (by simpa using e)
theorem RDs.append : ∀ {ds es : List D} {vs us : List V}, RDs K H A ds vs → RDs K H A es us → RDs K H A (ds ++ es) (vs ++ us)
  | [], _, _, _, h, q => by rw [show _ = [] from h]; exact q
  | d :: ds, _, _, _, h, q => by
    obtain ⟨v, r, e, x, y⟩ := h
    subst e
    exact ⟨v, r ++ _, rfl, x, RDs.append y q⟩
theorem RDs.drop : ∀ {ds : List D} {vs : List V} (n : Nat), RDs K H A ds vs → RDs K H A (ds.drop n) (vs.drop n)
  | _, _, 0, h => h
  | [], _, n + 1, h => by rw [show _ = [] from h]; exact (rfl : _ = _)
  | d :: ds, _, n + 1, h => by
    obtain ⟨v, r, e, x, y⟩ := h
    subst e
    exact RDs.drop n y
theorem RDs.take : ∀ {ds : List D} {vs : List V} (n : Nat), RDs K H A ds vs → RDs K H A (ds.take n) (vs.take n)
  | _, _, 0, h => (rfl : _ = _)
  | [], _, n + 1, h => by rw [show _ = [] from h]; exact (rfl : _ = _)
  | d :: ds, _, n + 1, h => by
    obtain ⟨v, r, e, x, y⟩ := h
    subst e
    exact ⟨v, _, rfl, x, RDs.take n y⟩
theorem RDs.one {d : D} {v : V} (h : RD K H A d v) : RDs K H A [d] [v] := ⟨v, [], rfl, h, rfl⟩
theorem RDs.reverse : ∀ {ds : List D} {vs : List V}, RDs K H A ds vs → RDs K H A ds.reverse vs.reverse
  | [], _, h => by rw [show _ = [] from h]; exact (rfl : _ = _)
  | d :: ds, _, h => by
    obtain ⟨v, r, e, x, y⟩ := h
    subst e
    rw [List.reverse_cons, List.reverse_cons]
    exact RDs.append (RDs.reverse y) (RDs.one x)
theorem RDs.set : ∀ {ds : List D} {vs : List V} (n : Nat) {d : D} {v : V}, RDs K H A ds vs → RD K H A d v → RDs K H A (ds.set n d) (vs.set n v)
  | [], _, n, _, _, h, q => by rw [show _ = [] from h]; exact (rfl : _ = _)
  | d :: ds, _, 0, _, _, h, q => by
    obtain ⟨v, r, e, x, y⟩ := h
    subst e
    exact ⟨_, r, rfl, q, y⟩
  | d :: ds, _, n + 1, _, _, h, q => by
    obtain ⟨v, r, e, x, y⟩ := h
    subst e
    exact ⟨v, _, rfl, x, RDs.set n y q⟩
theorem RDs.eraseIdx : ∀ {ds : List D} {vs : List V} (n : Nat), RDs K H A ds vs → RDs K H A (ds.eraseIdx n) (vs.eraseIdx n)
  | [], _, n, h => by rw [show _ = [] from h]; exact (rfl : _ = _)
  | d :: ds, _, 0, h => by
    obtain ⟨v, r, e, x, y⟩ := h
    subst e
    exact y
  | d :: ds, _, n + 1, h => by
    obtain ⟨v, r, e, x, y⟩ := h
    subst e
    exact ⟨v, _, rfl, x, RDs.eraseIdx n y⟩
theorem RDs.dropLast {ds : List D} {vs : List V} (h : RDs K H A ds vs) : RDs K H A ds.dropLast vs.dropLast := by
  rw [List.dropLast_eq_take, List.dropLast_eq_take, h.length]
  exact h.take _
theorem RDs.rep : ∀ (n : Nat) {ds : List D} {vs : List V}, RDs K H A ds vs → RDs K H A (List.replicate n ds).flatten (List.replicate n vs).flatten
  | 0, _, _, _ => (rfl : _ = _)
  | n + 1, _, _, h => by
    rw [List.replicate_succ, List.replicate_succ, List.flatten_cons, List.flatten_cons]
    exact RDs.append h (RDs.rep n h)
theorem RDs.cons_iff {d : D} {ds : List D} {v : V} {vs : List V} : RDs K H A (d :: ds) (v :: vs) ↔ RD K H A d v ∧ RDs K H A ds vs := by
  constructor
  · rintro ⟨v', r, e, x, y⟩
    cases e
    exact ⟨x, y⟩
  · rintro ⟨x, y⟩
    exact ⟨v, vs, rfl, x, y⟩
theorem RDs.cutD {ds : List D} {vs : List V} (lo hi : Option Int) (h : RDs K H A ds vs) : RDs K H A (cut ds lo hi) (cutV vs lo hi) := by
  unfold cut cutV
  rw [h.length]
  exact (h.drop _).take _
theorem RDs.ints : ∀ {ds : List D} {vs : List V} {ns : List Int}, RDs K H A ds vs → intD ds = some ns → vs = ns.map V.int
  | [], _, ns, h, e => by
    rw [show _ = [] from h]
    cases e
    rfl
  | d :: ds, _, ns, h, e => by
    obtain ⟨v, r, e', x, y⟩ := h
    subst e'
    cases d with
    | int i =>
      simp only [intD, Option.map_eq_some_iff] at e
      obtain ⟨is, e1, rfl⟩ := e
      rw [RDs.ints y e1, show v = .int i from x]
      rfl
    | _ => simp [intD] at e
theorem RDs.bools : ∀ {ds : List D} {vs : List V} {ns : List Bool}, RDs K H A ds vs → boolD ds = some ns → vs = ns.map V.bl
  | [], _, ns, h, e => by
    rw [show _ = [] from h]
    cases e
    rfl
  | d :: ds, _, ns, h, e => by
    obtain ⟨v, r, e', x, y⟩ := h
    subst e'
    cases d with
    | bl i =>
      simp only [boolD, Option.map_eq_some_iff] at e
      obtain ⟨is, e1, rfl⟩ := e
      rw [RDs.bools y e1, show v = .bl i from x]
      rfl
    | _ => simp [boolD] at e
end

/-! ### mutable lists -/
def RL (K : PySem.W.Frag) (H : Hp) (A : Ad) : List Addr → List (List D) → Prop
  | [], ms => ms = []
  | a :: as, ms => ∃ xs r vs, ms = xs :: r ∧ H a = some (.lst vs) ∧ RDs K H A xs vs ∧ RL K H A as r
section
variable {K : PySem.W.Frag} {H H' : Hp} {A A' : Ad}
theorem RL.length : ∀ {as : List Addr} {ms : List (List D)}, RL K H A as ms → ms.length = as.length
  | [], _, h => by rw [show _ = [] from h]; rfl
  | a :: as, _, h => by
    obtain ⟨xs, r, vs, e, x, y, z⟩ := h
    rw [e, List.length_cons, List.length_cons, RL.length z]
theorem RL.get : ∀ {as : List Addr} {ms : List (List D)} {k : Nat} {a : Addr}, RL K H A as ms → as[k]? = some a → ∃ xs vs, ms[k]? = some xs ∧ H a = some (.lst vs) ∧ RDs K H A xs vs
  | [], _, _, _, _, e => by simp at e
  | a :: as, _, 0, _, h, e => by
    obtain ⟨xs, r, vs, e', x, y, z⟩ := h
    subst e'
    have e2 : a = _ := Option.some.inj e
    subst e2
    exact ⟨xs, vs, rfl, x, y⟩
  | a :: as, _, k + 1, _, h, e => by
    obtain ⟨xs, r, vs, e', x, y, z⟩ := h
    subst e'
    exact RL.get (k := k) z (by simpa using e)
theorem RL.tracked : ∀ {as : List Addr} {ms : List (List D)} {a : Addr}, RL K H A as ms → a ∈ as → ∃ vs, H a = some (.lst vs)
  | [], _, _, _, e => by simp at e
  | b :: as, _, a, h, e => by
    obtain ⟨xs, r, vs, e', x, y, z⟩ := h
    rcases List.mem_cons.mp e with rfl | e
    · exact ⟨vs, x⟩
    · exact RL.tracked z e
/-- the lists at as stand; what they hold is carried over -/
theorem RL.carry (c : ∀ xs vs, RDs K H A xs vs → RDs K H' A' xs vs) : ∀ {as : List Addr} {ms : List (List D)}, (∀ a ∈ as, ∀ vs, H a = some (.lst vs) → H' a = some (.lst vs)) → RL K H A as ms → RL K H' A' as ms
  | [], _, _, h => h
  | a :: as, _, k, h => by
    obtain ⟨xs, r, vs, e, x, y, z⟩ := h
    exact ⟨xs, r, vs, e, k a List.mem_cons_self vs x, c _ _ y, RL.carry c (fun b hb => k b (List.mem_cons_of_mem _ hb)) z⟩
theorem RL.append : ∀ {as bs : List Addr} {ms ns : List (List D)}, RL K H A as ms → RL K H A bs ns → RL K H A (as ++ bs) (ms ++ ns)
  | [], _, _, _, h, q => by rw [show _ = [] from h]; exact q
  | a :: as, _, _, _, h, q => by
    obtain ⟨xs, r, vs, e, x, y, z⟩ := h
    subst e
    exact ⟨xs, r ++ _, vs, rfl, x, y, RL.append z q⟩
/-- one list is stored anew -/
theorem RL.store {a : Addr} {vs : List V} {xs : List D} (c : ∀ xs vs, RDs K H A xs vs → RDs K (upd H a (.lst vs)) A xs vs) (cx : ∀ ys us, RDs K H A ys us → RDs K (upd H a (.lst vs)) A ys us) (hx : RDs K H A xs vs) :
    ∀ {as : List Addr} {ms : List (List D)} {k : Nat}, as.Nodup → RL K H A as ms → as[k]? = some a → RL K (upd H a (.lst vs)) A as (ms.set k xs)
  | [], _, _, _, _, e => by simp at e
  | b :: as, _, 0, nd, h, e => by
    obtain ⟨ys, r, us, e', x, y, z⟩ := h
    subst e'
    have e2 : b = a := Option.some.inj e
    subst e2
    refine ⟨xs, r, vs, rfl, upd_same, cx _ _ hx, RL.carry cx (fun c hc ws q => ?_) z⟩
    rw [upd_ne (show c ≠ b from fun z => (List.nodup_cons.mp nd).1 (z ▸ hc))]
    exact q
  | b :: as, _, k + 1, nd, h, e => by
    obtain ⟨ys, r, us, e', x, y, z⟩ := h
    subst e'
    have e2 : as[k]? = some a := by simpa using e
    have hm : a ∈ as := List.mem_of_getElem? e2
    refine ⟨ys, _, us, rfl, ?_, cx _ _ y, RL.store c cx hx (List.nodup_cons.mp nd).2 z e2⟩
    rw [upd_ne (show b ≠ a from fun z => (List.nodup_cons.mp nd).1 (z.symm ▸ hm))]
    exact x
end

/-- the evaluator's state and the slots with their heap -/
structure Sim (K : PySem.W.Frag) (H : Hp) (A : Ad) (w : Wd) (σ : L2.St) : Prop where
  loc : ∀ (i : Nat) (d : D), w.σ[i]? = some (some d) → ∃ v, σ[i]? = some (some v) ∧ RD K H A d v
  len : w.σ.length = σ.length
  mu : RL K H A A.mu w.m
  ga : RL K H A A.ga w.g
  nd : A.mu.Nodup
  ndg : A.ga.Nodup
  dj : ∀ a ∈ A.mu, a ∉ A.ga ∧ a ∉ A.bad
  djg : ∀ a ∈ A.bad, a ∉ A.ga
  bt : ∀ a ∈ A.bad, ∃ o, H a = some o
  cnt : ∀ a ∈ A.cn, ∃ vs, H a = some (.lst vs)
  cnd : ∀ a ∈ A.cn, a ∉ A.mu ∧ a ∉ A.ga ∧ a ∉ A.bad
  gk : ∀ xs ∈ w.g, xs.all gOk = true
section
variable {K : PySem.W.Frag} {H H' : Hp} {A A' : Ad} {w : Wd} {σ : L2.St}
theorem Sim.fresh (S : Sim K H A w σ) {p : Addr} (hp : H p = none) : A.out p ∧ p ∉ A.bad := by
  refine ⟨⟨fun h => ?_, fun h => ?_, fun h => ?_⟩, fun h => ?_⟩
  · obtain ⟨vs, e⟩ := S.mu.tracked h
    rw [hp] at e
    cases e
  · obtain ⟨vs, e⟩ := S.ga.tracked h
    rw [hp] at e
    cases e
  · obtain ⟨vs, e⟩ := S.cnt p h
    rw [hp] at e
    cases e
  · obtain ⟨o, e⟩ := S.bt p h
    rw [hp] at e
    cases e
/-- what a value's sequence is -/
theorem Sim.seq (S : Sim K H A w σ) {d : D} {v : V} {xs : List D} (r : RD K H A d v) (e : w.seq d = some xs) :
    ∃ a vs, v = .ref a ∧ RDs K H A xs vs ∧ ((isT d = true ∧ SqT K H a vs) ∨ (isT d = false ∧ SqL K H a vs)) := by
  cases d with
  | tup ds =>
    obtain ⟨a, vs, rfl, q, h⟩ := r
    cases e
    exact ⟨a, vs, rfl, h, .inl ⟨rfl, q⟩⟩
  | lst ds =>
    obtain ⟨a, vs, rfl, q, _, _, h⟩ := r
    cases e
    exact ⟨a, vs, rfl, h, .inr ⟨rfl, SqL.of q⟩⟩
  | fl ds =>
    obtain ⟨a, vs, rfl, q, _, h⟩ := r
    cases e
    exact ⟨a, vs, rfl, h, .inr ⟨rfl, SqL.of q⟩⟩
  | sc ds =>
    obtain ⟨a, vs, rfl, q, h⟩ := r
    cases e
    exact ⟨a, vs, rfl, h, .inr ⟨rfl, q.sq⟩⟩
  | ref k =>
    obtain ⟨a, q, rfl⟩ := r
    obtain ⟨ys, vs, e1, e2, e3⟩ := S.mu.get q
    have e' : w.m[k]? = some xs := e
    rw [e1] at e'
    cases e'
    exact ⟨a, vs, rfl, e3, .inr ⟨rfl, SqL.of e2⟩⟩
  | g k =>
    obtain ⟨a, q, rfl⟩ := r
    obtain ⟨ys, vs, e1, e2, e3⟩ := S.ga.get q
    have e' : w.g[k]? = some xs := e
    rw [e1] at e'
    cases e'
    exact ⟨a, vs, rfl, e3, .inr ⟨rfl, SqL.of e2⟩⟩
  | _ => cases e
/-- a tracked list -/
theorem Sim.lst (S : Sim K H A w σ) {d : D} {v : V} {xs : List D} (r : RD K H A d v) (l : isL d = true) (e : w.seq d = some xs) :
    ∃ a vs, v = .ref a ∧ RDs K H A xs vs ∧ H a = some (.lst vs) := by
  cases d with
  | lst ds =>
    obtain ⟨a, vs, rfl, q, _, _, h⟩ := r
    cases e
    exact ⟨a, vs, rfl, h, q⟩
  | fl ds =>
    obtain ⟨a, vs, rfl, q, _, h⟩ := r
    cases e
    exact ⟨a, vs, rfl, h, q⟩
  | ref k =>
    obtain ⟨a, q, rfl⟩ := r
    obtain ⟨ys, vs, e1, e2, e3⟩ := S.mu.get q
    have e' : w.m[k]? = some xs := e
    rw [e1] at e'
    cases e'
    exact ⟨a, vs, rfl, e3, e2⟩
  | g k =>
    obtain ⟨a, q, rfl⟩ := r
    obtain ⟨ys, vs, e1, e2, e3⟩ := S.ga.get q
    have e' : w.g[k]? = some xs := e
    rw [e1] at e'
    cases e'
    exact ⟨a, vs, rfl, e3, e2⟩
  | _ => cases l
theorem upd_some {p a : Addr} {o u : HO} (hp : H p = none) (h : H a = some u) : upd H p o a = some u := by
  rw [upd_ne (ne_of_none h hp)]
  exact h
/-- a new object that is no own list -/
theorem Step.new {p : Addr} {o : HO} (hp : H p = none) (hc : p ∉ A.cn) : Step A H A (upd H p o) :=
  ⟨⟨fun a u h x => ⟨upd_some hp h, x⟩, fun a vs h => upd_some hp h, fun a o u h => upd_some hp h, fun _ _ h => h, fun _ _ h => h, rfl⟩, rfl, fun a h => upd_ne (fun z => hc (z ▸ h))⟩
/-- the state is carried over a step that changes no own list -/
theorem Sim.carry (S : Sim K H A w σ) (s : Step A H A H') (k : ∀ a vs, H a = some (.lst vs) → H' a = some (.lst vs)) : Sim K H' A w σ where
  loc := fun i d e => let ⟨v, e1, r⟩ := S.loc i d e; ⟨v, e1, r.step s.toCar d v⟩
  len := S.len
  mu := RL.carry (fun xs vs h => h.step s.toCar) (fun a _ vs h => k a vs h) S.mu
  ga := RL.carry (fun xs vs h => h.step s.toCar) (fun a _ vs h => k a vs h) S.ga
  nd := S.nd
  ndg := S.ndg
  dj := S.dj
  djg := S.djg
  bt := fun a h => let ⟨o, e⟩ := S.bt a h; ⟨o, (s.kept a o e ⟨fun z => (S.dj a z).2 h, S.djg a h, fun z => (S.cnd a z).2.2 h⟩).1⟩
  cnt := fun a h => let ⟨vs, e⟩ := S.cnt a h; ⟨vs, k a vs e⟩
  cnd := S.cnd
  gk := S.gk
theorem Sim.new (S : Sim K H A w σ) {p : Addr} {o : HO} (hp : H p = none) : Sim K (upd H p o) A w σ := S.carry (Step.new hp (S.fresh hp).1.2.2) fun a vs h => upd_some hp h
theorem nodup_snoc {l : List Addr} {p : Addr} (h : l.Nodup) (hp : p ∉ l) : (l ++ [p]).Nodup := by
  rw [List.nodup_append]
  refine ⟨h, by simp, fun a ha b hb => ?_⟩
  have e : b = p := by simpa using hb
  subst e
  exact fun z => hp (z ▸ ha)
theorem not_snoc {l : List Addr} {p a : Addr} (h : a ∉ l) (hp : a ≠ p) : a ∉ l ++ [p] := fun z => by
  rcases List.mem_append.mp z with z | z
  · exact h z
  · exact hp (by simpa using z)
theorem get_snoc {α : Type} {l : List α} {k : Nat} {a x : α} (h : l[k]? = some a) : (l ++ [x])[k]? = some a := by
  obtain ⟨hk, e⟩ := List.getElem?_eq_some_iff.mp h
  rw [List.getElem?_append_left hk]
  exact h
/-- a new list, as it is asked for -/
theorem newL_ok {md : Nat} {xs : List D} {vs : List V} {d : D} {w' : Wd} (e : newL md xs w = .ok (d, w')) (S : Sim K H A w σ) (r : RDs K H A xs vs) :
    vs.length ≤ sizeLine ∧ ∀ p, H p = none → ∃ A', Step A H A' (upd H p (.lst vs)) ∧ Sim K (upd H p (.lst vs)) A' w' σ ∧ RD K (upd H p (.lst vs)) A' d (.ref p) := by
  unfold newL at e
  by_cases hl : xs.length ≤ mxLen
  · rw [if_pos hl] at e
    refine ⟨Nat.le_trans (by rw [r.length]; exact hl) (by decide), fun p hp => ?_⟩
    obtain ⟨⟨f1, f2, f4⟩, f3⟩ := S.fresh hp
    have s0 : Step A H A (upd H p (.lst vs)) := Step.new hp f4
    have S0 := S.new (o := .lst vs) hp
    match md, e with
    | 0, e =>
      cases e
      exact ⟨A, s0, S0, p, vs, rfl, upd_same, ⟨f1, f2, f4⟩, f3, r.step s0.toCar⟩
    | 1, e =>
      cases e
      have s1 : Step A H { A with mu := A.mu ++ [p] } (upd H p (.lst vs)) := ⟨⟨fun a u h x => ⟨upd_some hp h, not_snoc x.1 (fun e => by subst e; rw [hp] at h; cases h), x.2⟩, s0.tup, s0.frz, fun k a h => get_snoc h, fun _ _ h => h, rfl⟩, rfl, s0.cnk⟩
      refine ⟨_, s1, ⟨fun i d e => let ⟨v, e1, r⟩ := S.loc i d e; ⟨v, e1, r.step s1.toCar d v⟩, S.len, ?_, RL.carry (fun xs vs h => h.step s1.toCar) (fun a _ vs h => upd_some hp h) S.ga, nodup_snoc S.nd f1, S.ndg, fun a ha => ?_, S.djg, S0.bt, S0.cnt,
        fun a ha => ⟨not_snoc (S.cnd a ha).1 (fun e => f4 (e ▸ ha)), (S.cnd a ha).2⟩, S.gk⟩, p, ?_, rfl⟩
      · exact RL.append (RL.carry (fun xs vs h => h.step s1.toCar) (fun a _ vs h => upd_some hp h) S.mu) ⟨xs, [], vs, rfl, upd_same, r.step s1.toCar, rfl⟩
      · rcases List.mem_append.mp ha with z | z
        · exact S.dj a z
        · have e : a = p := by simpa using z
          subst e
          exact ⟨f2, f3⟩
      · show (A.mu ++ [p])[w.m.length]? = some p
        rw [S.mu.length]
        simp
    | n + 2, e =>
      have e : (if xs.all gOk then R.ok (D.g w.g.length, { w with g := w.g ++ [xs] }) else R.err) = .ok (d, w') := e
      split at e
      case isFalse => cases e
      rename_i hg
      cases e
      have s1 : Step A H { A with ga := A.ga ++ [p] } (upd H p (.lst vs)) := ⟨⟨fun a u h x => ⟨upd_some hp h, x.1, not_snoc x.2.1 (fun e => by subst e; rw [hp] at h; cases h), x.2.2⟩, s0.tup, s0.frz, fun _ _ h => h, fun k a h => get_snoc h, rfl⟩, rfl, s0.cnk⟩
      refine ⟨_, s1, ⟨fun i d e => let ⟨v, e1, r⟩ := S.loc i d e; ⟨v, e1, r.step s1.toCar d v⟩, S.len, RL.carry (fun xs vs h => h.step s1.toCar) (fun a _ vs h => upd_some hp h) S.mu, ?_, S.nd, nodup_snoc S.ndg f2, fun a ha => ⟨fun z => ?_, (S.dj a ha).2⟩, fun a ha z => ?_, S0.bt, S0.cnt,
        fun a ha => ⟨(S.cnd a ha).1, not_snoc (S.cnd a ha).2.1 (fun e => f4 (e ▸ ha)), (S.cnd a ha).2.2⟩, fun ys hy => (List.mem_append.mp hy).elim (S.gk ys) fun z => (by simpa using z : ys = xs) ▸ hg⟩, p, ?_, rfl⟩
      · exact RL.append (RL.carry (fun xs vs h => h.step s1.toCar) (fun a _ vs h => upd_some hp h) S.ga) ⟨xs, [], vs, rfl, upd_same, r.step s1.toCar, rfl⟩
      · rcases List.mem_append.mp z with z | z
        · exact (S.dj a ha).1 z
        · have e : a = p := by simpa using z
          subst e
          exact f1 ha
      · rcases List.mem_append.mp z with z | z
        · exact S.djg a ha z
        · have e : a = p := by simpa using z
          subst e
          exact f3 ha
      · show (A.ga ++ [p])[w.g.length]? = some p
        rw [S.ga.length]
        simp
  · rw [if_neg hl] at e
    cases e
theorem newT_ok {xs : List D} {vs : List V} {d : D} {w' : Wd} (e : newT xs w = .ok (d, w')) (r : RDs K H A xs vs) :
    w' = w ∧ d = .tup xs ∧ vs.length ≤ sizeLine := by
  unfold newT at e
  by_cases hl : xs.length ≤ mxLen
  · rw [if_pos hl] at e
    cases e
    exact ⟨rfl, rfl, Nat.le_trans (by rw [r.length]; exact hl) (by decide)⟩
  · rw [if_neg hl] at e
    cases e
theorem RD.newT {p : Addr} {xs : List D} {vs : List V} (hp : H p = none) (hc : p ∉ A.cn) (r : RDs K H A xs vs) : RD K (upd H p (.tup vs)) A (.tup xs) (.ref p) :=
  ⟨p, vs, rfl, .inl (.inl upd_same), r.step (Step.new hp hc).toCar⟩
/-- an own list is changed -/
theorem Car.store {a : Addr} {us vs : List V} (ha : a ∈ A.mu ∨ a ∈ A.ga ∨ a ∈ A.cn) (h : H a = some (.lst us)) : Car A H A (upd H a (.lst vs)) := by
  refine ⟨fun b o q x => ⟨?_, x⟩, fun b ws q => ?_, fun b o u q => ?_, fun _ _ q => q, fun _ _ q => q, rfl⟩
  · rw [upd_ne (fun z => by subst z; rcases ha with z | z | z; exact x.1 z; exact x.2.1 z; exact x.2.2 z)]
    exact q
  · rw [upd_ne (ne_of q h (fun z => by cases z))]
    exact q
  · rw [upd_ne (ne_of q h (fun z => by cases z))]
    exact q
theorem Step.store {a : Addr} {us vs : List V} (ha : a ∈ A.mu ∨ a ∈ A.ga) (h : H a = some (.lst us)) (hc : ∀ b ∈ A.cn, b ∉ A.mu ∧ b ∉ A.ga) : Step A H A (upd H a (.lst vs)) :=
  ⟨Car.store (ha.elim (fun z => .inl z) fun z => .inr (.inl z)) h, rfl, fun b hb => upd_ne (fun z => by subst z; rcases ha with z | z; exact (hc _ hb).1 z; exact (hc _ hb).2 z)⟩
theorem put_ok {d : D} {v : V} {xs : List D} {w' : Wd} (e : w.put d xs = some w') (S : Sim K H A w σ) (r : RD K H A d v) :
    ∃ a us ys, v = .ref a ∧ H a = some (.lst us) ∧ w.seq d = some ys ∧ RDs K H A ys us ∧ ∀ vs, RDs K H A xs vs → Step A H A (upd H a (.lst vs)) ∧ Sim K (upd H a (.lst vs)) A w' σ := by
  cases d with
  | ref k =>
    unfold Wd.put at e
    obtain ⟨a, q, rfl⟩ := r
    obtain ⟨ys, us, e1, e2, e3⟩ := S.mu.get q
    have hm := List.mem_of_getElem? q
    by_cases hk : k < w.m.length
    · simp only [if_pos hk, Option.some.injEq] at e
      subst e
      refine ⟨a, us, ys, rfl, e2, e1, e3, fun vs hx => ?_⟩
      have s : Step A H A (upd H a (.lst vs)) := Step.store (.inl hm) e2 (fun b hb => ⟨(S.cnd b hb).1, (S.cnd b hb).2.1⟩)
      refine ⟨s, ⟨fun i d e => let ⟨v, e1, r⟩ := S.loc i d e; ⟨v, e1, r.step s.toCar d v⟩, S.len, RL.store (fun _ _ h => ?_) (fun _ _ h => h.step s.toCar) hx S.nd S.mu q, RL.carry (fun xs vs h => h.step s.toCar) (fun b hb ws h => ?_) S.ga, S.nd, S.ndg, S.dj, S.djg, fun b hb => ?_, fun b hb => ?_, S.cnd, S.gk⟩⟩
      · exact h.step (Car.store (.inl hm) e2)
      · rw [upd_ne (fun z => by subst z; exact (S.dj _ hm).1 hb)]
        exact h
      · obtain ⟨o, h⟩ := S.bt b hb
        refine ⟨o, ?_⟩
        rw [upd_ne (fun z => by subst z; exact (S.dj _ hm).2 hb)]
        exact h
      · obtain ⟨ws, h⟩ := S.cnt b hb
        refine ⟨ws, ?_⟩
        rw [upd_ne (fun z => by subst z; exact (S.cnd _ hb).1 hm)]
        exact h
    · simp only [if_neg hk] at e
      cases e
  | g k =>
    unfold Wd.put at e
    obtain ⟨a, q, rfl⟩ := r
    obtain ⟨ys, us, e1, e2, e3⟩ := S.ga.get q
    have hm := List.mem_of_getElem? q
    by_cases hk : k < w.g.length ∧ xs.all gOk = true
    · simp only [if_pos hk, Option.some.injEq] at e
      subst e
      refine ⟨a, us, ys, rfl, e2, e1, e3, fun vs hx => ?_⟩
      have s : Step A H A (upd H a (.lst vs)) := Step.store (.inr hm) e2 (fun b hb => ⟨(S.cnd b hb).1, (S.cnd b hb).2.1⟩)
      refine ⟨s, ⟨fun i d e => let ⟨v, e1, r⟩ := S.loc i d e; ⟨v, e1, r.step s.toCar d v⟩, S.len, RL.carry (fun xs vs h => h.step s.toCar) (fun b hb ws h => ?_) S.mu, RL.store (fun _ _ h => ?_) (fun _ _ h => h.step s.toCar) hx S.ndg S.ga q, S.nd, S.ndg, S.dj, S.djg, fun b hb => ?_, fun b hb => ?_, S.cnd, fun ys hy => (List.mem_or_eq_of_mem_set hy).elim (S.gk ys) fun z => z ▸ hk.2⟩⟩
      · rw [upd_ne (fun z => by subst z; exact (S.dj _ hb).1 hm)]
        exact h
      · exact h.step (Car.store (.inr (.inl hm)) e2)
      · obtain ⟨o, h⟩ := S.bt b hb
        refine ⟨o, ?_⟩
        rw [upd_ne (fun z => by subst z; exact S.djg _ hb hm)]
        exact h
      · obtain ⟨ws, h⟩ := S.cnt b hb
        refine ⟨ws, ?_⟩
        rw [upd_ne (fun z => by subst z; exact (S.cnd _ hb).2.1 hm)]
        exact h
    · simp only [if_neg hk] at e
      cases e
  | _ => cases e
end
end Fz

/-! Q4: operators, built-ins, methods upon data. -/
namespace Fz
open PySem PySem.Spec PyProof.Rows L2

/-! ### readings -/
abbrev Sl := L2.St
/-- what is wanted behind an expression -/
def Aft (K : PySem.W.Frag) (A : Ad) (H : Hp) (σ : Sl) (d : D) (w' : Wd) (Q : VK) : Prop := ∀ A' v H', Step A H A' H' → Sim K H' A' w' σ → RD K H' A' d v → Q v H'
def rd (K : PySem.W.Frag) (f : Wd → R (D × Wd)) : TE := fun σ H Q => ∃ A w, Sim K H A w σ ∧ ∃ d w', f w = .ok (d, w') ∧ Aft K A H σ d w' Q
def rdA (K : PySem.W.Frag) (f : Wd → R (List D × Wd)) : TA := fun σ H Q => ∃ A w, Sim K H A w σ ∧ ∃ ds w', f w = .ok (ds, w') ∧ ∀ A' vs H', Step A H A' H' → Sim K H' A' w' σ → RDs K H' A' ds vs → Q vs H'
def rdT (K : PySem.W.Frag) (f : Wd → R (Bool × Wd)) : TT := fun σ H Q => ∃ A w, Sim K H A w σ ∧ ∃ b w', f w = .ok (b, w') ∧ ∀ A' H', Step A H A' H' → Sim K H' A' w' σ → Q b H'
theorem PEimp {X : Cx} {e : Expr} {t t' : TE} (h : PE X e t) (i : ∀ σ H Q, t' σ H Q → t σ H Q) : PE X e t' := ⟨fun pins s σ H Q I q => h.run pins s σ H Q I (i σ H Q q)⟩
theorem PTimp {X : Cx} {e : Expr} {t t' : TT} (h : PT X e t) (i : ∀ σ H Q, t' σ H Q → t σ H Q) : PT X e t' := ⟨fun pins s σ H Q I q => h.run pins s σ H Q I (i σ H Q q)⟩
theorem PAimp {X : Cx} {e : List Expr} {t t' : TA} (h : PA X e t) (i : ∀ σ H Q, t' σ H Q → t σ H Q) : PA X e t' := ⟨fun pos pins s σ H Q I q => h.run pos pins s σ H Q I (i σ H Q q)⟩
theorem bd_split {α β : Type} {r : R α} {f : α → R β} {b : β} (h : r.bd f = .ok b) : ∃ a, r = .ok a ∧ f a = .ok b := by
  cases r with
  | ok a => exact ⟨a, rfl, h⟩
  | exc c ds => cases h
  | err => cases h
theorem of_split {α : Type} {o : Option α} {a : α} (h : R.of o = .ok a) : o = some a := by
  cases o with
  | none => cases h
  | some b => cases h; rfl
section
variable {K : PySem.W.Frag} {H H' : Hp} {A A' : Ad} {w w' : Wd} {σ : Sl} {Q : VK}
/-- an unchanged state -/
theorem Aft.here {d : D} {v : V} (q : Aft K A H σ d w Q) (S : Sim K H A w σ) (r : RD K H A d v) : Q v H := q A v H (Step.refl A H) S r
theorem Aft.step {d : D} {A1 : Ad} {H1 : Hp} (q : Aft K A H σ d w' Q) (s : Step A H A1 H1) : Aft K A1 H1 σ d w' Q := fun A' v H' s' S r => q A' v H' (s.trans s') S r
/-- a new list, tuple -/
theorem Aft.newL {md : Nat} {xs : List D} {vs : List V} {d : D} (e : newL md xs w = .ok (d, w')) (S : Sim K H A w σ) (r : RDs K H A xs vs) (q : Aft K A H σ d w' Q) :
    vs.length ≤ sizeLine ∧ ∀ p, H p = none → Q (.ref p) (upd H p (.lst vs)) :=
  let ⟨h1, h2⟩ := newL_ok e S r
  ⟨h1, fun p hp => let ⟨A', s, S', r'⟩ := h2 p hp; q A' _ _ s S' r'⟩
theorem Aft.newT {xs : List D} {vs : List V} {d : D} (e : newT xs w = .ok (d, w')) (S : Sim K H A w σ) (r : RDs K H A xs vs) (q : Aft K A H σ d w' Q) :
    vs.length ≤ sizeLine ∧ ∀ p, H p = none → Q (.ref p) (upd H p (.tup vs)) := by
  obtain ⟨rfl, rfl, h⟩ := newT_ok e r
  exact ⟨h, fun p hp => q A _ _ (Step.new hp (S.fresh hp).1.2.2) (S.new hp) (RD.newT hp (S.fresh hp).1.2.2 r)⟩
end

theorem len0 (n : Nat) : (n != 0) = ((n : Int) != 0) := by
  cases n with
  | zero => rfl
  | succ n =>
    rw [show (n + 1 != 0) = true from rfl]
    symm
    simp only [bne_iff_ne, ne_eq]
    omega
/-! ### the model's data -/
section
variable {K : PySem.W.Frag} {H : Hp} {A : Ad}
mutual
theorem py_dp {ρ γ : Nat → Option PyData} (hρ : ∀ (k : Nat) a p, ρ k = some p → A.mu[k]? = some a → Dp K H (.ref a) p) (hγ : ∀ (k : Nat) a p, γ k = some p → A.ga[k]? = some a → Dp K H (.ref a) p) :
    ∀ (d : D) (v : V) (p : PyData), Fz.py ρ γ d = some p → RD K H A d v → Dp K H v p
  | .non, _, _, e, h => by cases e; rw [show _ = _ from h]; exact .non
  | .bl b, _, _, e, h => by cases e; rw [show _ = _ from h]; exact .bl b
  | .int b, _, _, e, h => by cases e; rw [show _ = _ from h]; exact .int b
  | .str b, _, _, e, h => by cases e; rw [show _ = _ from h]; exact .str b
  | .tup ds, _, _, e, h => by
    obtain ⟨a, vs, rfl, q, r⟩ := h
    simp only [Fz.py, Option.map_eq_some_iff] at e
    obtain ⟨ps, e1, rfl⟩ := e
    exact .tup q (pyL_dp hρ hγ ds vs ps e1 r)
  | .lst ds, _, _, e, h => by
    obtain ⟨a, vs, rfl, q, _, _, r⟩ := h
    simp only [Fz.py, Option.map_eq_some_iff] at e
    obtain ⟨ps, e1, rfl⟩ := e
    exact .lst (SqL.of q) (pyL_dp hρ hγ ds vs ps e1 r)
  | .fl ds, _, _, e, h => by
    obtain ⟨a, vs, rfl, q, _, r⟩ := h
    simp only [Fz.py, Option.map_eq_some_iff] at e
    obtain ⟨ps, e1, rfl⟩ := e
    exact .lst (SqL.of q) (pyL_dp hρ hγ ds vs ps e1 r)
  | .sc ds, _, _, e, h => by
    obtain ⟨a, vs, rfl, q, r⟩ := h
    simp only [Fz.py, Option.map_eq_some_iff] at e
    obtain ⟨ps, e1, rfl⟩ := e
    exact .lst q.sq (pyL_dp hρ hγ ds vs ps e1 r)
  | .ref k, _, p, e, h => by
    obtain ⟨a, q, rfl⟩ := h
    exact hρ k a p e q
  | .g k, _, p, e, h => by
    obtain ⟨a, q, rfl⟩ := h
    exact hγ k a p e q
theorem pyL_dp {ρ γ : Nat → Option PyData} (hρ : ∀ (k : Nat) a p, ρ k = some p → A.mu[k]? = some a → Dp K H (.ref a) p) (hγ : ∀ (k : Nat) a p, γ k = some p → A.ga[k]? = some a → Dp K H (.ref a) p) :
    ∀ (ds : List D) (vs : List V) (ps : List PyData), pyL ρ γ ds = some ps → RDs K H A ds vs → DpAll K H vs ps
  | [], _, _, e, h => by cases e; rw [show _ = [] from h]; exact .nil
  | d :: ds, _, _, e, h => by
    obtain ⟨v, r, rfl, x, y⟩ := h
    simp only [pyL, Option.bind_eq_some_iff, Option.map_eq_some_iff] at e
    obtain ⟨p, e1, ps, e2, rfl⟩ := e
    exact .cons (py_dp hρ hγ d v p e1 x) (pyL_dp hρ hγ ds r ps e2 y)
end
theorem pyR_dp {w : Wd} {σ : Sl} (S : Sim K H A w σ) : ∀ (n : Nat) (b : Bool) (k : Nat) a p, pyR w n b k = some p → (if b then A.mu else A.ga)[k]? = some a → Dp K H (.ref a) p
  | 0, _, _, _, _, e, _ => by cases e
  | n + 1, b, k, a, p, e, h => by
    simp only [pyR, Option.bind_eq_some_iff, Option.map_eq_some_iff] at e
    obtain ⟨ds, e1, ps, e2, rfl⟩ := e
    have hl : ∃ vs, H a = some (.lst vs) ∧ RDs K H A ds vs := by
      cases b with
      | true =>
        obtain ⟨ys, vs, q1, q2, q3⟩ := S.mu.get h
        rw [if_pos rfl, q1] at e1
        cases e1
        exact ⟨vs, q2, q3⟩
      | false =>
        obtain ⟨ys, vs, q1, q2, q3⟩ := S.ga.get h
        rw [if_neg Bool.false_ne_true, q1] at e1
        cases e1
        exact ⟨vs, q2, q3⟩
    obtain ⟨vs, q, r⟩ := hl
    exact .lst (SqL.of q) (pyL_dp (fun k a p e h => pyR_dp S n true k a p e h) (fun k a p e h => pyR_dp S n false k a p e h) ds vs ps e2 r)
theorem Sim.dp {w : Wd} {σ : Sl} (S : Sim K H A w σ) {d : D} {v : V} {p : PyData} (e : w.py d = some p) (r : RD K H A d v) : Dp K H v p :=
  py_dp (fun k a p e h => pyR_dp S 4 true k a p e h) (fun k a p e h => pyR_dp S 4 false k a p e h) d v p e r
/-- truth -/
theorem Sim.tru {w : Wd} {σ : Sl} (S : Sim K H A w σ) {d : D} {v : V} {b : Bool} (e : w.tru d = some b) (r : RD K H A d v) : TruV K v H b := by
  have sq : ∀ {xs : List D}, w.seq d = some xs → b = !xs.isEmpty → TruV K v H b := fun {xs} e1 e2 => by
    obtain ⟨a, vs, rfl, rs, h⟩ := S.seq r e1
    have hb : b = !vs.isEmpty := by
      rw [e2]
      have hl := rs.length
      cases vs <;> cases xs <;> simp_all
    rcases h with ⟨_, h⟩ | ⟨_, h⟩
    · exact .inr (.inl ⟨vs, h, hb⟩)
    · exact .inl ⟨vs, h, hb⟩
  have go : (w.seq d).map (fun xs => !xs.isEmpty) = some b → TruV K v H b := fun e => by
    obtain ⟨xs, e1, e2⟩ := Option.map_eq_some_iff.mp e
    exact sq e1 e2.symm
  cases d with
  | non => cases e; rw [show v = .non from r]; exact rfl
  | bl k => cases e; rw [show v = .bl _ from r]; exact rfl
  | int i =>
    have e' : some (i != 0) = some b := e
    rw [show v = .int i from r]
    cases e'
    exact rfl
  | str s =>
    have e' : (if s.length ≤ 1000000 then some (s.length != 0) else none) = some b := e
    by_cases h : s.length ≤ 1000000
    · rw [if_pos h] at e'
      cases e'
      rw [show v = .str s from r]
      exact ⟨Nat.le_trans h (by decide), len0 _⟩
    · rw [if_neg h] at e'
      cases e'
  | _ => exact go e
end
end Fz

/-! Q5: operators upon data. -/
namespace Fz
open PySem PySem.Spec PyProof.Rows L2

def oper : Op → Operator
  | .add => .Add
  | .sub => .Sub
  | .mul => .Mult
  | .fdiv => .FloorDiv
  | .mod => .Mod
  | .pow => .Pow
  | .band => .BitAnd
  | .bxor => .BitXor
  | .shl => .LShift
def cmOp : Cm → CmpOp
  | .eq => .Eq
  | .ne => .NotEq
  | .lt => .Lt
  | .le => .LtE
  | .gt => .Gt
  | .ge => .GtE
  | .is => .Is
  | .isnot => .IsNot
  | .isin => .In
  | .notin => .NotIn
/-- an operator upon data -/
def rOp (K : PySem.W.Frag) (o : Op) (md : Nat) : R2 := fun x y H Q => ∃ A w σ d e r w', Sim K H A w σ ∧ RD K H A d x ∧ RD K H A e y ∧ opF o md d e w = .ok (r, w') ∧ Aft K A H σ r w' Q
theorem mulOk_ok {i j : Int} (h : mulOk i j = true) : IntMulOk i j := by
  unfold mulOk at h
  simp only [decide_eq_true_eq] at h
  rcases h with h | h | ⟨h1, h2⟩
  · exact CMul.ok (.inl h)
  · exact CMul.ok (.inr h)
  · exact (wide_mul (a := 400000) (b := 400000) h1 h2 (by decide) (by decide) (by decide)).ok
theorem divOk_ok {i j : Int} (h : divOk i j = true) : j ≠ 0 ∧ Builtin.divisionGoesByPylong i j = false := by
  unfold divOk at h
  simp only [Bool.and_eq_true, Bool.or_eq_true, decide_eq_true_eq, Bool.not_eq_true'] at h
  refine ⟨h.1, ?_⟩
  rcases h.2 with h | h
  · exact PyProof.noPylong_small h
  · exact h
theorem powOk_ok {i j : Int} (h : powOk i j = true) : CPow i j := by
  unfold powOk at h
  exact (of_decide_eq_true h : 0 ≤ j ∧ j ≤ 1000000 ∧ i.natAbs < 2 ^ 64)
theorem op_floor {X : Cx} : OpR X (binaryOp .FloorDiv) (rI (fun i j => j ≠ 0 ∧ Builtin.divisionGoesByPylong i j = false) fun i j => .int (i.fdiv j)) :=
  opI fun _ _ _ _ _ _ _ hc q => floordiv_int hc.1 q (.inl hc.2)
theorem op_mulI {X : Cx} : OpR X (binaryOp .Mult) (rI IntMulOk fun i j => .int (i * j)) := opI fun _ _ _ _ _ _ _ hc q => mul_int q hc
section
variable {X : Cx}
theorem opF_lists {K : PySem.W.Frag} {A : Ad} {H : Hp} {w w' : Wd} {σ : Sl} {d e r : D} {x y : V} {Q : VK} {md : Nat} (S : Sim K H A w σ) (rx : RD K H A d x) (ry : RD K H A e y)
    (h : (if isL d && isL e then (R.of (w.seq d)).bd fun a => (R.of (w.seq e)).bd fun b => newL md (a ++ b) w else .err) = .ok (r, w')) (q : Aft K A H σ r w' Q) : rCat x y H Q := by
  by_cases hl : (isL d && isL e) = true
  · rw [if_pos hl] at h
    obtain ⟨a, e1, h⟩ := bd_split h
    obtain ⟨b, e2, h⟩ := bd_split h
    obtain ⟨l1, l2⟩ := Bool.and_eq_true_iff.mp hl
    obtain ⟨p, vs, rfl, r1, h1⟩ := S.lst rx l1 (of_split e1)
    obtain ⟨p2, us, rfl, r2, h2⟩ := S.lst ry l2 (of_split e2)
    obtain ⟨z, qn⟩ := Aft.newL h S (r1.append r2) q
    exact ⟨p, p2, vs, us, rfl, rfl, h1, h2, by rw [List.length_append] at z; exact z, qn⟩
  · rw [if_neg hl] at h
    cases h
theorem op_sound (o : Op) (md : Nat) : OpR X (binaryOp (oper o)) (rOp X.K o md) := by
  intro pins s σ H x y v u Q I rx ry h
  obtain ⟨A, w, σ', d, e, r, w', S, rd1, rd2, ho, q⟩ := h
  -- two ints
  by_cases hi : ∃ i j, d = .int i ∧ e = .int j
  · obtain ⟨i, j, rfl, rfl⟩ := hi
    have ex : x = .int i := rd1
    have ey : y = .int j := rd2
    subst ex ey
    cases o with
    | add =>
      cases ho
      exact op_add pins s σ H _ _ v u Q I rx ry ⟨i, j, rfl, rfl, q.here S rfl⟩
    | sub =>
      cases ho
      exact op_sub pins s σ H _ _ v u Q I rx ry ⟨i, j, rfl, rfl, q.here S rfl⟩
    | mul =>
      have ho : (if mulOk i j then R.ok (D.int (i * j), w) else .err) = .ok (r, w') := ho
      split at ho
      · rename_i hc
        cases ho
        exact op_mulI pins s σ H _ _ v u Q I rx ry ⟨i, j, rfl, rfl, mulOk_ok hc, q.here S rfl⟩
      · cases ho
    | fdiv =>
      have ho : (if divOk i j then R.ok (D.int (i.fdiv j), w) else .err) = .ok (r, w') := ho
      split at ho
      · rename_i hc
        cases ho
        exact op_floor pins s σ H _ _ v u Q I rx ry ⟨i, j, rfl, rfl, divOk_ok hc, q.here S rfl⟩
      · cases ho
    | mod =>
      have ho : (if j = 0 then R.err else .ok (D.int (i.fmod j), w)) = .ok (r, w') := ho
      split at ho
      · cases ho
      · rename_i hc
        cases ho
        exact op_modN pins s σ H _ _ v u Q I rx ry ⟨i, j, rfl, rfl, hc, q.here S rfl⟩
    | pow =>
      have ho : (if powOk i j then R.ok (D.int (i ^ j.toNat), w) else .err) = .ok (r, w') := ho
      split at ho
      · rename_i hc
        cases ho
        exact op_pow pins s σ H _ _ v u Q I rx ry ⟨i, j, rfl, rfl, powOk_ok hc, q.here S rfl⟩
      · cases ho
    | shl =>
      have ho : (if powOk i j then R.ok (D.int (i * 2 ^ j.toNat), w) else .err) = .ok (r, w') := ho
      split at ho
      · rename_i hc
        cases ho
        exact op_shl pins s σ H _ _ v u Q I rx ry ⟨i, j, rfl, rfl, powOk_ok hc, q.here S rfl⟩
      · cases ho
    | band =>
      cases ho
      exact op_and pins s σ H _ _ v u Q I rx ry ⟨i, j, rfl, rfl, q.here S rfl⟩
    | bxor =>
      cases ho
      exact op_xor pins s σ H _ _ v u Q I rx ry ⟨i, j, rfl, rfl, q.here S rfl⟩
  · cases o with
    | add =>
      by_cases hs : ∃ a b, d = .str a ∧ e = .str b
      · obtain ⟨a, b, rfl, rfl⟩ := hs
        have ex : x = .str a := rd1
        have ey : y = .str b := rd2
        subst ex ey
        have ho : (if a.length + b.length ≤ mxLen then R.ok (D.str (a ++ b), w) else .err) = .ok (r, w') := ho
        split at ho
        · rename_i hc
          cases ho
          exact op_add_str pins s σ H _ _ v u Q I rx ry ⟨a, b, rfl, rfl, Nat.le_trans hc (by decide), q.here S rfl⟩
        · cases ho
      · by_cases ht : ∃ a b, d = .tup a ∧ e = .tup b
        · obtain ⟨a, b, rfl, rfl⟩ := ht
          have ho : newT (a ++ b) w = .ok (r, w') := ho
          obtain ⟨p, vs, rfl, t1, r1⟩ := rd1
          obtain ⟨p2, us, rfl, t2, r2⟩ := rd2
          obtain ⟨z, qn⟩ := Aft.newT ho S (r1.append r2) q
          obtain ⟨rfl, rfl, _⟩ := newT_ok ho (r1.append r2)
          refine op_catA pins s σ H _ _ v u Q I rx ry ⟨p, p2, vs, us, rfl, rfl, t1, t2, by rw [List.length_append] at z; exact z, fun e => ?_, fun _ e => ?_, fun _ _ => qn⟩
          · subst e
            refine q.here S ⟨p2, us, rfl, t2, ?_⟩
            have := r1.append r2
            simpa using this
          · subst e
            refine q.here S ⟨p, vs, rfl, t1, ?_⟩
            have := r1.append r2
            simpa using this
        · refine op_cat pins s σ H x y v u Q I rx ry (opF_lists (md := md) (r := r) (w' := w') S rd1 rd2 ?_ q)
          rw [← ho]
          cases d <;> cases e <;> first | rfl | (exact absurd ⟨_, _, rfl, rfl⟩ hi) | (exact absurd ⟨_, _, rfl, rfl⟩ hs) | (exact absurd ⟨_, _, rfl, rfl⟩ ht)
    | mul =>
      by_cases hj : ∃ j, e = .int j
      · obtain ⟨j, rfl⟩ := hj
        have ho : (if isL d && decide (-(2 ^ 63) ≤ j ∧ j < 2 ^ 63) then (R.of (w.seq d)).bd fun a => if a.length * j.toNat ≤ mxLen then newL md (List.replicate j.toNat a).flatten w else .err else .err) = .ok (r, w') := by
          rw [← ho]
          cases d <;> first | rfl | (exact absurd ⟨_, _, rfl, rfl⟩ hi)
        split at ho
        · rename_i hc
          obtain ⟨l1, l2⟩ := Bool.and_eq_true_iff.mp hc
          obtain ⟨a, e1, ho⟩ := bd_split ho
          obtain ⟨p, vs, rfl, r1, h1⟩ := S.lst rd1 l1 (of_split e1)
          have ey : y = .int j := rd2
          subst ey
          split at ho
          · rename_i hz
            obtain ⟨_, qn⟩ := Aft.newL ho S (RDs.rep j.toNat r1) q
            have l3 := of_decide_eq_true l2
            exact op_rep pins s σ H _ _ v u Q I rx ry ⟨p, j, vs, rfl, rfl, h1, l3.1, l3.2, Nat.le_trans (by rw [r1.length]; exact hz) (by decide), qn⟩
          · cases ho
        · cases ho
      · exfalso
        cases d <;> cases e <;> first | (exact hj ⟨_, rfl⟩) | (exact hi ⟨_, _, rfl, rfl⟩) | (cases ho)
    | _ =>
      exfalso
      cases d <;> cases e <;> first | (exact hi ⟨_, _, rfl, rfl⟩) | (cases ho)
/-- a comparison upon data -/
def rCm (K : PySem.W.Frag) (c : Cm) : R2 := fun x y H Q => ∃ A w σ d e b, Sim K H A w σ ∧ RD K H A d x ∧ RD K H A e y ∧ cmF c d e w = some b ∧ Q (.bl b) H
theorem eqF_cases {d e : D} {w : Wd} {b : Bool} (h : eqF d e w = some b) :
    (∃ i j, d = .int i ∧ e = .int j ∧ b = decide (i = j)) ∨ (∃ i j, d = .str i ∧ e = .str j ∧ b = decide (i = j)) ∨
      ∃ p q, w.py d = some p ∧ w.py e = some q ∧ SeqAt.shaped p = true ∧ SeqAt.shaped q = true ∧ b = PyData.eqv p q := by
  have go : ((w.py d).bind fun a => (w.py e).bind fun b => if SeqAt.shaped a && SeqAt.shaped b then some (PyData.eqv a b) else none) = some b → 
      ∃ p q, w.py d = some p ∧ w.py e = some q ∧ SeqAt.shaped p = true ∧ SeqAt.shaped q = true ∧ b = PyData.eqv p q := fun h => by
    simp only [Option.bind_eq_some_iff] at h
    obtain ⟨p, e1, q, e2, h⟩ := h
    split at h
    · rename_i hc
      obtain ⟨c1, c2⟩ := Bool.and_eq_true_iff.mp hc
      cases h
      exact ⟨p, q, e1, e2, c1, c2, rfl⟩
    · cases h
  by_cases hi : ∃ i j, d = .int i ∧ e = .int j
  · obtain ⟨i, j, rfl, rfl⟩ := hi
    cases h
    exact .inl ⟨i, j, rfl, rfl, rfl⟩
  · by_cases hs : ∃ i j, d = .str i ∧ e = .str j
    · obtain ⟨i, j, rfl, rfl⟩ := hs
      cases h
      exact .inr (.inl ⟨i, j, rfl, rfl, rfl⟩)
    · refine .inr (.inr (go ?_))
      rw [← h]
      cases d <;> cases e <;> first | rfl | (exact absurd ⟨_, _, rfl, rfl⟩ hi) | (exact absurd ⟨_, _, rfl, rfl⟩ hs)
theorem flat_rd {K : PySem.W.Frag} {H : Hp} {A : Ad} {d : D} {v : V} (f : isFlat d = true) (r : RD K H A d v) : flatV v = true ∧ ∀ (e : D) (u : V), isFlat e = true → RD K H A e u → eqV v u = flatEq d e := by
  cases d with
  | non =>
    rw [show v = .non from r]
    refine ⟨rfl, fun e u fe re => ?_⟩
    cases e with
    | non => rw [show u = .non from re]; rfl
    | bl b => rw [show u = .bl b from re]; rfl
    | int i => rw [show u = .int i from re]; rfl
    | str i => rw [show u = .str i from re]; rfl
    | _ => cases fe
  | bl b0 =>
    rw [show v = .bl b0 from r]
    refine ⟨rfl, fun e u fe re => ?_⟩
    cases e with
    | non => rw [show u = .non from re]; rfl
    | bl b => rw [show u = .bl b from re]; rfl
    | int i => rw [show u = .int i from re]; rfl
    | str i => rw [show u = .str i from re]; rfl
    | _ => cases fe
  | int b0 =>
    rw [show v = .int b0 from r]
    refine ⟨rfl, fun e u fe re => ?_⟩
    cases e with
    | non => rw [show u = .non from re]; rfl
    | bl b => rw [show u = .bl b from re]; rfl
    | int i => rw [show u = .int i from re]; rfl
    | str i => rw [show u = .str i from re]; rfl
    | _ => cases fe
  | str b0 =>
    rw [show v = .str b0 from r]
    refine ⟨rfl, fun e u fe re => ?_⟩
    cases e with
    | non => rw [show u = .non from re]; rfl
    | bl b => rw [show u = .bl b from re]; rfl
    | int i => rw [show u = .int i from re]; rfl
    | str i => rw [show u = .str i from re]; rfl
    | _ => cases fe
  | _ => cases f
theorem flats_rd {K : PySem.W.Frag} {H : Hp} {A : Ad} {x : D} {v : V} (f : isFlat x = true) (r : RD K H A x v) : ∀ {ds : List D} {vs : List V}, ds.all isFlat = true → RDs K H A ds vs → vs.all flatV = true ∧ inV v vs = ds.any fun z => flatEq z x
  | [], _, _, h => by rw [show _ = [] from h]; exact ⟨rfl, rfl⟩
  | d :: ds, _, a, h => by
    obtain ⟨u, us, rfl, p, q⟩ := h
    obtain ⟨a1, a2⟩ := Bool.and_eq_true_iff.mp (show (isFlat d && ds.all isFlat) = true from a)
    obtain ⟨c1, c2⟩ := flat_rd a1 p
    obtain ⟨i1, i2⟩ := flats_rd f r a2 q
    refine ⟨by rw [List.all_cons, c1, i1]; rfl, ?_⟩
    show (eqV u v || inV v us) = _
    rw [c2 x v f r, i2]
    rfl
theorem cm_sound (c : Cm) (hu : X.A.units + 64 < cLine) : OpR X (compareOp (cmOp c)) (rCm X.K c) := by
  intro pins s σ H x y v u Q I rx ry h
  obtain ⟨A, w, σ', d, e, b, S, rd1, rd2, ho, q⟩ := h
  have two : ∀ {i j}, d = .int i → e = .int j → x = .int i ∧ y = .int j := fun hd he => by
    subst hd he
    exact ⟨rd1, rd2⟩
  cases c with
  | eq =>
    rcases eqF_cases ho with ⟨i, j, h1, h2, rfl⟩ | ⟨i, j, rfl, rfl, rfl⟩ | ⟨p, p2, e1, e2, s1, s2, rfl⟩
    · obtain ⟨rfl, rfl⟩ := two h1 h2
      refine op_eq pins s σ H _ _ v u Q I rx ry ⟨rfl, ?_⟩
      rw [show decide ((V.int i) = .int j) = decide (i = j) by simp]
      exact q
    · obtain rfl : x = .str i := rd1
      obtain rfl : y = .str j := rd2
      refine op_eq pins s σ H _ _ v u Q I rx ry ⟨rfl, ?_⟩
      rw [show decide ((V.str i) = .str j) = decide (i = j) by simp]
      exact q
    · exact op_eqD hu pins s σ H _ _ v u Q I rx ry ⟨p, p2, S.dp e1 rd1, S.dp e2 rd2, s1, s2, q⟩
  | ne =>
    obtain ⟨b', ho', rfl⟩ := Option.map_eq_some_iff.mp (show (eqF d e w).map (fun b => !b) = some b from ho)
    rcases eqF_cases ho' with ⟨i, j, h1, h2, rfl⟩ | ⟨i, j, rfl, rfl, rfl⟩ | ⟨p, p2, e1, e2, s1, s2, rfl⟩
    · obtain ⟨rfl, rfl⟩ := two h1 h2
      refine op_ne pins s σ H _ _ v u Q I rx ry ⟨rfl, ?_⟩
      rw [show decide ((V.int i) = .int j) = decide (i = j) by simp]
      exact q
    · obtain rfl : x = .str i := rd1
      obtain rfl : y = .str j := rd2
      refine op_ne pins s σ H _ _ v u Q I rx ry ⟨rfl, ?_⟩
      rw [show decide ((V.str i) = .str j) = decide (i = j) by simp]
      exact q
    · exact op_neD hu pins s σ H _ _ v u Q I rx ry ⟨p, p2, S.dp e1 rd1, S.dp e2 rd2, s1, s2, q⟩
  | lt =>
    by_cases hi : ∃ i j, d = .int i ∧ e = .int j
    · obtain ⟨i, j, h1, h2⟩ := hi
      obtain ⟨rfl, rfl⟩ := two h1 h2
      subst h1 h2
      cases ho
      exact op_lt pins s σ H _ _ v u Q I rx ry ⟨i, j, rfl, rfl, q⟩
    · exfalso
      cases d <;> cases e <;> first | (exact hi ⟨_, _, rfl, rfl⟩) | (cases ho)
  | le =>
    by_cases hi : ∃ i j, d = .int i ∧ e = .int j
    · obtain ⟨i, j, h1, h2⟩ := hi
      obtain ⟨rfl, rfl⟩ := two h1 h2
      subst h1 h2
      cases ho
      exact op_le pins s σ H _ _ v u Q I rx ry ⟨i, j, rfl, rfl, q⟩
    · exfalso
      cases d <;> cases e <;> first | (exact hi ⟨_, _, rfl, rfl⟩) | (cases ho)
  | gt =>
    by_cases hi : ∃ i j, d = .int i ∧ e = .int j
    · obtain ⟨i, j, h1, h2⟩ := hi
      obtain ⟨rfl, rfl⟩ := two h1 h2
      subst h1 h2
      cases ho
      exact op_gt pins s σ H _ _ v u Q I rx ry ⟨i, j, rfl, rfl, q⟩
    · exfalso
      cases d <;> cases e <;> first | (exact hi ⟨_, _, rfl, rfl⟩) | (cases ho)
  | ge =>
    by_cases hi : ∃ i j, d = .int i ∧ e = .int j
    · obtain ⟨i, j, h1, h2⟩ := hi
      obtain ⟨rfl, rfl⟩ := two h1 h2
      subst h1 h2
      cases ho
      exact op_ge pins s σ H _ _ v u Q I rx ry ⟨i, j, rfl, rfl, q⟩
    · exfalso
      cases d <;> cases e <;> first | (exact hi ⟨_, _, rfl, rfl⟩) | (cases ho)
  | is =>
    cases e with
    | non =>
      have ey : y = .non := rd2
      subst ey
      refine op_isN pins s σ H _ _ v u Q I rx ry ⟨rfl, ?_⟩
      cases d with
      | non => cases ho; rw [show x = .non from rd1]; exact q
      | bl k => cases ho; rw [show x = .bl k from rd1]; exact q
      | int k => cases ho; rw [show x = .int k from rd1]; exact q
      | str k => cases ho; rw [show x = .str k from rd1]; exact q
      | tup k => cases ho; obtain ⟨a, vs, rfl, _⟩ := rd1; exact q
      | lst k => cases ho; obtain ⟨a, vs, rfl, _⟩ := rd1; exact q
      | fl k => cases ho; obtain ⟨a, vs, rfl, _⟩ := rd1; exact q
      | sc k => cases ho; obtain ⟨a, vs, rfl, _⟩ := rd1; exact q
      | ref k => cases ho; obtain ⟨a, _, rfl⟩ := rd1; exact q
      | g k => cases ho; obtain ⟨a, _, rfl⟩ := rd1; exact q
      | dic ks k => cases ho; obtain ⟨a, vs, rfl, _⟩ := rd1; exact q
    | bl k =>
      cases d with
      | bl j =>
        cases ho
        exact op_isBl pins s σ H _ _ v u Q I rx ry ⟨j, k, rd1, rd2, q⟩
      | _ => cases ho
    | _ => cases d <;> cases ho
  | isnot =>
    cases e with
    | non =>
      have ey : y = .non := rd2
      subst ey
      refine op_notN pins s σ H _ _ v u Q I rx ry ⟨rfl, ?_⟩
      cases d with
      | non => cases ho; rw [show x = .non from rd1]; exact q
      | bl k => cases ho; rw [show x = .bl k from rd1]; exact q
      | int k => cases ho; rw [show x = .int k from rd1]; exact q
      | str k => cases ho; rw [show x = .str k from rd1]; exact q
      | tup k => cases ho; obtain ⟨a, vs, rfl, _⟩ := rd1; exact q
      | lst k => cases ho; obtain ⟨a, vs, rfl, _⟩ := rd1; exact q
      | fl k => cases ho; obtain ⟨a, vs, rfl, _⟩ := rd1; exact q
      | sc k => cases ho; obtain ⟨a, vs, rfl, _⟩ := rd1; exact q
      | ref k => cases ho; obtain ⟨a, _, rfl⟩ := rd1; exact q
      | g k => cases ho; obtain ⟨a, _, rfl⟩ := rd1; exact q
      | dic ks k => cases ho; obtain ⟨a, vs, rfl, _⟩ := rd1; exact q
    | bl k =>
      cases d with
      | bl j =>
        cases ho
        exact op_notBl pins s σ H _ _ v u Q I rx ry ⟨j, k, rd1, rd2, q⟩
      | _ => cases ho
    | _ => cases d <;> cases ho
  | isin =>
    have ho : (if isFlat d then (w.seq e).bind fun ys => if ys.all isFlat then some (ys.any fun z => flatEq z d) else none else none) = some b := by
      rw [← ho]
      cases d <;> cases e <;> rfl
    split at ho
    · rename_i hf
      obtain ⟨ys, e1, ho⟩ := Option.bind_eq_some_iff.mp ho
      split at ho
      · rename_i ha
        cases ho
        obtain ⟨a, vs, rfl, rs, hq⟩ := S.seq rd2 e1
        obtain ⟨c1, c2⟩ := flats_rd hf rd1 ha rs
        refine op_in_seq pins s σ H _ _ v u Q I rx ry ⟨a, vs, rfl, ?_, (flat_rd hf rd1).1, c1, ?_⟩
        · rcases hq with hq | hq
          · exact .inr hq.2
          · exact .inl hq.2
        · rw [if_neg Bool.false_ne_true, c2]
          exact q
      · cases ho
    · cases ho
  | notin =>
    have ho : (if isFlat d then (w.seq e).bind fun ys => if ys.all isFlat then some (!(ys.any fun z => flatEq z d)) else none else none) = some b := by
      rw [← ho]
      cases d <;> cases e <;> rfl
    split at ho
    · rename_i hf
      obtain ⟨ys, e1, ho⟩ := Option.bind_eq_some_iff.mp ho
      split at ho
      · rename_i ha
        cases ho
        obtain ⟨a, vs, rfl, rs, hq⟩ := S.seq rd2 e1
        obtain ⟨c1, c2⟩ := flats_rd hf rd1 ha rs
        refine op_notIn_seq pins s σ H _ _ v u Q I rx ry ⟨a, vs, rfl, ?_, (flat_rd hf rd1).1, c1, ?_⟩
        · rcases hq with hq | hq
          · exact .inr hq.2
          · exact .inl hq.2
        · rw [if_pos rfl, c2]
          exact q
      · cases ho
    · cases ho
end
end Fz

/-! Q6: repr of data, ints of up to 4300 figures within. -/
namespace Fz
open PySem PySem.Spec PyProof.Rows L2

section
variable {prog : Program} {w : World} {A : Around} {E : Value → Shared → Prop} {s : Shared}
theorem intRepr {a : Int} {t : Tok} {Q : Value → Shared → Prop} (hn : s.heap.NoDigits) (lt : a.natAbs < 10 ^ 4300) (h : Q (.str (toString a) s.toks) { s with toks := s.toks + 1 }) :
    wpAny (model prog w) A (call (.builtin "int.__repr__") [.int a t]) Q E s := by
  refine wpAny_call_entry F.slot_int_repr (typeIs_int s a t) F.entry_int_repr ?_ (F.args_int_repr_1 _)
  unfold Builtin.«int.__repr__»
  show wpAny _ _ (do let z ← Builtin.overDigitLimit? a; _) _ _ s
  refine wpAny_bind (overDigitLimit_any hn (fun _ => ?_) fun ge => absurd lt (Nat.not_lt.mpr ge))
  exact wpAny_bind (wpAny_mkStr (wpAny_pure ⟨_, rfl, h⟩) (int_text_fits10 lt))
theorem intReprObj {a : Int} {t : Tok} {Q : Value → Shared → Prop} (hu : A.units < cLine) (hn : s.heap.NoDigits) (lt : a.natAbs < 10 ^ 4300) (h : Q (.str (toString a) s.toks) { s with toks := s.toks + 1 }) :
    wpAny (model prog w) A (pyReprObj (.int a t)) Q E s :=
  wpAny_pyReprObj_slot hu (typeIs_int s a t) F.slot_int_repr.toG (intRepr hn lt ⟨_, _, rfl, h⟩)
theorem intK {h0 : Heap} {a : Int} {t : Tok} (hn : h0.NoDigits) (lt : a.natAbs < 10 ^ 4300) : ReprK prog w [] h0 0 (.int a t) (toString a) := by
  intro base hb B g E' s' Q hg _ hu hk hQ
  rw [pyReprUnder_leaf (v := .int a t) (by omega) (fun _ e => nomatch e)]
  unfold pyRepr
  exact wpAny_bind (intReprObj (by omega) (Heap.NoDigits.keeps hn hk) lt (wpAny_pure (hQ s'.heap _ fun _ _ e => e)))
end
section
variable {prog : Program} {w : World} {h0 : Heap}
mutual
theorem showK (hn : h0.NoDigits) : ∀ {v : Value} {p : PyData} {as : List Addr}, Reads h0 v p as → canShow p = true → p.shown.length ≤ sizeLine → ∃ bs, ReadAtMost h0 p.depth bs ∧ ReprK prog w bs h0 p.depth v p.shown
  | _, _, _, .none, _, _ => ⟨[], (fun _ h => nomatch h), by
      simp only [PyData.shown]
      exact ReprK.of_is ReprIs.none _ _ _⟩
  | _, _, _, .bool b, _, _ => ⟨[], (fun _ h => nomatch h), by
      simp only [PyData.shown]
      exact ReprK.of_is (ReprIs.bool b) _ _ _⟩
  | _, _, _, .int i t, c, _ => ⟨[], (fun _ h => nomatch h), by
      simp only [PyData.shown, PyData.depth]
      exact intK hn (by simpa [canShow] using c)⟩
  | _, _, _, .str x t, _, z => ⟨[], (fun _ h => nomatch h), by
      simp only [PyData.shown]
      exact ReprK.of_is (ReprIs.str x t (by simpa only [PyData.shown] using z)) _ _ _⟩
  | _, _, _, .list (a := a) (vs := vs) (xs := ps) e1 e2 e3 e4, c, z => by
    have z' : (listText (PyData.shownAll ps)).length ≤ sizeLine := by simpa only [PyData.shown] using z
    obtain ⟨bs, m, k⟩ := showsK hn e4 (by simpa [canShow] using c) fun t ht => Nat.le_trans (listText_mem_le ht) z'
    have rr : Reads h0 (.ref a) (.list ps) _ := .list e1 e2 e3 e4
    have no : a ∉ bs := not_mem_of_deeper rr (by simp only [PyData.depth]; omega) m
    refine ⟨a :: bs, ReadAtMost.cons rr (by simp only [PyData.depth]; omega) m, ?_⟩
    simp only [PyData.depth, PyData.shown]
    obtain ⟨l⟩ := vs
    cases l with
    | nil =>
      have e5 : ReadsAll h0 [] ps _ := e4
      cases e5
      simp only [PyData.shownAll, listText_nil]
      exact ReprK.listEmpty e1 e2 e3
    | cons y l =>
      refine ReprK.list e1 e2 e3 no (by simpa using k.length_eq) fun i y e => ?_
      exact k.item i y (by simpa using e)
  | _, _, _, .tuple (a := a) (xs := ps) e1 e2 e3 e4, c, z => by
    have z' : (tupleText (PyData.shownAll ps)).length ≤ sizeLine := by simpa only [PyData.shown] using z
    obtain ⟨bs, m, k⟩ := showsK hn e4 (by simpa [canShow] using c) fun t ht => Nat.le_trans (tupleText_mem_le ht) z'
    have rr : Reads h0 (.ref a) (.tuple ps) _ := .tuple e1 e2 e3 e4
    have no : a ∉ bs := not_mem_of_deeper rr (by simp only [PyData.depth]; omega) m
    refine ⟨a :: bs, ReadAtMost.cons rr (by simp only [PyData.depth]; omega) m, ?_⟩
    simp only [PyData.depth, PyData.shown]
    exact ReprK.tuple e1 e2 e3 no k
  | _, _, _, .dict _ _ _ _ _, c, _ => by simp [canShow] at c
theorem showsK (hn : h0.NoDigits) : ∀ {vs : List Value} {ps : List PyData} {as : List Addr}, ReadsAll h0 vs ps as → canShows ps = true → (∀ t ∈ PyData.shownAll ps, t.length ≤ sizeLine) →
    ∃ bs, ReadAtMost h0 (PyData.depthAll ps) bs ∧ ReprAllK prog w bs h0 (PyData.depthAll ps) vs (PyData.shownAll ps)
  | _, _, _, .nil, _, _ => ⟨[], (fun _ h => nomatch h), by
      simp only [PyData.shownAll]
      exact ReprAllK.nil⟩
  | _, _, _, .cons (d := p) (ds := ps) r q, c, z => by
    obtain ⟨c1, c2⟩ := Bool.and_eq_true_iff.mp (show (canShow p && canShows ps) = true by simpa [canShows] using c)
    simp only [PyData.shownAll, List.mem_cons] at z
    obtain ⟨b1, m1, k1⟩ := showK hn r c1 (z _ (.inl rfl))
    obtain ⟨b2, m2, k2⟩ := showsK hn q c2 fun t ht => z t (.inr ht)
    refine ⟨b1 ++ b2, fun b hb => ?_, ?_⟩
    · simp only [PyData.depthAll]
      rcases List.mem_append.mp hb with hb | hb
      · obtain ⟨d', as', r', l⟩ := m1 b hb
        exact ⟨d', as', r', Nat.le_trans l (Nat.le_max_left _ _)⟩
      · obtain ⟨d', as', r', l⟩ := m2 b hb
        exact ⟨d', as', r', Nat.le_trans l (Nat.le_max_right _ _)⟩
    · simp only [PyData.depthAll, PyData.shownAll]
      refine ReprAllK.cons ((k1.more fun b hb => ?_).level_le (Nat.le_max_left _ _)) (k2.more_le (fun b hb => ?_) (Nat.le_max_right _ _))
      · exact List.mem_append_left _ hb
      · exact List.mem_append_right _ hb
end
end
section
variable {X : Cx}
theorem Inv.nodig {pins : List (Addr × Obj)} {σ : Sl} {H : Hp} {s : Shared} (I : Inv X pins σ H s) (hn : X.base.NoDigits) : s.heap.NoDigits := hn.keeps I.bk
theorem reprCall {prog : Program} {w : World} {A : Around} {E : Value → Shared → Prop} {s : Shared} {Q : Value → Shared → Prop} (hs : s.heap.NoDigits) (hg : A.guards = some []) (hu : A.units + 64 < cLine) :
    ∀ {u : Value} {p : PyData} {as : List Addr}, Reads s.heap u p as → canShow p = true → p.depth ≤ 60 → p.shown.length ≤ sizeLine →
      (∀ h' u' tk, (∀ b o, s.heap.get? b = some o → h'.get? b = some o) → Q (.str p.shown u') { s with heap := h', toks := tk }) → wpAny (model prog w) A (call (.builtin "repr") [u]) Q E s
  | _, _, _, .none, _, _, _, fin => by
    simp only [PyData.shown] at fin
    exact PySem.P.repr_of_none (fin s.heap _ _ fun _ _ e => e)
  | _, _, _, .bool b, _, _, _, fin => by
    simp only [PyData.shown] at fin
    exact PySem.P.repr_of_bool (fin s.heap _ _ fun _ _ e => e)
  | _, _, _, .int i t, ok, _, _, fin => by
    simp only [PyData.shown] at fin
    have hu1 : A.units + 1 < cLine := by omega
    exact call_repr_slot hu1 (typeIs_int s i t) F.slot_int_repr.toG (intRepr hs (by simpa [canShow] using ok) ⟨_, _, rfl, fin s.heap _ _ fun _ _ e => e⟩)
  | _, _, _, .str y t, _, _, z1, fin => by
    simp only [PyData.shown] at fin z1
    exact PySem.P.repr_of_str (fin s.heap _ _ fun _ _ e => e) z1
  | _, _, _, .list (a := a) (o := o) (vs := vs) (xs := ps) e1 e2 e3 e4, ok, z3, z1, fin => by
    simp only [PyData.shown] at z1 fin
    simp only [PyData.depth] at z3
    obtain ⟨bs, m, k⟩ := showsK (prog := prog) (w := w) hs e4 (by simpa [canShow] using ok) fun t ht => Nat.le_trans (listText_mem_le ht) z1
    have no : a ∉ bs := not_mem_of_deeper (.list e1 e2 e3 e4) (by simp only [PyData.depth]; omega) m
    have hu1 : A.units + 1 < cLine := by omega
    refine call_repr_slot hu1 ⟨o, e1, e2⟩ F.slot_list_repr.toG ?_
    obtain ⟨l⟩ := vs
    cases l with
    | nil =>
      have e5 : ReadsAll s.heap [] ps _ := e4
      cases e5
      simp only [PyData.shownAll, listText_nil] at fin
      exact call_list_repr_empty ⟨o, e1, e2⟩ e1 e3 ⟨_, _, rfl, fin s.heap _ _ fun _ _ e => e⟩
    | cons y l =>
      refine call_list_reprK e1 e2 e3 no (by simpa using k.length_eq) (fun i y e => k.item i y (by simpa using e)) (A := A.in1) hg (fun b _ => Clear.nil b) ?_ (fun _ _ e => e) (fun h' u' tk hk => ⟨_, _, rfl, fin h' u' tk hk⟩) z1
      show A.units + 1 + _ < cLine
      omega
  | _, _, _, .tuple (a := a) (o := o) (xs := ps) e1 e2 e3 e4, ok, z3, z1, fin => by
    simp only [PyData.shown] at z1 fin
    simp only [PyData.depth] at z3
    obtain ⟨bs, m, k⟩ := showsK (prog := prog) (w := w) hs e4 (by simpa [canShow] using ok) fun t ht => Nat.le_trans (tupleText_mem_le ht) z1
    have no : a ∉ bs := not_mem_of_deeper (.tuple e1 e2 e3 e4) (by simp only [PyData.depth]; omega) m
    have hu1 : A.units + 1 < cLine := by omega
    refine call_repr_slot hu1 ⟨o, e1, e2⟩ F.slot_tuple_repr ?_
    refine call_tuple_reprK e1 e2 e3 no k (A := A.in1) hg (fun b _ => Clear.nil b) ?_ (fun _ _ e => e) (fun h' u' tk hk => ⟨_, _, rfl, fin h' u' tk hk⟩) z1
    show A.units + 1 + _ < cLine
    omega
  | _, _, _, .dict _ _ _ _ _, ok, _, _, _ => by simp [canShow] at ok
theorem call_reprD (hn : X.base.NoDigits) (hg : X.A.guards = some []) (hu : X.A.units + 64 < cLine) :
    CallR X (.builtin "repr") fun xs H Q => ∃ x p, xs = [x] ∧ Dp X.K H x p ∧ reprOk p = true ∧ Q (.str p.shown) H := by
  intro pins s σ H xs us Q I r h
  obtain ⟨x, p, rfl, dp, ok, q⟩ := h
  obtain ⟨u, rfl, ru⟩ := vals1 r
  obtain ⟨as, rr⟩ := Dp.reads I p x u dp ru
  obtain ⟨ok, z⟩ := Bool.and_eq_true_iff.mp ok
  obtain ⟨ok, z2⟩ := Bool.and_eq_true_iff.mp ok
  refine reprCall (Inv.nodig I hn) hg hu rr ok (of_decide_eq_true z2) (Nat.le_trans (of_decide_eq_true z) (by decide)) fun h' u' tk k => ?_
  exact ⟨.str p.shown, H, I.kept k, ⟨_, rfl⟩, q⟩
end
end Fz

/-! Q6d: the sum of a tuple; a dict out of pairs. -/
namespace Fz
open PySem PySem.Spec PyProof.Rows L2
section
variable {prog : Program} {w : World} {A : Around} {E : Value → Shared → Prop} {s : Shared} {l : Addr}
theorem sum_intTup {xs : Array (Int × Tok)} {Q : Value → Shared → Prop} (hh : A.handled = none) (hl : s.heap.IsTuple l (intItems xs))
    (h : ∀ h' tk t', (∀ b o, s.heap.get? b = some o → h'.get? b = some o) → Q (.int (preSum (numAt xs) xs.size) t') { s with heap := h', toks := tk }) :
    wpAny (model prog w) A (call (.builtin "sum") [.ref l]) Q E s := by
  have hlt : l < s.heap.objs.size := by obtain ⟨_, e, _⟩ := hl; exact Heap.lt_size e
  refine call_sum_walkG (wpAny_pyIter_tuple hl ?_)
  have hsz : (s.heap.push { cls := .type "tuple_iterator", data := .fields #[.ref l, .int 0 0] }).objs.size = s.heap.objs.size + 1 := Heap.size_push ..
  refine ⟨_, [_, l], [_], _, _, _, numAt xs, rfl, Walks.tuple (A := A.in1) hh _ l (Nat.ne_of_lt hlt) (intItems xs), ⟨⟨_, Heap.get?_push_size _ rfl, rfl, rfl⟩, hl.push _⟩, fun c hc => ?_, (fun _ _ => intItems_at), fun h' tk t' hk => ?_⟩
  · show c < (s.heap.push _).objs.size
    rw [Heap.size_push]
    rcases List.mem_cons.mp hc with rfl | hc
    · exact Nat.lt_succ_self _
    · rw [List.mem_singleton] at hc; rw [hc]; exact Nat.lt_succ_of_lt hlt
  · have := h h' tk t' (fun b o e => hk b o (fun z => by rw [List.mem_singleton] at z; subst z; exact absurd (Heap.lt_size e) (Nat.lt_irrefl _)) (Heap.get?_push_of_some _ e))
    simpa [intItems] using this
theorem sumT_raw {its : List Value} {ns : List Int} {Q : Value → Shared → Prop} (hh : A.handled = none) (hl : s.heap.IsTuple l its.toArray) (hi : IntsAre its ns)
    (h : ∀ h' tk t', (∀ b o, s.heap.get? b = some o → h'.get? b = some o) → Q (.int ns.sum t') { s with heap := h', toks := tk }) : wpAny (model prog w) A (call (.builtin "sum") [.ref l]) Q E s := by
  obtain ⟨xs, e⟩ := hi.allInts.items
  have hn : numsOf (intItems xs).toList = ns := by rw [← e]; exact hi.numsOf
  rw [nums_intItems] at hn
  rw [e] at hl
  refine sum_intTup hh hl fun h' tk t' hk => ?_
  have := h h' tk t' hk
  rw [preSum_eq, List.take_of_length_le (by simp), hn]; exact this
end
section
variable {X : Cx}
theorem cr_sumT (hc : X.calm = true) : CallR X (.builtin "sum") (fun vs H Q => ∃ (a : Addr) (ns : List Int), vs = [V.ref a] ∧ SqT X.K H a (ns.map V.int) ∧ Q (.int ns.sum) H) := by
  intro pins s σ H vs us Q I r h
  obtain ⟨a, ns, rfl, hs, q⟩ := h
  obtain ⟨its, rv, hl, _⟩ := I.tuple hs
  rw [Vals.ref1 r]
  exact sumT_raw (I.ok.hd hc) hl rv.ints fun h' tk t' hk => ⟨.int _, H, I.kept hk, ⟨_, rfl⟩, q⟩
end
/-! ### a dict's keys -/
theorem putK_new {kvs : List (Key × V)} {k : Key} {v : V} (h : k ∉ kvs.map Prod.fst) : putK kvs k v = kvs ++ [(k, v)] := by
  unfold putK
  rw [if_neg]
  intro z
  obtain ⟨kv, hkv, e⟩ := List.any_eq_true.mp z
  exact h (List.mem_map.mpr ⟨kv, hkv, of_decide_eq_true e⟩)
theorem mergeK_app : ∀ (more kvs : List (Key × V)), ((kvs ++ more).map Prod.fst).Nodup → mergeK kvs more = kvs ++ more
  | [], kvs, _ => by simp [mergeK]
  | (k, v) :: r, kvs, h => by
    show mergeK (putK kvs k v) r = _
    rw [putK_new (by
      rw [List.map_append, List.nodup_append] at h
      intro z
      exact h.2.2 k z k (by simp) rfl), mergeK_app r _ (by simpa using h)]
    simp
theorem mergeK_nil {kvs : List (Key × V)} (h : (kvs.map Prod.fst).Nodup) : mergeK [] kvs = kvs := by
  rw [mergeK_app kvs [] (by simpa using h)]
  rfl
theorem lkp_at {K : PySem.W.Frag} {H : Hp} {A : Ad} : ∀ {ks : List Str} {ds : List D} {kvs : List (Key × V)} {x : Str} {d : D}, kvs.map Prod.fst = ks.map Sum.inr → RDs K H A ds (kvs.map Prod.snd) → lkp ks ds x = some d → ∃ v, valV kvs (.inr x) = some v ∧ RD K H A d v
  | [], _, _, _, _, _, _, e => by simp [lkp] at e
  | k :: ks, [], _, _, _, _, _, e => by simp [lkp] at e
  | k :: ks, d :: ds, [], _, _, h, _, _ => by simp at h
  | k :: ks, d :: ds, (k', v) :: kvs, x, d', h, r, e => by
    obtain ⟨h1, h2⟩ : k' = .inr k ∧ kvs.map Prod.fst = ks.map Sum.inr := by simpa using h
    obtain ⟨r1, r2⟩ := RDs.cons_iff.mp (show RDs K H A (d :: ds) (v :: kvs.map Prod.snd) from r)
    subst h1
    unfold lkp at e
    unfold valV
    by_cases hx : k = x
    · subst hx
      rw [if_pos rfl] at e
      cases e
      exact ⟨v, by simp, r1⟩
    · rw [if_neg hx] at e
      obtain ⟨v', q1, q2⟩ := lkp_at h2 r2 e
      refine ⟨v', ?_, q2⟩
      rw [List.find?_cons_of_neg (by simpa using hx)]
      exact q1
theorem prs_at {K : PySem.W.Frag} {H : Hp} {A : Ad} : ∀ {xs : List D} {vs : List V} {ks : List Str} {ds : List D}, RDs K H A xs vs → prsD xs = some (ks, ds) → ∃ (ps : List Addr) (kvs : List (Key × V)), vs = ps.map V.ref ∧ Paired (fun p kv => SqT K H p [kV kv.1, kv.2]) ps kvs ∧ kvs.map Prod.fst = ks.map Sum.inr ∧ RDs K H A ds (kvs.map Prod.snd)
  | [], _, ks, ds, h, e => by
    rw [show _ = [] from h]
    cases e
    exact ⟨[], [], rfl, .nil, rfl, rfl⟩
  | x :: xs, vs, ks, ds, h, e => by
    obtain ⟨v, r, rfl, h1, h2⟩ := h
    unfold prsD at e
    split at e
    · rename_i z
      cases z
    · rename_i k d rest heq
      cases heq
      obtain ⟨p, e1, e2⟩ := Option.map_eq_some_iff.mp e
      cases e2
      obtain ⟨ps, kvs, rfl, q1, q2, q3⟩ := prs_at h2 e1
      obtain ⟨a, us, rfl, t1, t2⟩ := h1
      obtain ⟨u1, us1, rfl, t3, t4⟩ := t2
      obtain ⟨u2, us2, rfl, t5, t6⟩ := t4
      rw [show us2 = [] from t6] at t1
      rw [show u1 = .str k from t3] at t1
      exact ⟨a :: ps, (.inr k, u2) :: kvs, rfl, .cons t1 q1, by simp [q2], RDs.cons_iff.mpr ⟨t5, q3⟩⟩
    · cases e
section
variable {K : PySem.W.Frag} {H H' : Hp} {A A' : Ad} {w w' : Wd} {σ : Sl} {Q : VK}
theorem Aft.newD {ks : List Str} {ds : List D} {kvs : List (Key × V)} (S : Sim K H A w σ) (h0 : ks ≠ []) (hn : ks.Nodup) (e : kvs.map Prod.fst = ks.map Sum.inr) (r : RDs K H A ds (kvs.map Prod.snd)) (q : Aft K A H σ (.dic ks ds) w Q) :
    ∀ p, H p = none → Q (.ref p) (upd H p (.dK (mergeK [] kvs))) := by
  intro p hp
  have hk : (kvs.map Prod.fst).Nodup := by
    rw [e]
    exact List.nodup_iff_pairwise_ne.mpr (List.pairwise_map.mpr ((List.nodup_iff_pairwise_ne.mp hn).imp fun h z => h (Sum.inr.inj z)))
  rw [mergeK_nil hk]
  obtain ⟨⟨f1, f2, f4⟩, f3⟩ := S.fresh hp
  have s0 : Step A H A (upd H p (.dK kvs)) := Step.new hp f4
  exact q A _ _ s0 (S.new hp) ⟨p, kvs, rfl, upd_same, ⟨f1, f2, f4⟩, f3, ⟨h0, hn, e⟩, r.step s0.toCar⟩
end
end Fz

/-! Q7: built-ins and methods upon data. -/
namespace Fz
open PySem PySem.Spec PyProof.Rows L2

theorem maxL_spec : ∀ (xs : List Int), xs ≠ [] → maxL xs ∈ xs ∧ ∀ y ∈ xs, y ≤ maxL xs
  | [], h => absurd rfl h
  | [x], _ => ⟨by simp [maxL], by simp [maxL]⟩
  | x :: y :: r, _ => by
    obtain ⟨h1, h2⟩ := maxL_spec (y :: r) (by simp)
    show (if x < maxL (y :: r) then maxL (y :: r) else x) ∈ _ ∧ ∀ z ∈ _, z ≤ (if x < maxL (y :: r) then maxL (y :: r) else x)
    split
    · refine ⟨List.mem_cons_of_mem _ h1, fun z hz => ?_⟩
      rcases List.mem_cons.mp hz with rfl | hz
      · omega
      · exact h2 z hz
    · refine ⟨List.mem_cons_self, fun z hz => ?_⟩
      rcases List.mem_cons.mp hz with rfl | hz
      · omega
      · have := h2 z hz
        omega
theorem minL_spec : ∀ (xs : List Int), xs ≠ [] → minL xs ∈ xs ∧ ∀ y ∈ xs, minL xs ≤ y
  | [], h => absurd rfl h
  | [x], _ => ⟨by simp [minL], by simp [minL]⟩
  | x :: y :: r, _ => by
    obtain ⟨h1, h2⟩ := minL_spec (y :: r) (by simp)
    show (if minL (y :: r) < x then minL (y :: r) else x) ∈ _ ∧ ∀ z ∈ _, (if minL (y :: r) < x then minL (y :: r) else x) ≤ z
    split
    · refine ⟨List.mem_cons_of_mem _ h1, fun z hz => ?_⟩
      rcases List.mem_cons.mp hz with rfl | hz
      · omega
      · exact h2 z hz
    · refine ⟨List.mem_cons_self, fun z hz => ?_⟩
      rcases List.mem_cons.mp hz with rfl | hz
      · omega
      · have := h2 z hz
        omega
/-- how a built-in stands in the program: its name, its value -/
def biName : Bi → Str
  | .len => "len"
  | .abs => "abs"
  | .int => "int"
  | .bool => "bool"
  | .repr => "repr"
  | .sum => "sum"
  | .max => "max"
  | .min => "min"
  | .tuple => "tuple"
  | .list => "list"
  | .sorted => "sorted"
  | .all => "all"
  | .any => "any"
  | .str => "str"
  | .isinst => "isinstance"
  | .dict => "dict"
/-- its kind: a function, or a class -/
def biTy : Bi → Bool
  | .int => true
  | .bool => true
  | .tuple => true
  | .list => true
  | .str => true
  | .dict => true
  | _ => false
def biS : Bi → String
  | .len => "len"
  | .abs => "abs"
  | .int => "int"
  | .bool => "bool"
  | .repr => "repr"
  | .sum => "sum"
  | .max => "max"
  | .min => "min"
  | .tuple => "tuple"
  | .list => "list"
  | .sorted => "sorted"
  | .all => "all"
  | .any => "any"
  | .str => "str"
  | .isinst => "isinstance"
  | .dict => "dict"
def biV (b : Bi) : Value := if biTy b then .type (biS b) else .builtin (biS b)
def rBi (K : PySem.W.Frag) (b : Bi) (md : Nat) : List V → Hp → VK → Prop := fun vs H Q => ∃ A w σ ds r w', Sim K H A w σ ∧ RDs K H A ds vs ∧ biF b md ds w = .ok (r, w') ∧ Aft K A H σ r w' Q
section
variable {X : Cx}
theorem one_of {K : PySem.W.Frag} {H : Hp} {A : Ad} {d : D} {vs : List V} (h : RDs K H A [d] vs) : ∃ v, vs = [v] ∧ RD K H A d v := by
  obtain ⟨v, r, rfl, x, y⟩ := h
  rw [show r = [] from y]
  exact ⟨v, rfl, x⟩
theorem two_of {K : PySem.W.Frag} {H : Hp} {A : Ad} {d e : D} {vs : List V} (h : RDs K H A [d, e] vs) : ∃ v u, vs = [v, u] ∧ RD K H A d v ∧ RD K H A e u := by
  obtain ⟨v, r, rfl, x, y⟩ := h
  obtain ⟨u, rfl, z⟩ := one_of y
  exact ⟨v, u, rfl, x, z⟩
theorem intsL {K : PySem.W.Frag} {H : Hp} {A : Ad} {w : Wd} {σ : Sl} (S : Sim K H A w σ) {d : D} {v : V} {ns : List Int} (r : RD K H A d v) (t : isT d = false) (e : (w.seq d).bind intD = some ns) : ∃ a, v = .ref a ∧ SqL K H a (ns.map V.int) := by
  obtain ⟨xs, e1, e2⟩ := Option.bind_eq_some_iff.mp e
  obtain ⟨a, vs, rfl, rs, h⟩ := S.seq r e1
  have ev := rs.ints e2
  subst ev
  rcases h with ⟨h, _⟩ | ⟨_, h⟩
  · rw [t] at h
    cases h
  · exact ⟨a, rfl, h⟩
theorem boolsL {K : PySem.W.Frag} {H : Hp} {A : Ad} {w : Wd} {σ : Sl} (S : Sim K H A w σ) {d : D} {v : V} {ns : List Bool} (r : RD K H A d v) (t : isT d = false) (e : (w.seq d).bind boolD = some ns) : ∃ a, v = .ref a ∧ SqL K H a (ns.map V.bl) := by
  obtain ⟨xs, e1, e2⟩ := Option.bind_eq_some_iff.mp e
  obtain ⟨a, vs, rfl, rs, h⟩ := S.seq r e1
  have ev := rs.bools e2
  subst ev
  rcases h with ⟨h, _⟩ | ⟨_, h⟩
  · rw [t] at h
    cases h
  · exact ⟨a, rfl, h⟩
theorem bi_len {md : Nat} : CallR X (biV .len) (rBi X.K .len md) := by
  intro pins s σ H vs us Q I rv h
  obtain ⟨A, w, σ', ds, r, w', S, rs, ho, q⟩ := h
  match ds, ho with
  | [], ho => cases ho
  | _ :: _ :: _, ho => 
    exfalso
    rename_i d e t
    cases d <;> cases ho
  | [d], ho =>
    obtain ⟨v, rfl, rd1⟩ := one_of rs
    by_cases hs : ∃ z, d = .str z
    · obtain ⟨z, rfl⟩ := hs
      have ho : (if z.length ≤ mxLen then R.ok (D.int z.length, w) else .err) = .ok (r, w') := ho
      split at ho
      · rename_i hz
        cases ho
        obtain rfl : v = .str z := rd1
        exact call_len pins s σ H _ us Q I rv ⟨.str z, z.length, rfl, ⟨Nat.le_trans hz (by decide), rfl⟩, q.here S rfl⟩
      · cases ho
    · have ho : ((R.of (w.seq d)).bd fun xs => R.ok (D.int xs.length, w)) = .ok (r, w') := by
        rw [← ho]
        cases d <;> first | rfl | exact absurd ⟨_, rfl⟩ hs
      obtain ⟨xs, e1, ho⟩ := bd_split ho
      cases ho
      obtain ⟨a, ys, rfl, rs2, hq⟩ := S.seq rd1 (of_split e1)
      refine call_len pins s σ H _ us Q I rv ⟨.ref a, xs.length, rfl, ?_, q.here S rfl⟩
      rcases hq with ⟨_, hq⟩ | ⟨_, hq⟩
      · exact .inr ⟨ys, hq, rs2.length.symm⟩
      · exact .inl ⟨ys, hq, rs2.length.symm⟩
theorem bi_abs {md : Nat} : CallR X (biV .abs) (rBi X.K .abs md) := by
  intro pins s σ H vs us Q I rv h
  obtain ⟨A, w, σ', ds, r, w', S, rs, ho, q⟩ := h
  match ds, ho with
  | [], ho => cases ho
  | d :: _ :: _, ho => cases d <;> cases ho
  | [d], ho =>
    obtain ⟨v, rfl, rd1⟩ := one_of rs
    cases d with
    | int i =>
      cases ho
      obtain rfl : v = .int i := rd1
      exact call_abs pins s σ H _ us Q I rv ⟨i, rfl, q.here S rfl⟩
    | _ => cases ho
theorem bi_int {md : Nat} : CallR X (biV .int) (rBi X.K .int md) := by
  intro pins s σ H vs us Q I rv h
  obtain ⟨A, w, σ', ds, r, w', S, rs, ho, q⟩ := h
  match ds, ho with
  | [], ho => cases ho
  | d :: _ :: _, ho => cases d <;> cases ho
  | [d], ho =>
    obtain ⟨v, rfl, rd1⟩ := one_of rs
    cases d with
    | int i =>
      cases ho
      obtain rfl : v = .int i := rd1
      exact call_int1 pins s σ H _ us Q I rv (.inl ⟨i, rfl, q.here S rfl⟩)
    | bl i =>
      cases ho
      obtain rfl : v = .bl i := rd1
      exact call_int1 pins s σ H _ us Q I rv (.inr ⟨i, rfl, q.here S rfl⟩)
    | _ => cases ho
theorem bi_bool {md : Nat} : CallR X (biV .bool) (rBi X.K .bool md) := by
  intro pins s σ H vs us Q I rv h
  obtain ⟨A, w, σ', ds, r, w', S, rs, ho, q⟩ := h
  match ds, ho with
  | [], ho => cases ho
  | d :: _ :: _, ho => cases d <;> cases ho
  | [d], ho =>
    obtain ⟨v, rfl, rd1⟩ := one_of rs
    cases d with
    | int i =>
      cases ho
      obtain rfl : v = .int i := rd1
      exact call_bool1 pins s σ H _ us Q I rv (.inl ⟨i, rfl, q.here S rfl⟩)
    | bl i =>
      cases ho
      obtain rfl : v = .bl i := rd1
      exact call_bool1 pins s σ H _ us Q I rv (.inr ⟨i, rfl, q.here S rfl⟩)
    | _ => cases ho
theorem bi_repr {md : Nat} (hn : X.base.NoDigits) (hg : X.A.guards = some []) (hu : X.A.units + 64 < cLine) : CallR X (biV .repr) (rBi X.K .repr md) := by
  intro pins s σ H vs us Q I rv h
  obtain ⟨A, w, σ', ds, r, w', S, rs, ho, q⟩ := h
  match ds, ho with
  | [], ho => cases ho
  | _ :: _ :: _, ho => cases ho
  | [d], ho =>
    obtain ⟨v, rfl, rd1⟩ := one_of rs
    obtain ⟨p, e1, ho⟩ := bd_split (show ((R.of (w.py d)).bd fun p => if reprOk p then R.ok (D.str p.shown, w) else .err) = .ok (r, w') from ho)
    split at ho
    · rename_i hp
      cases ho
      exact call_reprD hn hg hu pins s σ H _ us Q I rv ⟨v, p, rfl, S.dp (of_split e1) rd1, hp, q.here S rfl⟩
    · cases ho
theorem bi_sum {md : Nat} (hc : X.calm = true) : CallR X (biV .sum) (rBi X.K .sum md) := by
  intro pins s σ H vs us Q I rv h
  obtain ⟨A, w, σ', ds, r, w', S, rs, ho, q⟩ := h
  match ds, ho with
  | [], ho => cases ho
  | _ :: _ :: _, ho => cases ho
  | [d], ho =>
    obtain ⟨v, rfl, rd1⟩ := one_of rs
    obtain ⟨ns, e1, ho⟩ := bd_split (show ((R.of ((w.seq d).bind intD)).bd fun xs => R.ok (D.int xs.sum, w)) = .ok (r, w') from ho)
    cases ho
    obtain ⟨xs, e2, e3⟩ := Option.bind_eq_some_iff.mp (of_split e1)
    obtain ⟨a, ys, rfl, rs2, hq⟩ := S.seq rd1 e2
    have ev := rs2.ints e3
    subst ev
    rcases hq with ⟨_, hq⟩ | ⟨_, hq⟩
    · exact cr_sumT hc pins s σ H _ us Q I rv ⟨a, ns, rfl, hq, q.here S rfl⟩
    · exact cr_sum hc pins s σ H _ us Q I rv ⟨a, ns, rfl, hq, q.here S rfl⟩
theorem bi_dict {md : Nat} (hc : X.calm = true) : CallR X (biV .dict) (rBi X.K .dict md) := by
  intro pins s σ H vs us Q I rv h
  obtain ⟨A, w, σ', ds, r, w', S, rs, ho, q⟩ := h
  match ds, ho with
  | [], ho => cases ho
  | _ :: _ :: _, ho => cases ho
  | [d], ho =>
    obtain ⟨v, rfl, rd1⟩ := one_of rs
    have ho : (if isT d then R.err else (R.of ((w.seq d).bind prsD)).bd fun p => if p.1.Nodup ∧ p.1 ≠ [] ∧ p.1.length ≤ 15 then R.ok (D.dic p.1 p.2, w) else R.err) = .ok (r, w') := ho
    split at ho
    · cases ho
    · rename_i ht
      obtain ⟨⟨ks, es⟩, e1, ho⟩ := bd_split ho
      split at ho
      · rename_i hk
        cases ho
        obtain ⟨xs, e2, e3⟩ := Option.bind_eq_some_iff.mp (of_split e1)
        obtain ⟨a, ys, rfl, rs2, hq⟩ := S.seq rd1 e2
        rcases hq with ⟨z, _⟩ | ⟨_, hq⟩
        · exact absurd z ht
        · obtain ⟨ps, kvs, rfl, q1, q2, q3⟩ := prs_at rs2 e3
          exact call_dictP hc pins s σ H _ us Q I rv ⟨a, ps, kvs, rfl, hq, q1, Aft.newD S hk.2.1 hk.1 q2 q3 q⟩
      · cases ho
theorem bi_max {md : Nat} (hc : X.calm = true) : CallR X (biV .max) (rBi X.K .max md) := by
  intro pins s σ H vs us Q I rv h
  obtain ⟨A, w, σ', ds, r, w', S, rs, ho, q⟩ := h
  match ds, ho with
  | [], ho => cases ho
  | d :: e :: _ :: _, ho => cases d <;> first | (cases ho) | (cases e <;> cases ho)
  | [d, e], ho =>
    obtain ⟨v, u, rfl, rd1, rd2⟩ := two_of rs
    cases d with
    | int i =>
      cases e with
      | int j =>
        cases ho
        obtain rfl : v = .int i := rd1
        obtain rfl : u = .int j := rd2
        exact call_max2 hc pins s σ H _ us Q I rv ⟨i, j, rfl, q.here S rfl⟩
      | _ => cases ho
    | _ => cases e <;> cases ho
  | [d], ho =>
    obtain ⟨v, rfl, rd1⟩ := one_of rs
    have ho : (if isT d then R.err else (R.of ((w.seq d).bind intD)).bd fun xs => if xs.isEmpty then R.err else R.ok (D.int (maxL xs), w)) = .ok (r, w') := by
      rw [← ho]
      cases d <;> rfl
    split at ho
    · cases ho
    · rename_i ht
      obtain ⟨ns, e1, ho⟩ := bd_split ho
      split at ho
      · cases ho
      · rename_i he
        cases ho
        obtain ⟨a, rfl, hq⟩ := intsL S rd1 (by simpa using ht) (of_split e1)
        have hne : ns ≠ [] := fun z => he (by rw [z]; rfl)
        obtain ⟨m1, m2⟩ := maxL_spec ns hne
        refine cr_max hc pins s σ H _ us Q I rv ⟨a, ns, rfl, hq, List.length_pos_iff.mpr hne, fun m hm hle => ?_⟩
        have em : m = maxL ns := Int.le_antisymm (m2 m hm) (hle _ m1)
        rw [em]
        exact q.here S rfl
theorem bi_min {md : Nat} (hc : X.calm = true) : CallR X (biV .min) (rBi X.K .min md) := by
  intro pins s σ H vs us Q I rv h
  obtain ⟨A, w, σ', ds, r, w', S, rs, ho, q⟩ := h
  match ds, ho with
  | [], ho => cases ho
  | d :: e :: _ :: _, ho => cases d <;> first | (cases ho) | (cases e <;> cases ho)
  | [d, e], ho =>
    obtain ⟨v, u, rfl, rd1, rd2⟩ := two_of rs
    cases d with
    | int i =>
      cases e with
      | int j =>
        cases ho
        obtain rfl : v = .int i := rd1
        obtain rfl : u = .int j := rd2
        exact call_min2 hc pins s σ H _ us Q I rv ⟨i, j, rfl, q.here S rfl⟩
      | _ => cases ho
    | _ => cases e <;> cases ho
  | [d], ho =>
    obtain ⟨v, rfl, rd1⟩ := one_of rs
    have ho : (if isT d then R.err else (R.of ((w.seq d).bind intD)).bd fun xs => if xs.isEmpty then R.err else R.ok (D.int (minL xs), w)) = .ok (r, w') := by
      rw [← ho]
      cases d <;> rfl
    split at ho
    · cases ho
    · rename_i ht
      obtain ⟨ns, e1, ho⟩ := bd_split ho
      split at ho
      · cases ho
      · rename_i he
        cases ho
        obtain ⟨a, rfl, hq⟩ := intsL S rd1 (by simpa using ht) (of_split e1)
        have hne : ns ≠ [] := fun z => he (by rw [z]; rfl)
        obtain ⟨m1, m2⟩ := minL_spec ns hne
        refine cr_min hc pins s σ H _ us Q I rv ⟨a, ns, rfl, hq, List.length_pos_iff.mpr hne, fun m hm hle => ?_⟩
        have em : m = minL ns := Int.le_antisymm (hle _ m1) (m2 m hm)
        rw [em]
        exact q.here S rfl
theorem bi_tuple {md : Nat} : CallR X (biV .tuple) (rBi X.K .tuple md) := by
  intro pins s σ H vs us Q I rv h
  obtain ⟨A, w, σ', ds, r, w', S, rs, ho, q⟩ := h
  match ds, ho with
  | [], ho => cases ho
  | _ :: _ :: _, ho => cases ho
  | [d], ho =>
    obtain ⟨v, rfl, rd1⟩ := one_of rs
    obtain ⟨xs, e1, ho⟩ := bd_split (show ((R.of (w.seq d)).bd fun xs => newT xs w) = .ok (r, w') from ho)
    obtain ⟨a, ys, rfl, rs2, hq⟩ := S.seq rd1 (of_split e1)
    obtain ⟨_, qn⟩ := Aft.newT ho S rs2 q
    obtain ⟨rfl, rfl, _⟩ := newT_ok ho rs2
    rcases hq with ⟨_, hq⟩ | ⟨_, hq⟩
    · exact call_tuple_of pins s σ H _ us Q I rv ⟨a, ys, rfl, .inr ⟨hq, q.here S ⟨a, ys, rfl, hq, rs2⟩⟩⟩
    · exact call_tuple_of pins s σ H _ us Q I rv ⟨a, ys, rfl, .inl ⟨hq, qn⟩⟩
theorem bi_list {md : Nat} : CallR X (biV .list) (rBi X.K .list md) := by
  intro pins s σ H vs us Q I rv h
  obtain ⟨A, w, σ', ds, r, w', S, rs, ho, q⟩ := h
  match ds, ho with
  | [], ho => cases ho
  | _ :: _ :: _, ho => cases ho
  | [d], ho =>
    obtain ⟨v, rfl, rd1⟩ := one_of rs
    obtain ⟨xs, e1, ho⟩ := bd_split (show ((R.of (w.seq d)).bd fun xs => newL md xs w) = .ok (r, w') from ho)
    obtain ⟨a, ys, rfl, rs2, hq⟩ := S.seq rd1 (of_split e1)
    obtain ⟨_, qn⟩ := Aft.newL ho S rs2 q
    refine call_list_of pins s σ H _ us Q I rv ⟨a, ys, rfl, ?_, qn⟩
    rcases hq with ⟨_, hq⟩ | ⟨_, hq⟩
    · exact .inr hq
    · exact .inl hq
theorem bi_all {md : Nat} (hc : X.calm = true) : CallR X (biV .all) (rBi X.K .all md) := by
  intro pins s σ H vs us Q I rv h
  obtain ⟨A, w, σ', ds, r, w', S, rs, ho, q⟩ := h
  match ds, ho with
  | [], ho => cases ho
  | _ :: _ :: _, ho => cases ho
  | [d], ho =>
    obtain ⟨v, rfl, rd1⟩ := one_of rs
    have ho : (if isT d then R.err else (R.of ((w.seq d).bind boolD)).bd fun xs => R.ok (D.bl (xs.all id), w)) = .ok (r, w') := ho
    split at ho
    · cases ho
    · rename_i ht
      obtain ⟨ns, e1, ho⟩ := bd_split ho
      cases ho
      obtain ⟨a, rfl, hq⟩ := boolsL S rd1 (by simpa using ht) (of_split e1)
      exact cr_all hc pins s σ H _ us Q I rv ⟨a, ns, rfl, hq, q.here S rfl⟩
theorem bi_any {md : Nat} (hc : X.calm = true) : CallR X (biV .any) (rBi X.K .any md) := by
  intro pins s σ H vs us Q I rv h
  obtain ⟨A, w, σ', ds, r, w', S, rs, ho, q⟩ := h
  match ds, ho with
  | [], ho => cases ho
  | _ :: _ :: _, ho => cases ho
  | [d], ho =>
    obtain ⟨v, rfl, rd1⟩ := one_of rs
    have ho : (if isT d then R.err else (R.of ((w.seq d).bind boolD)).bd fun xs => R.ok (D.bl (xs.any id), w)) = .ok (r, w') := ho
    split at ho
    · cases ho
    · rename_i ht
      obtain ⟨ns, e1, ho⟩ := bd_split ho
      cases ho
      obtain ⟨a, rfl, hq⟩ := boolsL S rd1 (by simpa using ht) (of_split e1)
      exact cr_any hc pins s σ H _ us Q I rv ⟨a, ns, rfl, hq, q.here S rfl⟩
theorem bi_sound (b : Bi) (md : Nat) (hc : X.calm = true) (hn : X.base.NoDigits) (hg : X.A.guards = some []) (hu : X.A.units + 64 < cLine) : CallR X (biV b) (rBi X.K b md) := by
  cases b with
  | len => exact bi_len
  | abs => exact bi_abs
  | int => exact bi_int
  | bool => exact bi_bool
  | repr => exact bi_repr hn hg hu
  | sum => exact bi_sum hc
  | max => exact bi_max hc
  | min => exact bi_min hc
  | tuple => exact bi_tuple
  | list => exact bi_list
  | all => exact bi_all hc
  | any => exact bi_any hc
  | dict => exact bi_dict hc
  | _ =>
    intro pins s σ H vs us Q I rv h
    obtain ⟨A, w, σ', ds, r, w', S, rs, ho, q⟩ := h
    cases ho
end
end Fz

/-! Q8: methods; what a def promises; the context. -/
namespace Fz
open PySem PySem.Spec PyProof.Rows L2

/-! ### methods -/
def meName : Me → Str
  | .append => "append"
  | .extend => "extend"
  | .pop => "pop"
  | .insert => "insert"
  | .index => "index"
  | .count => "count"
  | .remove => "remove"
def rMe (K : PySem.W.Frag) (m : Me) : V → List V → Hp → VK → Prop := fun x vs H Q => ∃ A w σ d ds r w', Sim K H A w σ ∧ RD K H A d x ∧ RDs K H A ds vs ∧ meF m d ds w = .ok (r, w') ∧ Aft K A H σ r w' Q
section
variable {X : Cx}
theorem put_use {K : PySem.W.Frag} {H : Hp} {A : Ad} {w w' : Wd} {σ : Sl} {d r : D} {v : V} {xs ys : List D} {Q : VK} (S : Sim K H A w σ) (r1 : RD K H A d v) (e1 : w.seq d = some xs) (e2 : w.put d ys = some w') (q : Aft K A H σ r w' Q) :
    ∃ a us, v = .ref a ∧ H a = some (.lst us) ∧ RDs K H A xs us ∧ ∀ vs z, RDs K H A ys vs → RD K H A r z → Q z (upd H a (.lst vs)) := by
  obtain ⟨a, us, ys', rfl, h1, h2, h3, h4⟩ := put_ok e2 S r1
  rw [e1] at h2
  cases h2
  refine ⟨a, us, rfl, h1, h3, fun vs z hv hz => ?_⟩
  obtain ⟨s, S'⟩ := h4 vs hv
  exact q A z _ s S' (hz.step s.toCar)
theorem me_append : MtM X "list.append" (rMe X.K .append) := by
  intro pins s σ H x vs v us Q I rx rv h
  obtain ⟨A, w, σ', d, ds, r, w', S, rd1, rs, ho, q⟩ := h
  match ds, ho with
  | [], ho => cases ho
  | _ :: _ :: _, ho => cases ho
  | [e], ho =>
    obtain ⟨u, rfl, rd2⟩ := one_of rs
    obtain ⟨xs, e1, ho⟩ := bd_split (show ((R.of (w.seq d)).bd fun xs => if xs.length < mxLen then (R.of (w.put d (xs ++ [e]))).bd fun w' => R.ok (D.non, w') else R.err) = .ok (r, w') from ho)
    split at ho
    · rename_i hz
      obtain ⟨w2, e2, ho⟩ := bd_split ho
      cases ho
      obtain ⟨a, ys, rfl, h1, h2, h3⟩ := put_use S rd1 (of_split e1) (of_split e2) q
      exact mt_append pins s σ H _ _ v us Q I rx rv ⟨a, ys, u, rfl, rfl, h1, Nat.lt_of_lt_of_le (by rw [h2.length]; exact hz) (by decide), h3 _ _ (h2.append (RDs.one rd2)) rfl⟩
    · cases ho
theorem me_extend : MtM X "list.extend" (rMe X.K .extend) := by
  intro pins s σ H x vs v us Q I rx rv h
  obtain ⟨A, w, σ', d, ds, r, w', S, rd1, rs, ho, q⟩ := h
  match ds, ho with
  | [], ho => cases ho
  | _ :: _ :: _, ho => cases ho
  | [e], ho =>
    obtain ⟨u, rfl, rd2⟩ := one_of rs
    have ho : (if isL e && !deq e d then (R.of (w.seq d)).bd fun xs => (R.of (w.seq e)).bd fun ys => if xs.length + ys.length ≤ mxLen then (R.of (w.put d (xs ++ ys))).bd fun w' => R.ok (D.non, w') else R.err else R.err) = .ok (r, w') := ho
    split at ho
    · rename_i hl
      obtain ⟨xs, e1, ho⟩ := bd_split ho
      obtain ⟨ys, e2, ho⟩ := bd_split ho
      split at ho
      · rename_i hz
        obtain ⟨w2, e3, ho⟩ := bd_split ho
        cases ho
        obtain ⟨b, zs, rfl, h5, h6⟩ := S.lst rd2 (Bool.and_eq_true_iff.mp hl).1 (of_split e2)
        obtain ⟨a, ys', rfl, h1, h2, h3⟩ := put_use S rd1 (of_split e1) (of_split e3) q
        exact mt_extend pins s σ H _ _ v us Q I rx rv ⟨a, b, ys', zs, rfl, rfl, h1, h6, Nat.le_trans (by rw [h2.length, h5.length]; exact hz) (by decide), h3 _ _ (h2.append h5) rfl⟩
      · cases ho
    · cases ho
theorem ixI_seq {n : Nat} {i : Int} {j : Nat} (h : ixI n i = some j) : seqIndex? i n = some j ∧ j < n ∧ -(n : Int) ≤ i ∧ i < n := ixN_seq h
theorem me_pop : MtM X "list.pop" (rMe X.K .pop) := by
  intro pins s σ H x vs v us Q I rx rv h
  obtain ⟨A, w, σ', d, ds, r, w', S, rd1, rs, ho, q⟩ := h
  match ds, ho with
  | e :: _ :: _, ho => cases e <;> cases ho
  | [], ho =>
    obtain rfl : vs = [] := rs
    obtain ⟨xs, e1, ho⟩ := bd_split (show ((R.of (w.seq d)).bd fun xs => (R.of xs[xs.length - 1]?).bd fun y => (R.of (w.put d xs.dropLast)).bd fun w' => R.ok (y, w')) = .ok (r, w') from ho)
    obtain ⟨y, e2, ho⟩ := bd_split ho
    obtain ⟨w2, e3, ho⟩ := bd_split ho
    cases ho
    obtain ⟨a, ys, rfl, h1, h2, h3⟩ := put_use S rd1 (of_split e1) (of_split e3) q
    obtain ⟨z, hz, rz⟩ := h2.get (of_split e2)
    exact mt_pop pins s σ H _ _ v us Q I rx rv ⟨a, ys, z, rfl, rfl, h1, by rw [h2.length]; exact hz, h3 _ _ h2.dropLast rz⟩
  | [e], ho =>
    cases e with
    | int i =>
      obtain ⟨u, rfl, rd2⟩ := one_of rs
      obtain rfl : u = .int i := rd2
      obtain ⟨xs, e1, ho⟩ := bd_split (show ((R.of (w.seq d)).bd fun xs => (R.of (ixI xs.length i)).bd fun k => (R.of xs[k]?).bd fun y => (R.of (w.put d (xs.eraseIdx k))).bd fun w' => R.ok (y, w')) = .ok (r, w') from ho)
      obtain ⟨k, e4, ho⟩ := bd_split ho
      obtain ⟨y, e2, ho⟩ := bd_split ho
      obtain ⟨w2, e3, ho⟩ := bd_split ho
      cases ho
      obtain ⟨a, ys, rfl, h1, h2, h3⟩ := put_use S rd1 (of_split e1) (of_split e3) q
      obtain ⟨z, hz, rz⟩ := h2.get (of_split e2)
      obtain ⟨l1, l2, l3, l4⟩ := ixI_seq (of_split e4)
      have zl : xs.length ≤ sizeLine := by
        obtain ⟨_, _, _, _, z⟩ := I.lst h1
        rw [← h2.length]
        exact z
      rw [sizeLine_eq] at zl
      exact mt_popAt pins s σ H _ _ v us Q I rx rv ⟨a, ys, i, k, z, rfl, rfl, h1, by omega, by omega, by rw [h2.length]; exact l1, hz, h3 _ _ (h2.eraseIdx k) rz⟩
    | _ => cases ho
end

/-! ### a def's promise -/
/-- a def by what it is worth -/
def spD (K : PySem.W.Frag) (F : List D → List (List D) → R (D × List (List D))) (n : Nat) : Sp := fun vs H Q _ => ∃ (A : Ad) (g : List (List D)) (ds : List D) (d : D) (g' : List (List D)), A.mu = [] ∧ A.cn = [] ∧ Sim K H A ⟨[], [], g⟩ [] ∧ RDs K H A ds vs ∧ ds.length = n ∧ F ds g = .ok (d, g') ∧
  ∀ A' v H', Step A H A' H' → A'.mu = [] → Sim K H' A' ⟨[], [], g'⟩ [] → RD K H' A' d v → Q v H'
/-- FnOk with no guard around -/
structure FnG (P : Program) (w : World) (K : PySem.W.Frag) (mg : Str → Option Value) (base : Heap) (k : Nat) (f : Addr) (fd : FuncData) (ps : List Str) (sp : Sp) : Prop where
  run : ∀ (A : Around) (outer : List Env) (s : Shared) (H : Hp) (args : Args) (us : List Value) (vs : List V) (Q : VK) (E : XK), Room k A → A.guards = some [] → Env0 P w K mg base A outer s H → BindsTo s fd args (ps.zip us) → Vals vs us → sp vs H Q E →
    codeAny (model P w) A (.call (.ref f) args) (CR CX0 outer P w H s Q E) s
theorem FnG.mono {P : Program} {w : World} {K : PySem.W.Frag} {mg : Str → Option Value} {base : Heap} {j k : Nat} {f : Addr} {fd : FuncData} {ps : List Str} {sp : Sp} (F : FnG P w K mg base j f fd ps sp) (h : j ≤ k) : FnG P w K mg base k f fd ps sp :=
  ⟨fun A outer s H args us vs Q E hr => F.run A outer s H args us vs Q E (hr.mono h)⟩

structure Tb where
  free : List Str
  defs : List (Str × List Str)
  cons : List (Str × D)
  /-- def, positional values, keywords, the order -/
  binds : List (Nat × Nat × List Str × Option (List Nat))
def BindOk (fd : FuncData) (ps : List Str) (n : Nat) (ks : List Str) (p : Option (List Nat)) : Prop :=
  ∀ (s : Shared) (us ws zs : List Value), us.length = n → ws.length = ks.length → arrD p (us ++ ws) = some zs → BindsTo s fd ⟨us, ks.zip ws⟩ (ps.zip zs)
structure GX (T : Tb) (P : Pg) (lv : Nat) (N : List Str) (sc : Scope) (top : Bool) (X : Cx) : Prop where
  hN : X.N = N
  nd : N.Nodup
  sco : X.env.scope = sc
  kind : sc.kind = .function
  calm : X.calm = true
  xe : X.xe = fun _ _ => False
  room : Room lv X.A
  gd : X.A.guards = some []
  dig : X.base.NoDigits
  fn : top = true → ∀ x, X.fn x = true
  free : ∀ x ∈ T.free, X.mg x = none
  defs : ∀ (j : Nat) d, T.defs[j]? = some d → j < lv → ∃ f fd, X.mg d.1 = some (.ref f) ∧ PySem.W.keepIn X.K (.ref f) = true ∧ FnG X.prog X.w X.K X.mg X.base lv f fd d.2 (spD X.K (P.F j) d.2.length) ∧
    (∀ n ks p, (j, n, ks, p) ∈ T.binds → BindOk fd d.2 n ks p) ∧ ∀ ds g r g', P.F j ds g = .ok (r, g') → okRet r = true
  cons : ∀ (i : Nat) c, T.cons[i]? = some c → P.C[i]? = some c.2 ∧ ∃ u v, X.mg c.1 = some u ∧ RelV v u ∧ ∀ H A, RD X.K H A c.2 v
theorem blkScope {X : Cx} {scope : Scope} {cl : List (Str × Addr)} {C : Addr} {s : Shared} {H : Hp} {fp : List Addr} : (X.blk s H scope (compEnvC scope cl C X.env) fp).env.scope = relS scope X.env.scope := rfl
theorem GX.blk {T : Tb} {P : Pg} {lv : Nat} {N : List Str} {sc : Scope} {top : Bool} {X : Cx} (G : GX T P lv N sc top X) {scope : Scope} (hk : scope.kind = .function) (s : Shared) (H : Hp) (C : Addr) (cl : List (Str × Addr)) (fp : List Addr) :
    GX T P lv N (relS scope sc) false (X.blk s H scope (compEnvC scope cl C X.env) fp) where
  hN := G.hN
  nd := G.nd
  sco := by rw [blkScope, G.sco]
  kind := hk
  calm := G.calm
  xe := rfl
  room := G.room
  gd := G.gd
  dig := G.dig
  fn := fun h => nomatch h
  free := G.free
  defs := G.defs
  cons := G.cons
end Fz

/-! Q9: comprehensions: the list in the making; targets; what is walked. -/
namespace Fz
open PySem PySem.Spec PyProof.Rows L2
section
variable {K : PySem.W.Frag} {H H' : Hp} {A A' : Ad} {w : Wd} {σ : Sl}
/-- a list in the making -/
theorem Car.opens {p : Addr} (hp : H p = none) (o : HO) : Car A H { A with cn := p :: A.cn } (upd H p o) := by
  refine ⟨fun a u h x => ⟨upd_some hp h, x.1, x.2.1, fun z => ?_⟩, fun a vs h => upd_some hp h, fun a o u h => upd_some hp h, fun _ _ h => h, fun _ _ h => h, rfl⟩
  rcases List.mem_cons.mp z with rfl | z
  · rw [hp] at h
    cases h
  · exact x.2.2 z
theorem Sim.opens (S : Sim K H A w σ) {p : Addr} (hp : H p = none) (vs : List V) : Sim K (upd H p (.lst vs)) { A with cn := p :: A.cn } w σ := by
  have c : Car A H { A with cn := p :: A.cn } (upd H p (.lst vs)) := Car.opens hp _
  obtain ⟨⟨f1, f2, f4⟩, f3⟩ := S.fresh hp
  refine ⟨fun i d e => let ⟨v, e1, r⟩ := S.loc i d e; ⟨v, e1, r.step c d v⟩, S.len, RL.carry (fun xs vs h => h.step c) (fun a _ vs h => upd_some hp h) S.mu, RL.carry (fun xs vs h => h.step c) (fun a _ vs h => upd_some hp h) S.ga, S.nd, S.ndg, S.dj, S.djg, fun a h => ?_, fun a h => ?_, fun a h => ?_, S.gk⟩
  · obtain ⟨o, e⟩ := S.bt a h
    exact ⟨o, upd_some hp e⟩
  · rcases List.mem_cons.mp h with rfl | h
    · exact ⟨vs, upd_same⟩
    · obtain ⟨us, e⟩ := S.cnt a h
      exact ⟨us, upd_some hp e⟩
  · rcases List.mem_cons.mp h with rfl | h
    · exact ⟨f1, f2, f3⟩
    · exact S.cnd a h
theorem Sim.grow (S : Sim K H A w σ) {p : Addr} (hp : p ∈ A.cn) {us : List V} (e : H p = some (.lst us)) (vs : List V) : Sim K (upd H p (.lst vs)) A w σ := by
  have c : Car A H A (upd H p (.lst vs)) := Car.store (.inr (.inr hp)) e
  obtain ⟨c1, c2, c3⟩ := S.cnd p hp
  refine ⟨fun i d e => let ⟨v, e1, r⟩ := S.loc i d e; ⟨v, e1, r.step c d v⟩, S.len, RL.carry (fun xs vs h => h.step c) (fun a ha ws h => ?_) S.mu, RL.carry (fun xs vs h => h.step c) (fun a ha ws h => ?_) S.ga, S.nd, S.ndg, S.dj, S.djg, fun a h => ?_, fun a h => ?_, S.cnd, S.gk⟩
  · rw [upd_ne (show a ≠ p from fun z => c1 (z ▸ ha))]
    exact h
  · rw [upd_ne (show a ≠ p from fun z => c2 (z ▸ ha))]
    exact h
  · obtain ⟨o, q⟩ := S.bt a h
    exact ⟨o, by rw [upd_ne (show a ≠ p from fun z => c3 (z ▸ h))]; exact q⟩
  · by_cases z : a = p
    · subst z
      exact ⟨vs, upd_same⟩
    · obtain ⟨ws, q⟩ := S.cnt a h
      exact ⟨ws, by rw [upd_ne z]; exact q⟩
/-- the slots of an earlier state -/
theorem Sim.back {w0 : Wd} {H0 : Hp} {A0 : Ad} {σ0 : Sl} (S : Sim K H A w σ) (S0 : Sim K H0 A0 w0 σ0) (c : Car A0 H0 A H) : Sim K H A { w with σ := w0.σ } σ0 :=
  ⟨fun i d e => let ⟨v, e1, r⟩ := S0.loc i d e; ⟨v, e1, r.step c d v⟩, S0.len, S.mu, S.ga, S.nd, S.ndg, S.dj, S.djg, S.bt, S.cnt, S.cnd, S.gk⟩
/-- the list is made: it becomes a value -/
theorem Sim.closes {md : Nat} {xs : List D} {vs : List V} {d : D} {w' : Wd} {p : Addr} {cn : List Addr} (e : newL md xs w = .ok (d, w')) (S : Sim K H A w σ) (hc : A.cn = p :: cn) (hn : p ∉ cn) (hp : H p = some (.lst vs)) (r : RDs K H A xs vs) :
    ∃ A', Car A H A' H ∧ A'.cn = cn ∧ Sim K H A' w' σ ∧ RD K H A' d (.ref p) := by
  unfold newL at e
  by_cases hl : xs.length ≤ mxLen
  · rw [if_pos hl] at e
    have hpc : p ∈ A.cn := by rw [hc]; exact List.mem_cons_self
    have sub : ∀ {a}, a ∈ cn → a ∈ A.cn := fun h => by rw [hc]; exact List.mem_cons_of_mem _ h
    have out : ∀ {a}, A.out a → a ≠ p := fun h z => by subst z; exact h.2.2 hpc
    obtain ⟨c1, c2, c3⟩ := S.cnd p hpc
    match md, e with
    | 0, e =>
      cases e
      have c : Car A H { A with cn := cn } H := ⟨fun a u h x => ⟨h, x.1, x.2.1, fun z => x.2.2 (sub z)⟩, fun _ _ h => h, fun _ _ _ h => h, fun _ _ h => h, fun _ _ h => h, rfl⟩
      exact ⟨_, c, rfl, ⟨fun i d e => let ⟨v, e1, r⟩ := S.loc i d e; ⟨v, e1, r.step c d v⟩, S.len, RL.carry (fun xs vs h => h.step c) (fun a _ vs h => h) S.mu, RL.carry (fun xs vs h => h.step c) (fun a _ vs h => h) S.ga, S.nd, S.ndg, S.dj, S.djg, S.bt, fun a h => S.cnt a (sub h), fun a h => S.cnd a (sub h), S.gk⟩,
        p, vs, rfl, hp, ⟨c1, c2, hn⟩, c3, r.step c⟩
    | 1, e =>
      cases e
      have c : Car A H { A with mu := A.mu ++ [p], cn := cn } H := ⟨fun a u h x => ⟨h, not_snoc x.1 (out x), x.2.1, fun z => x.2.2 (sub z)⟩, fun _ _ h => h, fun _ _ _ h => h, fun k a h => get_snoc h, fun _ _ h => h, rfl⟩
      refine ⟨_, c, rfl, ⟨fun i d e => let ⟨v, e1, r⟩ := S.loc i d e; ⟨v, e1, r.step c d v⟩, S.len, ?_, RL.carry (fun xs vs h => h.step c) (fun a _ vs h => h) S.ga, nodup_snoc S.nd c1, S.ndg, fun a ha => ?_, S.djg, S.bt, fun a h => S.cnt a (sub h),
        fun a h => ⟨not_snoc (S.cnd a (sub h)).1 (fun z => hn (z ▸ h)), (S.cnd a (sub h)).2⟩, S.gk⟩, p, ?_, rfl⟩
      · exact RL.append (RL.carry (fun xs vs h => h.step c) (fun a _ vs h => h) S.mu) ⟨xs, [], vs, rfl, hp, r.step c, rfl⟩
      · rcases List.mem_append.mp ha with z | z
        · exact S.dj a z
        · have e : a = p := by simpa using z
          subst e
          exact ⟨c2, c3⟩
      · show (A.mu ++ [p])[w.m.length]? = some p
        rw [S.mu.length]
        simp
    | n + 2, e =>
      have e : (if xs.all gOk then R.ok (D.g w.g.length, { w with g := w.g ++ [xs] }) else R.err) = .ok (d, w') := e
      split at e
      case isFalse => cases e
      rename_i hg
      cases e
      have c : Car A H { A with ga := A.ga ++ [p], cn := cn } H := ⟨fun a u h x => ⟨h, x.1, not_snoc x.2.1 (out x), fun z => x.2.2 (sub z)⟩, fun _ _ h => h, fun _ _ _ h => h, fun _ _ h => h, fun k a h => get_snoc h, rfl⟩
      refine ⟨_, c, rfl, ⟨fun i d e => let ⟨v, e1, r⟩ := S.loc i d e; ⟨v, e1, r.step c d v⟩, S.len, RL.carry (fun xs vs h => h.step c) (fun a _ vs h => h) S.mu, ?_, S.nd, nodup_snoc S.ndg c2, fun a ha => ⟨not_snoc (S.dj a ha).1 (fun z => c1 (z ▸ ha)), (S.dj a ha).2⟩, fun a ha => not_snoc (S.djg a ha) (fun z => c3 (z ▸ ha)), S.bt, fun a h => S.cnt a (sub h),
        fun a h => ⟨(S.cnd a (sub h)).1, not_snoc (S.cnd a (sub h)).2.1 (fun z => hn (z ▸ h)), (S.cnd a (sub h)).2.2⟩, fun ys hy => (List.mem_append.mp hy).elim (S.gk ys) fun z => (by simpa using z : ys = xs) ▸ hg⟩, p, ?_, rfl⟩
      · exact RL.append (RL.carry (fun xs vs h => h.step c) (fun a _ vs h => h) S.ga) ⟨xs, [], vs, rfl, hp, r.step c, rfl⟩
      · show (A.ga ++ [p])[w.g.length]? = some p
        rw [S.ga.length]
        simp
  · rw [if_neg hl] at e
    cases e

/-! ### slots forgotten -/
theorem wipe_get (σ : Sl) : ∀ (vs : List Nat) (j : Nat), (wipe σ vs)[j]? = if j ∈ vs then (σ[j]?).map (fun _ => none) else σ[j]?
  | [], j => by simp [wipe]
  | v :: vs, j => by
    show ((wipe σ vs).set v none)[j]? = _
    rw [List.getElem?_set, wipe_get σ vs j, wipe_length]
    by_cases e : v = j
    · subst e
      simp only [if_true, List.mem_cons, true_or, if_true]
      by_cases h : v < σ.length
      · simp [h]
      · simp [h, List.getElem?_eq_none (Nat.le_of_not_lt h)]
    · rw [if_neg e]
      simp only [List.mem_cons, show ¬ j = v from fun z => e z.symm, false_or]
theorem wipeD_get (σ : List (Option D)) : ∀ (vs : List Nat) (j : Nat), (wipeD σ vs)[j]? = if j ∈ vs then (σ[j]?).map (fun _ => none) else σ[j]?
  | [], j => by simp [wipeD]
  | v :: vs, j => by
    have hl : ∀ vs : List Nat, (wipeD σ vs).length = σ.length := fun vs => by
      induction vs with
      | nil => rfl
      | cons v vs ih =>
        show ((wipeD σ vs).set v none).length = _
        rw [List.length_set, ih]
    show ((wipeD σ vs).set v none)[j]? = _
    rw [List.getElem?_set, wipeD_get σ vs j, hl]
    by_cases e : v = j
    · subst e
      simp only [if_true, List.mem_cons, true_or, if_true]
      by_cases h : v < σ.length
      · simp [h]
      · simp [h, List.getElem?_eq_none (Nat.le_of_not_lt h)]
    · rw [if_neg e]
      simp only [List.mem_cons, show ¬ j = v from fun z => e z.symm, false_or]
theorem wipeD_length (σ : List (Option D)) : ∀ vs : List Nat, (wipeD σ vs).length = σ.length
  | [] => rfl
  | v :: vs => by
    show ((wipeD σ vs).set v none).length = _
    rw [List.length_set, wipeD_length σ vs]
theorem wipe_set (σ : Sl) {vs : List Nat} {i : Nat} (h : i ∈ vs) (v : Option V) : wipe (σ.set i v) vs = wipe σ vs := by
  apply List.ext_getElem?
  intro j
  rw [wipe_get, wipe_get]
  by_cases e : j ∈ vs
  · rw [if_pos e, if_pos e, List.getElem?_set]
    by_cases z : i = j
    · subst z
      rw [if_pos rfl]
      by_cases q : i < σ.length
      · simp [q]
      · simp [q, List.getElem?_eq_none (Nat.le_of_not_lt q)]
    · rw [if_neg z]
  · rw [if_neg e, if_neg e, List.getElem?_set_ne (show i ≠ j from fun z => e (z ▸ h))]
theorem Sim.wiped (S : Sim K H A w σ) (vs : List Nat) : Sim K H A { w with σ := wipeD w.σ vs } (wipe σ vs) := by
  refine ⟨fun i d e => ?_, by rw [wipe_length]; exact (wipeD_length _ _).trans S.len, S.mu, S.ga, S.nd, S.ndg, S.dj, S.djg, S.bt, S.cnt, S.cnd, S.gk⟩
  have e : (wipeD w.σ vs)[i]? = some (some d) := e
  rw [wipeD_get] at e
  rw [wipe_get]
  by_cases h : i ∈ vs
  · rw [if_pos h] at e
    cases q : w.σ[i]? <;> rw [q] at e <;> cases e
  · rw [if_neg h] at e ⊢
    exact S.loc i d e
end

/-! ### targets -/
mutual
def slotsT : Tg → List Nat
  | .nm i => [i]
  | .tu ts => slotsTs ts
def slotsTs : List Tg → List Nat
  | [] => []
  | t :: ts => slotsT t ++ slotsTs ts
end
def gD (K : PySem.W.Frag) (t : Tg) : TG := fun v σ H Q => ∃ A w d w', Sim K H A w σ ∧ RD K H A d v ∧ asg t d w = some w' ∧
  ∀ σ', Sim K H A w' σ' → w'.m = w.m → w'.g = w.g → (∀ own : List Nat, (∀ i ∈ slotsT t, i ∈ own) → wipe σ' own = wipe σ own) → Q σ' H
def gDs (K : PySem.W.Frag) (ts : List Tg) : TGs := fun vs σ H Q => ∃ A w ds w', Sim K H A w σ ∧ RDs K H A ds vs ∧ asgL ts ds w = some w' ∧
  ∀ σ', Sim K H A w' σ' → w'.m = w.m → w'.g = w.g → (∀ own : List Nat, (∀ i ∈ slotsTs ts, i ∈ own) → wipe σ' own = wipe σ own) → Q σ' H
theorem PGimp {X : Cx} {e : Expr} {t t' : TG} (h : PG X e t) (i : ∀ v σ H Q, t' v σ H Q → t v σ H Q) : PG X e t' := ⟨fun pins s σ H v u Q I r q => h.run pins s σ H v u Q I r (i v σ H Q q)⟩
theorem PGsimp {X : Cx} {e : List Expr} {t t' : TGs} (h : PGs X e t) (i : ∀ v σ H Q, t' v σ H Q → t v σ H Q) : PGs X e t' := ⟨fun pins s σ H v u Q I r q => h.run pins s σ H v u Q I r (i v σ H Q q)⟩
theorem Sim.set {K : PySem.W.Frag} {H : Hp} {A : Ad} {w : Wd} {σ : Sl} (S : Sim K H A w σ) (i : Nat) {d : D} {v : V} (r : RD K H A d v) : Sim K H A { w with σ := w.σ.set i (some d) } (σ.set i (some v)) := by
  refine ⟨fun j e q => ?_, by
    show (w.σ.set i (some d)).length = (σ.set i (some v)).length
    rw [List.length_set, List.length_set]
    exact S.len, S.mu, S.ga, S.nd, S.ndg, S.dj, S.djg, S.bt, S.cnt, S.cnd, S.gk⟩
  have q : (w.σ.set i (some d))[j]? = some (some e) := q
  rw [List.getElem?_set] at q ⊢
  by_cases z : i = j
  · subst z
    rw [if_pos rfl] at q ⊢
    rw [← S.len]
    by_cases l : i < w.σ.length
    · rw [if_pos l] at q ⊢
      cases q
      exact ⟨v, rfl, r⟩
    · rw [if_neg l] at q
      cases q
  · rw [if_neg z] at q ⊢
    exact S.loc j e q
def noStar : Expr → Bool
  | .Starred _ _ => false
  | _ => true
theorem assignEach_cons {e : Expr} {es : List Expr} {env : Env} (h : noStar e = true) : assignEach (e :: es) env = (false, assign e env) :: assignEach es env := by
  cases e <;> first | rfl | cases h
/-- a name that may be stored -/
def wrB (sc : Scope) (top : Bool) (x : Str) : Bool := match sc.names.lookup x with
  | some .local => true
  | some .cell => top
  | _ => false
mutual
def ckT (N : List Str) (sc : Scope) (top : Bool) : Tg → Expr → Bool
  | .nm i, .Name x _ => decide (N[i]? = some x) && wrB sc top x
  | .tu ts, .Tuple es _ _ => ckTs N sc top ts es
  | _, _ => false
def ckTs (N : List Str) (sc : Scope) (top : Bool) : List Tg → List Expr → Bool
  | [], [] => true
  | t :: ts, e :: es => noStar e && ckT N sc top t e && ckTs N sc top ts es
  | _, _ => false
end
section
variable {T : Tb} {P : Pg} {lv : Nat} {N : List Str} {sc : Scope} {top : Bool} {X : Cx}
theorem assignEach_plain : ∀ {ts : List Tg} {es : List Expr} {env : Env}, ckTs N sc top ts es = true → (assignEach es env).length = ts.length ∧ (assignEach es env).findIdx? (·.1) = none
  | [], [], _, _ => ⟨rfl, rfl⟩
  | [], _ :: _, _, h => nomatch h
  | _ :: _, [], _, h => nomatch h
  | t :: ts, e :: es, env, h => by
    simp only [ckTs, Bool.and_eq_true] at h
    obtain ⟨h1, h2⟩ := assignEach_plain (env := env) h.2
    rw [assignEach_cons h.1.1]
    refine ⟨by simp [h1], ?_⟩
    simp [List.findIdx?_cons, h2]
mutual
theorem sndT (G : GX T P lv N sc top X) : ∀ (t : Tg) (e : Expr), ckT N sc top t e = true → PG X e (gD X.K t)
  | .nm i, e, h => by
    cases e with
    | Name x pos =>
      simp only [ckT, Bool.and_eq_true, decide_eq_true_eq] at h
      obtain ⟨h1, h2⟩ := h
      have hx : Loc X.env.scope x ∧ (X.fn x = true ∨ X.env.scope.names.lookup x = some .local) := by
        unfold wrB at h2
        rw [G.sco]
        cases q : sc.names.lookup x with
        | none => rw [q] at h2; cases h2
        | some k =>
          rw [q] at h2
          cases k with
          | «local» => exact ⟨.inl q, .inr rfl⟩
          | cell => exact ⟨.inr q, .inl (G.fn h2 x)⟩
          | _ => cases h2
      refine PGimp (pg_name (i := i) (by rw [G.hN]; exact G.nd) (by rw [G.hN]; exact h1) hx.1 hx.2) fun v σ H Q q => ?_
      obtain ⟨A, w, d, w', S, r, ha, q⟩ := q
      cases ha
      refine q _ (S.set i r) rfl rfl fun own ho => ?_
      exact wipe_set σ (ho i (by simp [slotsT])) _
    | _ => cases h
  | .tu ts, e, h => by
    cases e with
    | Tuple es k pos =>
      simp only [ckT] at h
      obtain ⟨h1, h2⟩ := assignEach_plain (env := X.env) h
      refine PGimp (pg_tup (n := ts.length) G.calm (sndTs G ts es h) h1 h2) fun v σ H Q q => ?_
      obtain ⟨A, w, d, w', S, r, ha, q⟩ := q
      cases d with
      | tup ds =>
        obtain ⟨a, vs, rfl, ht, rs⟩ := r
        have ha : asgL ts ds w = some w' := ha
        have hl : ∀ {ts : List Tg} {ds : List D} {w w' : Wd}, asgL ts ds w = some w' → ds.length = ts.length := fun {ts} => by
          induction ts with
          | nil =>
            intro ds w w' e
            cases ds with
            | nil => rfl
            | cons _ _ => cases e
          | cons t ts ih =>
            intro ds w w' e
            cases ds with
            | nil => cases e
            | cons d ds =>
              obtain ⟨w1, _, e2⟩ := Option.bind_eq_some_iff.mp (show (asg t d w).bind (fun w' => asgL ts ds w') = some w' from e)
              rw [List.length_cons, List.length_cons, ih e2]
        refine ⟨a, vs, rfl, ht, by rw [rs.length]; exact hl ha, A, w, ds, w', S, rs, ha, fun σ' S' m g ho => q σ' S' m g fun own h => ho own h⟩
      | _ => cases ha
    | _ => cases h
theorem sndTs (G : GX T P lv N sc top X) : ∀ (ts : List Tg) (es : List Expr), ckTs N sc top ts es = true → PGs X es (gDs X.K ts)
  | [], es, h => by
    cases es with
    | nil =>
      refine PGsimp pgs_nil fun vs σ H Q q => ?_
      obtain ⟨A, w, ds, w', S, rs, ha, q⟩ := q
      cases ds with
      | nil =>
        cases ha
        exact ⟨rs, q σ S rfl rfl fun _ _ => rfl⟩
      | cons _ _ => cases ha
    | cons _ _ => cases h
  | t :: ts, es, h => by
    cases es with
    | nil => cases h
    | cons e es =>
      simp only [ckTs, Bool.and_eq_true] at h
      refine PGsimp (pgs_cons (sndT G t e h.1.2) (sndTs G ts es h.2) (by rw [assignEach_cons h.1.1]; rfl)) fun vs σ H Q q => ?_
      obtain ⟨A, w, ds, w', S, rs, ha, q⟩ := q
      cases ds with
      | nil => cases ha
      | cons d ds =>
        obtain ⟨v, r, rfl, r1, r2⟩ := rs
        obtain ⟨w1, e1, e2⟩ := Option.bind_eq_some_iff.mp (show (asg t d w).bind (fun w' => asgL ts ds w') = some w' from ha)
        refine ⟨v, r, rfl, A, w, d, w1, S, r1, e1, fun σ1 S1 m1 g1 o1 => ?_⟩
        refine ⟨A, w1, ds, w', S1, r2, e2, fun σ2 S2 m2 g2 o2 => q σ2 S2 (m2.trans m1) (g2.trans g1) fun own ho => ?_⟩
        have ho' : ∀ i, i ∈ slotsT t ++ slotsTs ts → i ∈ own := fun i hi => ho i (by simpa [slotsTs] using hi)
        exact (o2 own fun i hi => ho' i (List.mem_append_right _ hi)).trans (o1 own fun i hi => ho' i (List.mem_append_left _ hi))
end
end

/-! ### what is walked -/
structure WalkD (K : PySem.W.Frag) (J : L2.It) (it : Itd) (A0 : Ad) (H0 : Hp) : Prop where
  go : ∀ A H w σ i, Car A0 H0 A H → Sim K H A w σ → it.ok w = true → i < it.xs.length → J.go i H ∧ ∀ v H', J.yld i H v H' → Step A H A H' ∧ Sim K H' A w σ ∧ ∀ d, it.xs[i]? = some d → RD K H' A d v
  stop : ∀ A H w σ, Car A0 H0 A H → Sim K H A w σ → it.ok w = true → J.stop it.xs.length H
def rdI (K : PySem.W.Frag) (f : Wd → R (Itd × Wd)) : TI := fun σ H Rr => ∃ A w, Sim K H A w σ ∧ ∃ it w', f w = .ok (it, w') ∧ ∀ A' H' J, Step A H A' H' → Sim K H' A' w' σ → it.ok w' = true → WalkD K J it A' H' → Rr J H'
theorem PIimp {X : Cx} {tg e : Expr} {t t' : TI} (h : PI X tg e t) (i : ∀ σ H Q, t' σ H Q → t σ H Q) : PI X tg e t' := ⟨fun pins s σ H Q I q => h.run pins s σ H Q I (i σ H Q q)⟩
/-- a list or a tuple, whichever comes -/
def iSeq (K : PySem.W.Frag) (tl : TE) : TI := fun σ H Rr => tl σ H fun x H1 => ∃ a, x = .ref a ∧ ((∃ xs, SqL K H1 a xs ∧ Rr (Itl K a) H1) ∨ ∃ xs, SqT K H1 a xs ∧ Rr (Itt K a) H1)
theorem pi_seq {X : Cx} {tg l : Expr} {tl : TE} (hl : PE X l tl) : PI X tg l (iSeq X.K tl) := by
  refine ⟨fun pins s σ H Rr I h => ?_⟩
  refine thn (hl.run pins s σ H _ I h) fun v s1 ⟨x, H1, I1, r1, a, e, q⟩ => ?_
  subst e
  cases r1
  have fp : ∀ b ∈ [s1.heap.objs.size], FpOk X pins H1 b := fun b hb => by
    obtain rfl : b = s1.heap.objs.size := by simpa using hb
    exact I1.fpOk (Nat.le_refl _) (I1.hok.fresh (Nat.le_refl _))
  rcases q with ⟨xs, hq, q⟩ | ⟨xs, hq, q⟩
  · obtain ⟨its, rv, p, hz⟩ := I1.list hq
    refine wpAny_pyIter_list p.isList ⟨_, [s1.heap.objs.size], _, _, H1, rfl, ?_, turn_list a _, ⟨_, Heap.get?_push_size _ rfl, rfl, rfl⟩, fp, q⟩
    exact I1.kept (t' := s1.toks) fun b o e => Heap.get?_push_of_some _ e
  · obtain ⟨its, rv, p, hz⟩ := I1.tuple hq
    refine wpAny_pyIter_tuple (show s1.heap.IsTuple a its.toArray from p) ⟨_, [s1.heap.objs.size], _, _, H1, rfl, ?_, turn_tuple a _, ⟨_, Heap.get?_push_size _ rfl, rfl, rfl⟩, fp, q⟩
    exact I1.kept (t' := s1.toks) fun b o e => Heap.get?_push_of_some _ e
theorem src_seq {w : Wd} {d : D} {xs : List D} {w0 : Wd} (e : w0.seq d = some xs) (h : (srcOf d).ok xs w = true) : w.seq d = some xs := by
  cases d with
  | ref k =>
    have h : (w.m[k]?).any (fun ys => deqL ys xs) = true := h
    show w.m[k]? = some xs
    cases q : w.m[k]? with
    | none => rw [q] at h; cases h
    | some ys => rw [q] at h; rw [deqL_eq ys xs h]
  | g k =>
    have h : (w.g[k]?).any (fun ys => deqL ys xs) = true := h
    show w.g[k]? = some xs
    cases q : w.g[k]? with
    | none => rw [q] at h; cases h
    | some ys => rw [q] at h; rw [deqL_eq ys xs h]
  | _ => exact e
theorem src_ok {w : Wd} {d : D} {xs : List D} (e : w.seq d = some xs) : (srcOf d).ok xs w = true := by
  cases d with
  | ref k =>
    have e : w.m[k]? = some xs := e
    show (w.m[k]?).any (fun ys => deqL ys xs) = true
    rw [e]
    exact deqL_refl xs
  | g k =>
    have e : w.g[k]? = some xs := e
    show (w.g[k]?).any (fun ys => deqL ys xs) = true
    rw [e]
    exact deqL_refl xs
  | _ => rfl
theorem walk_l {K : PySem.W.Frag} {A0 : Ad} {H0 : Hp} {w0 : Wd} {d : D} {a : Addr} {xs : List D} (e : w0.seq d = some xs) (r : RD K H0 A0 d (.ref a)) (t : isT d = false) : WalkD K (Itl K a) ⟨xs, (srcOf d).ok xs⟩ A0 H0 := by
  have get : ∀ {A H w σ}, Car A0 H0 A H → Sim K H A w σ → (srcOf d).ok xs w = true → ∃ vs, SqL K H a vs ∧ RDs K H A xs vs := fun {A H w σ} c S ok => by
    obtain ⟨b, vs, eb, rs, h⟩ := S.seq (r.step c d _) (src_seq e ok)
    cases eb
    rcases h with ⟨h, _⟩ | ⟨_, h⟩
    · rw [t] at h; cases h
    · exact ⟨vs, h, rs⟩
  refine ⟨fun A H w σ i c S ok hi => ?_, fun A H w σ c S ok => ?_⟩
  · obtain ⟨vs, h, rs⟩ := get c S ok
    obtain ⟨v, hv, rv⟩ := rs.get (List.getElem?_eq_getElem hi)
    refine ⟨⟨vs, v, h, hv⟩, fun x H' y => ?_⟩
    obtain ⟨rfl, y⟩ := y
    have ev := (y vs h).symm.trans hv
    cases ev
    exact ⟨Step.refl A _, S, fun d' e' => by rw [List.getElem?_eq_getElem hi] at e'; cases e'; exact rv⟩
  · obtain ⟨vs, h, rs⟩ := get c S ok
    exact ⟨vs, h, Nat.le_of_eq rs.length⟩
theorem walk_t {K : PySem.W.Frag} {A0 : Ad} {H0 : Hp} {w0 : Wd} {d : D} {a : Addr} {xs : List D} (e : w0.seq d = some xs) (r : RD K H0 A0 d (.ref a)) (t : isT d = true) : WalkD K (Itt K a) ⟨xs, (srcOf d).ok xs⟩ A0 H0 := by
  have get : ∀ {A H w σ}, Car A0 H0 A H → Sim K H A w σ → (srcOf d).ok xs w = true → ∃ vs, SqT K H a vs ∧ RDs K H A xs vs := fun {A H w σ} c S ok => by
    obtain ⟨b, vs, eb, rs, h⟩ := S.seq (r.step c d _) (src_seq e ok)
    cases eb
    rcases h with ⟨_, h⟩ | ⟨h, _⟩
    · exact ⟨vs, h, rs⟩
    · rw [t] at h; cases h
  refine ⟨fun A H w σ i c S ok hi => ?_, fun A H w σ c S ok => ?_⟩
  · obtain ⟨vs, h, rs⟩ := get c S ok
    obtain ⟨v, hv, rv⟩ := rs.get (List.getElem?_eq_getElem hi)
    refine ⟨⟨vs, v, h, hv⟩, fun x H' y => ?_⟩
    obtain ⟨rfl, y⟩ := y
    have ev := (y vs h).symm.trans hv
    cases ev
    exact ⟨Step.refl A _, S, fun d' e' => by rw [List.getElem?_eq_getElem hi] at e'; cases e'; exact rv⟩
  · obtain ⟨vs, h, rs⟩ := get c S ok
    exact ⟨vs, h, Nat.le_of_eq rs.length⟩
theorem rngL_get : ∀ (n : Nat) (lo : Int) (i : Nat), i < n → (rngL lo n)[i]? = some (.int (lo + i))
  | 0, _, _, h => absurd h (Nat.not_lt_zero _)
  | n + 1, lo, 0, _ => by simp [rngL]
  | n + 1, lo, i + 1, h => by
    show (rngL (lo + 1) n)[i]? = _
    rw [rngL_get n (lo + 1) i (by omega)]
    congr 2
    omega
theorem rngL_length : ∀ (n : Nat) (lo : Int), (rngL lo n).length = n
  | 0, _ => rfl
  | n + 1, lo => by
    show (rngL (lo + 1) n).length + 1 = _
    rw [rngL_length n]
theorem stepL_get : ∀ (n : Nat) (lo c : Int) (i : Nat), i < n → (stepL lo c n)[i]? = some (.int (lo + (i : Nat) * c))
  | 0, _, _, _, h => absurd h (Nat.not_lt_zero _)
  | n + 1, lo, c, 0, _ => by simp [stepL]
  | n + 1, lo, c, i + 1, h => by
    show (stepL (lo + c) c n)[i]? = _
    rw [stepL_get n (lo + c) c i (by omega)]
    congr 2
    rw [Int.natCast_succ, Int.add_mul, Int.one_mul]
    omega
theorem stepL_length : ∀ (n : Nat) (lo c : Int), (stepL lo c n).length = n
  | 0, _, _ => rfl
  | n + 1, lo, c => by
    show (stepL (lo + c) c n).length + 1 = _
    rw [stepL_length n]
theorem walk_c {K : PySem.W.Frag} {A0 : Ad} {H0 : Hp} {lo c : Int} {n : Nat} : WalkD K (Itc lo c n) ⟨stepL lo c n, fun _ => true⟩ A0 H0 := by
  refine ⟨fun A H w σ i _ S ok hi => ?_, fun A H w σ _ S ok => Nat.le_of_eq (stepL_length n lo c).symm⟩
  have hi : i < n := by rw [← stepL_length n lo c]; exact hi
  refine ⟨hi, fun x H' y => ?_⟩
  obtain ⟨rfl, rfl⟩ := y
  refine ⟨Step.refl A _, S, fun d' e' => ?_⟩
  rw [show (⟨stepL lo c n, fun _ => true⟩ : Itd).xs = stepL lo c n from rfl, stepL_get n lo c i hi] at e'
  cases e'
  exact rfl
theorem walk_r {K : PySem.W.Frag} {A0 : Ad} {H0 : Hp} {lo : Int} {n : Nat} : WalkD K (Itr lo n) ⟨rngL lo n, fun _ => true⟩ A0 H0 := by
  refine ⟨fun A H w σ i c S ok hi => ?_, fun A H w σ c S ok => Nat.le_of_eq (rngL_length n lo).symm⟩
  have hi : i < n := by rw [← rngL_length n lo]; exact hi
  refine ⟨hi, fun x H' y => ?_⟩
  obtain ⟨rfl, rfl⟩ := y
  refine ⟨Step.refl A _, S, fun d' e' => ?_⟩
  rw [show (⟨rngL lo n, fun _ => true⟩ : Itd).xs = rngL lo n from rfl, rngL_get n lo i hi] at e'
  cases e'
  exact rfl
end Fz

/-! Q9e: enumerate of lists and tuples, zip of two lists, of two tuples. -/
namespace Fz
open PySem PySem.Spec PyProof.Rows L2

theorem meets_enum1 {v : Value} {o : Obj} {H : Heap → Prop} (B : Begins v o H) :
    Meets (Builtin.«enumerate.__new__» ⟨[.type "enumerate", v], []⟩) (fun _ R s => H s.heap ∧
      R (.ok (.ret (.ref (s.heap.push o).objs.size))) { s with heap := (s.heap.push o).push { cls := .type "enumerate", data := .fields #[.none, .bool false, .ref s.heap.objs.size, rawInt 0, .none, .none] } }) :=
  .of_wp fun prog w A R s h => by
    obtain ⟨hp, g, d, tk, os⟩ := s
    obtain ⟨h1, h⟩ := h
    have hsub := sub_enumerate
    have q1 : ∀ {A' : Around} {E : Value → Shared → Prop} {Q : Value → Shared → Prop}, Q (.ref hp.objs.size) ⟨hp.push o, g, d, tk, os⟩ → wpAny (model prog w) A' (pyIter v) Q E ⟨hp, g, d, tk, os⟩ := fun q => B.iter prog w _ _ ⟨hp, g, d, tk, os⟩ _ h1 q
    wp_walk using q1
    refine wpAny_stack_any fun st => wpAny_pure ?_
    split
    · rename_i c _ _ _ _ _
      cases (c == Value.type "enumerate")
      · wp_walk using q1
        exact ⟨_, rfl, h⟩
      · wp_walk using q1
        exact ⟨_, rfl, h⟩
    · wp_walk using q1
      exact ⟨_, rfl, h⟩
theorem call_enum1 {prog : Program} {w : World} {A : Around} {E : Value → Shared → Prop} {s : Shared} {v : Value} {o : Obj} {H : Heap → Prop} {Q : Value → Shared → Prop} (B : Begins v o H) (h1 : H s.heap)
    (h : ∀ h', IsEnum h' (s.heap.objs.size + 1) s.heap.objs.size 0 .none → h'.get? s.heap.objs.size = some o → h'.objs.size = s.heap.objs.size + 2 → (∀ b o, s.heap.get? b = some o → h'.get? b = some o) → Q (.ref (s.heap.objs.size + 1)) { s with heap := h' }) :
    wpAny (model prog w) A (call (.type "enumerate") [v]) Q E s := by
  refine callType_new F.called_enumerate (by decide) (F.typeCall_enumerate_1 _) (F.newCall_enumerate_1 _) (fun obj => F.args_object_init_2 obj _) F.entry_enumerate_new (meets_enum1 B) ⟨h1, ?_⟩
  have hz : (s.heap.push o).objs.size = s.heap.objs.size + 1 := Heap.size_push ..
  show _ ∧ _
  rw [hz]
  have he : IsEnum ((s.heap.push o).push { cls := .type "enumerate", data := .fields #[.none, .bool false, .ref s.heap.objs.size, rawInt 0, .none, .none] }) (s.heap.objs.size + 1) s.heap.objs.size 0 .none := by
    have := Heap.get?_push_size (s.heap.push o) (o := { cls := .type "enumerate", data := .fields #[.none, .bool false, .ref s.heap.objs.size, rawInt 0, .none, .none] }) rfl
    rw [hz] at this
    exact this
  exact ⟨⟨_, he, rfl⟩, h _ he (Heap.get?_push_of_some _ (Heap.get?_push_size _ B.free)) (by rw [Heap.size_push, hz]) fun b o x => Heap.get?_push_of_some _ (Heap.get?_push_of_some _ x)⟩
theorem enumT_end {prog : Program} {w : World} {A : Around} {E : Value → Shared → Prop} {s : Shared} {e it l : Addr} {i : Nat} {items : Array Value} {old : Value} {Q : Option Value → Shared → Prop} (hh : A.handled = none)
    (he : IsEnum s.heap e it i old) (hit : s.heap.IsTupleIter it l i) (hl : s.heap.IsTuple l items) (hx : items[i]? = none)
    (hQ : ∀ h', Heap.ExtBut it s.heap h' → Q none { s with heap := h' }) : wpAny (model prog w) A (pyNext (.ref e)) Q E s := by
  have hT : s.TypeIs (.ref e) "enumerate" := ⟨_, he, rfl⟩
  unfold pyNext
  refine wpAny_bind (wpAny_attempt (wpAny_callSpecial?_slot (name := Str.ofString "__next__") hT F.slot_enumerate_next (wpAny_call_entry F.slot_enumerate_next hT F.entry_enumerate_next ?_ (F.args_enumerate_next_1 _))))
  show wpAny _ _ (field (.ref e) 2 >>= _) _ _ _
  refine wpAny_bind (wpAny_field he rfl (x := .ref it) rfl ?_)
  refine wpAny_bind (wpAny_nextOf_tuple_end hh hit hl hx fun h' x he' hx' => ?_)
  obtain ⟨o, ho, hc⟩ := hx'
  refine wpAny_bind (wpAny_isInstance (T := "StopIteration") (b := true) ⟨o, ho, hc⟩ isSubtype_stop ?_)
  exact wpAny_pure (hQ _ he')
/-- the tuple at a, each item in a new pair -/
def IteT (K : PySem.W.Frag) (a : Addr) : L2.It :=
  ⟨fun i H => ∃ (xs : List V) (x : V), SqT K H a xs ∧ xs[i]? = some x, fun i H v H' => ∃ T x, v = .ref T ∧ H T = none ∧ H' = upd H T (.tup [.int (i : Nat), x]) ∧ ∀ xs, SqT K H a xs → xs[i]? = some x, fun i H => ∃ xs : List V, SqT K H a xs ∧ xs.length ≤ i⟩
theorem turn_enumT {P : Program} {w : World} {K : PySem.W.Frag} {elts : List Expr} {kk : Nat} {tpos : Pos} (a e it : Addr) :
    Turn P w K (.Tuple elts kk tpos) (IteT K a) [e, it] e (fun i h => (∃ old, IsEnum h e it ((i : Nat) : Int) old) ∧ h.IsTupleIter it a i ∧ e ≠ it) where
  mem := by simp
  obj := fun i h st b hb => by
    obtain ⟨⟨old, he⟩, ⟨o, ho, hc, hd⟩, _⟩ := st
    have e' : b = e ∨ b = it := by simpa using hb
    rcases e' with z | z
    · rw [z]; exact ⟨_, he, fun v q => nomatch q⟩
    · rw [z]; exact ⟨o, ho, fun v q => by rw [hd] at q; cases q⟩
  keep := fun i h h' st k => let ⟨⟨old, he⟩, hi, hne⟩ := st; ⟨⟨old, k e (by simp) _ he⟩, hi.at fun o q => k it (by simp) o q, hne⟩
  item := by
    intro X hP hw hK hc i pins s σ H E I hf st hg
    subst hP hw hK
    obtain ⟨⟨old, he⟩, hit, hne⟩ := st
    obtain ⟨xs, x, hq, hx⟩ := hg
    obtain ⟨its, rv, p, hz⟩ := I.tuple hq
    have p : s.heap.IsTuple a its.toArray := p
    obtain ⟨u, hu, ru⟩ := rv.get hx
    have hel : e < s.heap.objs.size := Heap.lt_size he
    have hil : it < s.heap.objs.size := by obtain ⟨_, q, _⟩ := hit; exact Heap.lt_size q
    have hai : a ≠ it := by
      rintro rfl
      obtain ⟨o1, e1, c1, _⟩ := p
      obtain ⟨o2, e2, c2, _⟩ := hit
      rw [e1] at e2; cases e2
      rw [c1] at c2; exact absurd c2 (by decide)
    have hea : e ≠ a := by
      rintro rfl
      obtain ⟨o1, e1, c1, _⟩ := p
      have he2 : s.heap.get? e = some _ := he
      rw [he2] at e1; cases e1
      exact absurd (show Value.type "enumerate" = Value.type "tuple" from c1) (by decide)
    have hlt : i < its.length := by
      have l := rv.length
      have := (List.getElem?_eq_some_iff.mp hx).1
      omega
    refine wpAny_pyNext_enum_itemC (Draws.tuple (A := X.A.in1) (prog := X.prog) (w := X.w) (I.ok.hd hc) it a hai its.toArray) he ⟨hit, p⟩ (by simpa using hlt) hne (by simp [hne, hea]) fun x' h' tk hx' ho hst' hT hsz hk => ?_
    have hx' : its.toArray[i]? = some x' := hx'
    have ex : x' = u := by
      have : its[i]? = some x' := by simpa using hx'
      rw [hu] at this
      cases this
      rfl
    subst ex
    refine ⟨_, rfl, wpAny_letOwnedTupleGo_enum (s := { s with heap := h', toks := tk + 1 }) ho fun h'' he' sb => ?_⟩
    have hT2 : h''.get? s.heap.objs.size = some { cls := .type "tuple", data := .seq #[.int i tk, x'] } := (sb.2 _ (Nat.ne_of_gt hel)).trans hT
    have new : ObjOk X.prog X.w (upd H s.heap.objs.size (.tup [.int (i : Nat), x])) h'' s.heap.objs.size (.tup [.int (i : Nat), x]) :=
      ⟨by show 2 ≤ sizeLine; decide, [.int i tk, x'], .cons ⟨_, rfl⟩ (.cons ru .nil), ⟨_, hT2, rfl, _, rfl⟩⟩
    have I1 : Inv X pins σ (upd H s.heap.objs.size (.tup [.int (i : Nat), x])) { s with heap := h'', toks := tk + 1 } :=
      I.turnedNew (ch := [e, it]) (fun b ob hb q => (sb.2 b (fun z => hb (by simp [z]))).trans (hk b ob (fun z => hb (by simp [z])) (fun z => hb (by simp [z])) q)) hf (Nat.le_refl _) new
    refine ⟨.ref s.heap.objs.size, _, I1, rfl, ⟨_, x, rfl, I.hok.fresh (Nat.le_refl _), rfl, fun ys hy => by rw [I.tuple_inj hy hq]; exact hx⟩, ⟨⟨x', ?_⟩, hst'.1.at fun o q => (sb.2 it (Ne.symm hne)).trans q, hne⟩, fun b hb => ?_⟩
    · have e1 : ((i + 1 : Nat) : Int) = (i : Int) + 1 := by omega
      rw [e1]
      exact he'
    · have hb' : b < s.heap.objs.size := by
        have e' : b = e ∨ b = it := by simpa using hb
        rcases e' with z | z
        · rw [z]; exact hel
        · rw [z]; exact hil
      rw [upd_ne (Nat.ne_of_lt hb')]
      exact (hf b hb).1
  done := by
    intro X hP hw hK hc i pins s σ H E I hf st hg
    subst hP hw hK
    obtain ⟨⟨old, he⟩, hit, hne⟩ := st
    obtain ⟨xs, hq, hx⟩ := hg
    obtain ⟨its, rv, p, hz⟩ := I.tuple hq
    have p : s.heap.IsTuple a its.toArray := p
    obtain ⟨f0, f1, f2, f3, f4, f5⟩ := hf it (by simp)
    have hl := rv.length
    exact enumT_end (I.ok.hd hc) he hit p (by simp; omega) fun h' eb => ⟨rfl, I.turned (t' := s.toks) (fun b o hb q => eb b o hb q) f0 f1 f3 f4 f5⟩
  self := fun A i s Q E st h => let ⟨⟨_, he⟩, _⟩ := st; wpAny_pyIter_enum he h
def iEnu (K : PySem.W.Frag) (ta : TA) : TI := fun σ H Rr => ta σ H fun vs H1 => ∃ a, vs = [.ref a] ∧ ((∃ xs, SqL K H1 a xs ∧ Rr (Ite K a) H1) ∨ ∃ xs, SqT K H1 a xs ∧ Rr (IteT K a) H1)
theorem pi_enu {X : Cx} {e : Expr} {ta : TA} {p pos tpos : Pos} {elts : List Expr} {kk : Nat} (hg : Gl X "enumerate") (hm : X.mg "enumerate" = none) (ha : PA X [e] ta) (hs : starEach [e] X.env = [(false, eval e X.env)]) :
    PI X (.Tuple elts kk tpos) (.Call (.Name "enumerate" p) [e] [] pos) (iEnu X.K ta) := by
  refine ⟨fun pins s σ H R I h => ?_⟩
  refine Call_ (ld_blt I hg hm boot_enumerate (PyProof.Rows.callWith_type1 (thn (ha.run pos pins s σ H _ I h) fun us s1 ⟨vs, H1, I1, r1, q1⟩ => ?_) hs rfl))
  obtain ⟨a, ex, q⟩ := q1
  subst ex
  cases r1 with
  | cons r rr =>
    cases rr
    cases r
    have fp : ∀ b ∈ [s1.heap.objs.size + 1, s1.heap.objs.size], FpOk X pins H1 b := fun b hb => by
      have e' : b = s1.heap.objs.size + 1 ∨ b = s1.heap.objs.size := by simpa using hb
      have hle : s1.heap.objs.size ≤ b := by
        rcases e' with z | z
        · rw [z]; exact Nat.le_add_right _ _
        · rw [z]; exact Nat.le_refl _
      exact I1.fpOk hle (I1.hok.fresh hle)
    rcases q with ⟨xs, hq, q⟩ | ⟨xs, hq, q⟩
    · obtain ⟨its, rv, p', hz⟩ := I1.list hq
      refine call_enumerate_list p'.isList fun h' he hit hsz hk => wpAny_pyIter_enum he ?_
      have I2 : Inv X pins σ H1 { s1 with heap := h' } := I1.kept (t' := s1.toks) hk
      exact ⟨s1.heap.objs.size + 1, [s1.heap.objs.size + 1, s1.heap.objs.size], _, _, H1, rfl, I2, turn_enum a (s1.heap.objs.size + 1) s1.heap.objs.size, ⟨⟨.none, he⟩, hit, Nat.succ_ne_self _⟩, fp, q⟩
    · obtain ⟨its, rv, p', hz⟩ := I1.tuple hq
      refine call_enum1 (begins_tuple a its.toArray) (show s1.heap.IsTuple a its.toArray from p') fun h' he hit hsz hk => wpAny_pyIter_enum he ?_
      have I2 : Inv X pins σ H1 { s1 with heap := h' } := I1.kept (t' := s1.toks) hk
      exact ⟨s1.heap.objs.size + 1, [s1.heap.objs.size + 1, s1.heap.objs.size], _, _, H1, rfl, I2, turn_enumT a (s1.heap.objs.size + 1) s1.heap.objs.size, ⟨⟨.none, he⟩, ⟨_, hit, rfl, rfl⟩, Nat.succ_ne_self _⟩, fp, q⟩
theorem enuL_get : ∀ (xs : List D) (k : Int) (i : Nat) (x : D), xs[i]? = some x → (enuL k xs)[i]? = some (.tup [.int (k + i), x])
  | [], _, _, _, h => by simp at h
  | y :: ys, k, 0, x, h => by
    simp at h
    subst h
    simp [enuL]
  | y :: ys, k, i + 1, x, h => by
    show (enuL (k + 1) ys)[i]? = _
    rw [enuL_get ys (k + 1) i x (by simpa using h)]
    congr 3
    simp
    omega
theorem enuL_len : ∀ (xs : List D) (k : Int), (enuL k xs).length = xs.length
  | [], _ => rfl
  | y :: ys, k => by show (enuL (k + 1) ys).length + 1 = _; rw [enuL_len ys]; rfl
theorem get_l {K : PySem.W.Frag} {A0 : Ad} {H0 : Hp} {w0 : Wd} {d : D} {a : Addr} {xs : List D} (e : w0.seq d = some xs) (r : RD K H0 A0 d (.ref a)) (t : isT d = false) {A : Ad} {H : Hp} {w : Wd} {σ : Sl} (c : Car A0 H0 A H) (S : Sim K H A w σ) (ok : (srcOf d).ok xs w = true) :
    ∃ vs, SqL K H a vs ∧ RDs K H A xs vs := by
  obtain ⟨b, vs, eb, rs, h⟩ := S.seq (r.step c d _) (src_seq e ok)
  cases eb
  rcases h with ⟨h, _⟩ | ⟨_, h⟩
  · rw [t] at h; cases h
  · exact ⟨vs, h, rs⟩
theorem get_t {K : PySem.W.Frag} {A0 : Ad} {H0 : Hp} {w0 : Wd} {d : D} {a : Addr} {xs : List D} (e : w0.seq d = some xs) (r : RD K H0 A0 d (.ref a)) (t : isT d = true) {A : Ad} {H : Hp} {w : Wd} {σ : Sl} (c : Car A0 H0 A H) (S : Sim K H A w σ) (ok : (srcOf d).ok xs w = true) :
    ∃ vs, SqT K H a vs ∧ RDs K H A xs vs := by
  obtain ⟨b, vs, eb, rs, h⟩ := S.seq (r.step c d _) (src_seq e ok)
  cases eb
  rcases h with ⟨_, h⟩ | ⟨h, _⟩
  · exact ⟨vs, h, rs⟩
  · rw [t] at h; cases h
theorem pair_new {K : PySem.W.Frag} {A : Ad} {H : Hp} {w : Wd} {σ : Sl} {T : Addr} {x y : D} {u v : V} (S : Sim K H A w σ) (hT : H T = none) (rx : RD K H A x u) (ry : RD K H A y v) :
    Step A H A (upd H T (.tup [u, v])) ∧ Sim K (upd H T (.tup [u, v])) A w σ ∧ RD K (upd H T (.tup [u, v])) A (.tup [x, y]) (.ref T) := by
  have hc := (S.fresh hT).1.2.2
  exact ⟨Step.new hT hc, S.new hT, RD.newT hT hc ⟨_, _, rfl, rx, _, _, rfl, ry, rfl⟩⟩
theorem walk_e {K : PySem.W.Frag} {A0 : Ad} {H0 : Hp} {w0 : Wd} {d : D} {a : Addr} {xs : List D} (e : w0.seq d = some xs) (r : RD K H0 A0 d (.ref a)) (t : isT d = false) : WalkD K (Ite K a) ⟨enuL 0 xs, (srcOf d).ok xs⟩ A0 H0 := by
  refine ⟨fun A H w σ i c S ok hi => ?_, fun A H w σ c S ok => ?_⟩
  · have hi : i < xs.length := by rw [← enuL_len xs 0]; exact hi
    obtain ⟨vs, h, rs⟩ := get_l e r t c S ok
    obtain ⟨v, hv, rv⟩ := rs.get (List.getElem?_eq_getElem hi)
    refine ⟨⟨vs, v, h, hv⟩, fun x H' y => ?_⟩
    obtain ⟨T, x', rfl, hT, rfl, f⟩ := y
    have ev := (f vs h).symm.trans hv
    cases ev
    obtain ⟨a1, a2, a3⟩ := pair_new (x := .int i) (u := .int (i : Nat)) S hT rfl rv
    refine ⟨a1, a2, fun d' e' => ?_⟩
    rw [enuL_get xs 0 i _ (List.getElem?_eq_getElem hi)] at e'
    cases e'
    rw [Int.zero_add]
    exact a3
  · obtain ⟨vs, h, rs⟩ := get_l e r t c S ok
    exact ⟨vs, h, by rw [enuL_len]; exact Nat.le_of_eq rs.length⟩
theorem walk_et {K : PySem.W.Frag} {A0 : Ad} {H0 : Hp} {w0 : Wd} {d : D} {a : Addr} {xs : List D} (e : w0.seq d = some xs) (r : RD K H0 A0 d (.ref a)) (t : isT d = true) : WalkD K (IteT K a) ⟨enuL 0 xs, (srcOf d).ok xs⟩ A0 H0 := by
  refine ⟨fun A H w σ i c S ok hi => ?_, fun A H w σ c S ok => ?_⟩
  · have hi : i < xs.length := by rw [← enuL_len xs 0]; exact hi
    obtain ⟨vs, h, rs⟩ := get_t e r t c S ok
    obtain ⟨v, hv, rv⟩ := rs.get (List.getElem?_eq_getElem hi)
    refine ⟨⟨vs, v, h, hv⟩, fun x H' y => ?_⟩
    obtain ⟨T, x', rfl, hT, rfl, f⟩ := y
    have ev := (f vs h).symm.trans hv
    cases ev
    obtain ⟨a1, a2, a3⟩ := pair_new (x := .int i) (u := .int (i : Nat)) S hT rfl rv
    refine ⟨a1, a2, fun d' e' => ?_⟩
    rw [enuL_get xs 0 i _ (List.getElem?_eq_getElem hi)] at e'
    cases e'
    rw [Int.zero_add]
    exact a3
  · obtain ⟨vs, h, rs⟩ := get_t e r t c S ok
    exact ⟨vs, h, by rw [enuL_len]; exact Nat.le_of_eq rs.length⟩
theorem zipD_get : ∀ (xs ys : List D) (i : Nat) (x y : D), xs[i]? = some x → ys[i]? = some y → (zipD xs ys)[i]? = some (.tup [x, y])
  | [], _, _, _, _, h, _ => by simp at h
  | _ :: _, [], _, _, _, _, h => by simp at h
  | a :: as, b :: bs, 0, x, y, h, h2 => by
    simp at h h2
    subst h h2
    rfl
  | a :: as, b :: bs, i + 1, x, y, h, h2 => zipD_get as bs i x y (by simpa using h) (by simpa using h2)
theorem zipD_len : ∀ (xs ys : List D), (zipD xs ys).length = min xs.length ys.length
  | [], _ => by simp [zipD]
  | _ :: _, [] => by simp [zipD]
  | a :: as, b :: bs => by show (zipD as bs).length + 1 = _; rw [zipD_len as bs]; simp
theorem walk_z {K : PySem.W.Frag} {A0 : Ad} {H0 : Hp} {w0 : Wd} {d d2 : D} {a b : Addr} {xs ys : List D} (e : w0.seq d = some xs) (e2 : w0.seq d2 = some ys) (r : RD K H0 A0 d (.ref a)) (r2 : RD K H0 A0 d2 (.ref b)) (t : isT d = false) (t2 : isT d2 = false) :
    WalkD K (Itz K a b) ⟨zipD xs ys, fun w => (srcOf d).ok xs w && (srcOf d2).ok ys w⟩ A0 H0 := by
  refine ⟨fun A H w σ i c S ok hi => ?_, fun A H w σ c S ok => ?_⟩
  · obtain ⟨o1, o2⟩ := Bool.and_eq_true_iff.mp ok
    have hi : i < (zipD xs ys).length := hi
    rw [zipD_len] at hi
    have hx : i < xs.length := by omega
    have hy : i < ys.length := by omega
    obtain ⟨vs, h, rs⟩ := get_l e r t c S o1
    obtain ⟨us, h2, rs2⟩ := get_l e2 r2 t2 c S o2
    obtain ⟨v, hv, rv⟩ := rs.get (List.getElem?_eq_getElem hx)
    obtain ⟨u, hu, ru⟩ := rs2.get (List.getElem?_eq_getElem hy)
    refine ⟨⟨vs, us, v, u, h, h2, hv, hu⟩, fun x H' y => ?_⟩
    obtain ⟨T, x', y', rfl, hT, rfl, f, f2⟩ := y
    have ev := (f vs h).symm.trans hv
    have eu := (f2 us h2).symm.trans hu
    cases ev
    cases eu
    obtain ⟨a1, a2, a3⟩ := pair_new S hT rv ru
    refine ⟨a1, a2, fun d' e' => ?_⟩
    rw [zipD_get xs ys i _ _ (List.getElem?_eq_getElem hx) (List.getElem?_eq_getElem hy)] at e'
    cases e'
    exact a3
  · obtain ⟨o1, o2⟩ := Bool.and_eq_true_iff.mp ok
    obtain ⟨vs, h, rs⟩ := get_l e r t c S o1
    obtain ⟨us, h2, rs2⟩ := get_l e2 r2 t2 c S o2
    refine ⟨vs, us, h, h2, ?_⟩
    have l1 := rs.length
    have l2 := rs2.length
    show vs.length ≤ (zipD xs ys).length ∨ us.length ≤ (zipD xs ys).length
    rw [zipD_len]
    omega
theorem walk_zt {K : PySem.W.Frag} {A0 : Ad} {H0 : Hp} {w0 : Wd} {d d2 : D} {a b : Addr} {xs ys : List D} (e : w0.seq d = some xs) (e2 : w0.seq d2 = some ys) (r : RD K H0 A0 d (.ref a)) (r2 : RD K H0 A0 d2 (.ref b)) (t : isT d = true) (t2 : isT d2 = true) :
    WalkD K (RZ.ItzT K a b) ⟨zipD xs ys, fun w => (srcOf d).ok xs w && (srcOf d2).ok ys w⟩ A0 H0 := by
  refine ⟨fun A H w σ i c S ok hi => ?_, fun A H w σ c S ok => ?_⟩
  · obtain ⟨o1, o2⟩ := Bool.and_eq_true_iff.mp ok
    have hi : i < (zipD xs ys).length := hi
    rw [zipD_len] at hi
    have hx : i < xs.length := by omega
    have hy : i < ys.length := by omega
    obtain ⟨vs, h, rs⟩ := get_t e r t c S o1
    obtain ⟨us, h2, rs2⟩ := get_t e2 r2 t2 c S o2
    obtain ⟨v, hv, rv⟩ := rs.get (List.getElem?_eq_getElem hx)
    obtain ⟨u, hu, ru⟩ := rs2.get (List.getElem?_eq_getElem hy)
    refine ⟨⟨vs, us, v, u, h, h2, hv, hu⟩, fun x H' y => ?_⟩
    obtain ⟨T, x', y', rfl, hT, rfl, f, f2⟩ := y
    have ev := (f vs h).symm.trans hv
    have eu := (f2 us h2).symm.trans hu
    cases ev
    cases eu
    obtain ⟨a1, a2, a3⟩ := pair_new S hT rv ru
    refine ⟨a1, a2, fun d' e' => ?_⟩
    rw [zipD_get xs ys i _ _ (List.getElem?_eq_getElem hx) (List.getElem?_eq_getElem hy)] at e'
    cases e'
    exact a3
  · obtain ⟨o1, o2⟩ := Bool.and_eq_true_iff.mp ok
    obtain ⟨vs, h, rs⟩ := get_t e r t c S o1
    obtain ⟨us, h2, rs2⟩ := get_t e2 r2 t2 c S o2
    refine ⟨vs, us, h, h2, ?_⟩
    have l1 := rs.length
    have l2 := rs2.length
    show vs.length ≤ (zipD xs ys).length ∨ us.length ≤ (zipD xs ys).length
    rw [zipD_len]
    omega
end Fz

/-! Q10: handing data to a callee and back; the checker of expressions. -/
namespace Fz
open PySem PySem.Spec PyProof.Rows L2
section
variable {K : PySem.W.Frag} {H H' : Hp} {A A' : Ad} {w : Wd} {σ : Sl}
mutual
theorem rs_rd {ρ : Nat → Option D} {φ : Bool} (hk : ∀ (k : Nat) a d', ρ k = some d' → A.mu[k]? = some a → RD K H A' d' (.ref a)) (ho : ∀ a, A.out a → A'.out a) (hb : ∀ a, A.out a → a ∉ A.bad → a ∉ A'.bad) (hg : A'.ga = A.ga) :
    ∀ (d : D) (v : V) (d' : D), rs ρ φ d = some d' → RD K H A d v → RD K H A' d' v
  | .non, _, _, e, h => by cases e; exact h
  | .bl _, _, _, e, h => by cases e; exact h
  | .int _, _, _, e, h => by cases e; exact h
  | .str _, _, _, e, h => by cases e; exact h
  | .tup ds, _, _, e, h => by
    obtain ⟨a, vs, rfl, q, r⟩ := h
    simp only [rs, Option.map_eq_some_iff] at e
    obtain ⟨es, e1, rfl⟩ := e
    exact ⟨a, vs, rfl, q, rsL_rd hk ho hb hg ds vs es e1 r⟩
  | .lst ds, _, _, e, h => by
    obtain ⟨a, vs, rfl, q, x, y, r⟩ := h
    simp only [rs, Option.map_eq_some_iff] at e
    obtain ⟨es, e1, rfl⟩ := e
    exact ⟨a, vs, rfl, q, ho a x, hb a x y, rsL_rd hk ho hb hg ds vs es e1 r⟩
  | .fl ds, _, _, e, h => by
    obtain ⟨a, vs, rfl, q, x, r⟩ := h
    simp only [rs] at e
    split at e
    · obtain ⟨es, e1, rfl⟩ := Option.map_eq_some_iff.mp e
      exact ⟨a, vs, rfl, q, ho a x, rsL_rd hk ho hb hg ds vs es e1 r⟩
    · cases e
  | .sc ds, _, _, e, h => by
    obtain ⟨a, vs, rfl, q, r⟩ := h
    simp only [rs] at e
    split at e
    · obtain ⟨es, e1, rfl⟩ := Option.map_eq_some_iff.mp e
      exact ⟨a, vs, rfl, q, rsL_rd hk ho hb hg ds vs es e1 r⟩
    · cases e
  | .ref k, _, _, e, h => by
    obtain ⟨a, q, rfl⟩ := h
    exact hk k a _ e q
  | .g k, _, _, e, h => by
    cases e
    obtain ⟨a, q, rfl⟩ := h
    exact ⟨a, by rw [hg]; exact q, rfl⟩
  | .dic ks ds, _, _, e, h => by
    obtain ⟨a, vs, rfl, q, x, y, z, r⟩ := h
    simp only [rs, Option.map_eq_some_iff] at e
    obtain ⟨es, e1, rfl⟩ := e
    exact ⟨a, vs, rfl, q, ho a x, hb a x y, z, rsL_rd hk ho hb hg ds _ es e1 r⟩
theorem rsL_rd {ρ : Nat → Option D} {φ : Bool} (hk : ∀ (k : Nat) a d', ρ k = some d' → A.mu[k]? = some a → RD K H A' d' (.ref a)) (ho : ∀ a, A.out a → A'.out a) (hb : ∀ a, A.out a → a ∉ A.bad → a ∉ A'.bad) (hg : A'.ga = A.ga) :
    ∀ (ds : List D) (vs : List V) (ds' : List D), rsL ρ φ ds = some ds' → RDs K H A ds vs → RDs K H A' ds' vs
  | [], _, _, e, h => by cases e; exact h
  | d :: ds, _, _, e, h => by
    obtain ⟨v, r, rfl, x, y⟩ := h
    simp only [rsL, Option.bind_eq_some_iff, Option.map_eq_some_iff] at e
    obtain ⟨d', e1, es, e2, rfl⟩ := e
    exact ⟨v, r, rfl, rs_rd hk ho hb hg d v d' e1 x, rsL_rd hk ho hb hg ds r es e2 y⟩
end
/-- the refs from L on as what they hold -/
theorem up_rd (S : Sim K H A w σ) {mk : List D → D} {L : Nat} {φ : Bool} (ho : ∀ a, A.out a → A'.out a) (hb : ∀ a, A.out a → a ∉ A.bad → a ∉ A'.bad) (hg : A'.ga = A.ga)
    (hlow : ∀ (k : Nat) a, k < L → A.mu[k]? = some a → A'.mu[k]? = some a) (hmk : ∀ (k : Nat) a ys vs, ¬ k < L → A.mu[k]? = some a → H a = some (.lst vs) → RDs K H A' ys vs → RD K H A' (mk ys) (.ref a)) :
    ∀ (n k : Nat) (a : Addr) (d' : D), up mk L w.m φ n k = some d' → A.mu[k]? = some a → RD K H A' d' (.ref a)
  | 0, k, a, d', e, h => by
    simp only [up] at e
    split at e
    · rename_i hl
      cases e
      exact ⟨a, hlow k a hl h, rfl⟩
    · cases e
  | n + 1, k, a, d', e, h => by
    simp only [up] at e
    split at e
    · rename_i hl
      cases e
      exact ⟨a, hlow k a hl h, rfl⟩
    · rename_i hl
      simp only [Option.bind_eq_some_iff, Option.map_eq_some_iff] at e
      obtain ⟨ds, e1, ys, e2, rfl⟩ := e
      obtain ⟨xs, vs, q1, q2, q3⟩ := S.mu.get h
      rw [e1] at q1
      cases q1
      exact hmk k a ys vs hl h q2 (rsL_rd (fun k a d' e h => up_rd S ho hb hg hlow hmk n k a d' e h) ho hb hg ds vs ys e2 q3)
/-- what a callee stands upon -/
def Ad.sub (A : Ad) : Ad := ⟨[], A.ga, A.bad ++ (A.mu ++ A.cn), []⟩
theorem Ad.sub_out {a : Addr} (h : A.out a) : A.sub.out a := ⟨by simp [Ad.sub], h.2.1, by simp [Ad.sub]⟩
theorem Ad.sub_bad {a : Addr} (h : A.out a) (h2 : a ∉ A.bad) : a ∉ A.sub.bad := fun z => by
  rcases List.mem_append.mp z with z | z
  · exact h2 z
  · rcases List.mem_append.mp z with z | z
    · exact h.1 z
    · exact h.2.2 z
theorem lendL_rd (S : Sim K H A w σ) {ds ds' : List D} {vs : List V} (e : lendL w ds = some ds') (r : RDs K H A ds vs) : RDs K H A.sub ds' vs := by
  refine rsL_rd (fun k a d' e h => up_rd S (fun a h => Ad.sub_out h) (fun a => Ad.sub_bad) rfl (fun k a h => absurd h (Nat.not_lt_zero _)) (fun k a ys vs _ h1 h2 h3 => ?_) 4 k a d' e h) (fun a h => Ad.sub_out h) (fun a => Ad.sub_bad) rfl ds vs ds' e r
  exact ⟨a, vs, rfl, h2, ⟨by simp [Ad.sub], (S.dj a (List.mem_of_getElem? h1)).1, by simp [Ad.sub]⟩, h3⟩
theorem gOk_rd (hg : A'.ga = A.ga ∨ ∀ (k : Nat) a, A.ga[k]? = some a → A'.ga[k]? = some a) : ∀ {xs : List D} {vs : List V}, xs.all gOk = true → RDs K H A xs vs → RDs K H' A' xs vs
  | [], _, _, h => h
  | d :: ds, _, g, h => by
    obtain ⟨v, r, e, x, y⟩ := h
    obtain ⟨g1, g2⟩ := Bool.and_eq_true_iff.mp (show (gOk d && ds.all gOk) = true from g)
    refine ⟨v, r, e, ?_, gOk_rd hg g2 y⟩
    cases d with
    | g k =>
      obtain ⟨a, q, e⟩ := x
      refine ⟨a, ?_, e⟩
      rcases hg with hg | hg
      · rw [hg]; exact q
      · exact hg k a q
    | non => exact x
    | bl _ => exact x
    | int _ => exact x
    | str _ => exact x
    | _ => cases g1
theorem RL.gok (k : ∀ a vs, H a = some (.lst vs) → a ∈ A.ga → H' a = some (.lst vs)) (hg : A'.ga = A.ga ∨ ∀ (k : Nat) a, A.ga[k]? = some a → A'.ga[k]? = some a) : ∀ {as : List Addr} {ms : List (List D)}, (∀ a ∈ as, a ∈ A.ga) → (∀ xs ∈ ms, xs.all gOk = true) → RL K H A as ms → RL K H' A' as ms
  | [], _, _, _, h => h
  | a :: as, _, hm, g, h => by
    obtain ⟨xs, r, vs, rfl, x, y, z⟩ := h
    exact ⟨xs, r, vs, rfl, k a vs x (hm a List.mem_cons_self), gOk_rd hg (g xs List.mem_cons_self) y, RL.gok k hg (fun b hb => hm b (List.mem_cons_of_mem _ hb)) (fun ys hy => g ys (List.mem_cons_of_mem _ hy)) z⟩
theorem Sim.sub (S : Sim K H A w σ) : Sim K H A.sub ⟨[], [], w.g⟩ [] where
  loc := fun i d e => by simp at e
  len := rfl
  mu := rfl
  ga := RL.gok (A := A) (A' := A.sub) (fun _ _ h _ => h) (.inl rfl) (fun _ h => h) S.gk S.ga
  nd := List.nodup_nil
  ndg := S.ndg
  dj := fun a h => by simp [Ad.sub] at h
  djg := fun a h => by
    rcases List.mem_append.mp h with h | h
    · exact S.djg a h
    · rcases List.mem_append.mp h with h | h
      · exact (S.dj a h).1
      · exact (S.cnd a h).2.1
  bt := fun a h => by
    rcases List.mem_append.mp h with h | h
    · exact S.bt a h
    · rcases List.mem_append.mp h with h | h
      · exact (S.mu.tracked h).elim fun vs e => ⟨_, e⟩
      · exact (S.cnt a h).elim fun vs e => ⟨_, e⟩
  cnt := fun a h => by simp [Ad.sub] at h
  cnd := fun a h => by simp [Ad.sub] at h
  gk := S.gk
mutual
/-- a callee's result at the caller's -/
theorem ret_rd (ho : ∀ a, A.out a → a ∉ A.bad → A'.out a ∧ a ∉ A'.bad) (hg : A'.ga = A.ga) : ∀ (d : D) (v : V), okRet d = true → RD K H A d v → RD K H A' d v
  | .non, _, _, h => h
  | .bl _, _, _, h => h
  | .int _, _, _, h => h
  | .str _, _, _, h => h
  | .tup ds, _, o, h => by
    obtain ⟨a, vs, rfl, q, r⟩ := h
    exact ⟨a, vs, rfl, q, rets_rd ho hg ds vs (by simpa [okRet] using o) r⟩
  | .lst ds, _, o, h => by
    obtain ⟨a, vs, rfl, q, x, y, r⟩ := h
    obtain ⟨x', y'⟩ := ho a x y
    exact ⟨a, vs, rfl, q, x', y', rets_rd ho hg ds vs (by simpa [okRet] using o) r⟩
  | .fl _, _, o, _ => nomatch o
  | .sc _, _, o, _ => nomatch o
  | .ref _, _, o, _ => nomatch o
  | .g k, _, _, h => by
    obtain ⟨a, q, rfl⟩ := h
    exact ⟨a, by rw [hg]; exact q, rfl⟩
  | .dic ks ds, _, o, h => by
    obtain ⟨a, vs, rfl, q, x, y, z, r⟩ := h
    obtain ⟨x', y'⟩ := ho a x y
    exact ⟨a, vs, rfl, q, x', y', z, rets_rd ho hg ds _ (by simpa [okRet] using o) r⟩
theorem rets_rd (ho : ∀ a, A.out a → a ∉ A.bad → A'.out a ∧ a ∉ A'.bad) (hg : A'.ga = A.ga) : ∀ (ds : List D) (vs : List V), okRets ds = true → RDs K H A ds vs → RDs K H A' ds vs
  | [], _, _, h => h
  | d :: ds, _, o, h => by
    obtain ⟨v, r, rfl, x, y⟩ := h
    obtain ⟨o1, o2⟩ := Bool.and_eq_true_iff.mp (show (okRet d && okRets ds) = true by simpa [okRets] using o)
    exact ⟨v, r, rfl, ret_rd ho hg d v o1 x, rets_rd ho hg ds r o2 y⟩
end
/-- behind a call -/
theorem Sim.behind {A1 : Ad} {g' : List (List D)} {d : D} {v : V} (S : Sim K H A w σ) (st : Step A.sub H A1 H') (hm : A1.mu = []) (S1 : Sim K H' A1 ⟨[], [], g'⟩ []) (o : okRet d = true) (r : RD K H' A1 d v) :
    ∃ A', Step A H A' H' ∧ Sim K H' A' { w with g := g' } σ ∧ RD K H' A' d v := by
  have hc : A1.cn = [] := st.cn
  have hbad : A1.bad = A.bad ++ (A.mu ++ A.cn) := st.bad
  have kp : ∀ a o, H a = some o → a ∉ A.ga → H' a = some o ∧ a ∉ A1.ga := fun a o e h =>
    let ⟨q, x⟩ := st.kept a o e ⟨by simp [Ad.sub], h, by simp [Ad.sub]⟩
    ⟨q, x.2.1⟩
  have c : Car A H ⟨A.mu, A1.ga, A.bad, A.cn⟩ H' := ⟨fun a o e x => let ⟨q, y⟩ := kp a o e x.2.1; ⟨q, x.1, y, x.2.2⟩, st.tup, st.frz, fun _ _ h => h, st.ga, rfl⟩
  have mt : ∀ a ∈ A.mu, ∃ vs, H a = some (.lst vs) := fun a h => S.mu.tracked h
  refine ⟨⟨A.mu, A1.ga, A.bad, A.cn⟩, ⟨c, rfl, fun a h => ?_⟩, ⟨fun i d e => let ⟨v, e1, r⟩ := S.loc i d e; ⟨v, e1, r.step c d v⟩, S.len, RL.carry (fun xs vs h => h.step c) (fun a ha vs h => (kp a _ h (S.dj a ha).1).1) S.mu, ?_, S.nd, S1.ndg, fun a ha => ⟨?_, (S.dj a ha).2⟩, fun a ha => ?_, fun a ha => ?_, fun a ha => ?_, fun a ha => ⟨(S.cnd a ha).1, ?_, (S.cnd a ha).2.2⟩, S1.gk⟩, ?_⟩
  · obtain ⟨vs, e⟩ := S.cnt a h
    rw [e]
    exact (kp a _ e (S.cnd a h).2.1).1
  · exact RL.gok (A := A1) (A' := ⟨A.mu, A1.ga, A.bad, A.cn⟩) (fun _ _ h _ => h) (.inl rfl) (fun _ h => h) S1.gk S1.ga
  · obtain ⟨vs, e⟩ := mt a ha
    exact (kp a _ e (S.dj a ha).1).2
  · obtain ⟨o, e⟩ := S.bt a ha
    exact (kp a _ e (S.djg a ha)).2
  · obtain ⟨o, e⟩ := S.bt a ha
    exact ⟨o, (kp a _ e (S.djg a ha)).1⟩
  · obtain ⟨vs, e⟩ := S.cnt a ha
    exact ⟨vs, (kp a _ e (S.cnd a ha).2.1).1⟩
  · obtain ⟨vs, e⟩ := S.cnt a ha
    exact (kp a _ e (S.cnd a ha).2.1).2
  · refine ret_rd (A := A1) (A' := ⟨A.mu, A1.ga, A.bad, A.cn⟩) (fun a x y => ?_) rfl d v o r
    rw [hbad] at y
    exact ⟨⟨fun z => y (List.mem_append_right _ (List.mem_append_left _ z)), x.2.1, fun z => y (List.mem_append_right _ (List.mem_append_right _ z))⟩, fun z => y (List.mem_append_left _ z)⟩
end
theorem arr_vals : ∀ {p : List Nat} {vs : List V} {us : List Value} {vs' : List V}, Vals vs us → arr p vs = some vs' → ∃ us', arr p us = some us' ∧ Vals vs' us'
  | [], _, _, _, _, e => by cases e; exact ⟨[], rfl, .nil⟩
  | i :: p, vs, us, _, r, e => by
    simp only [arr, Option.bind_eq_some_iff, Option.map_eq_some_iff] at e ⊢
    obtain ⟨v, e1, ys, e2, rfl⟩ := e
    obtain ⟨u, h1, h2⟩ := r.get e1
    obtain ⟨zs, h3, h4⟩ := arr_vals (p := p) r e2
    exact ⟨u :: zs, ⟨u, h1, zs, h3, rfl⟩, .cons h2 h4⟩
theorem arr_rds {K : PySem.W.Frag} {H : Hp} {A : Ad} : ∀ {p : List Nat} {ds : List D} {vs : List V} {ds' : List D}, RDs K H A ds vs → arr p ds = some ds' → ∃ vs', arr p vs = some vs' ∧ RDs K H A ds' vs'
  | [], _, _, _, _, e => by cases e; exact ⟨[], rfl, rfl⟩
  | i :: p, ds, vs, _, r, e => by
    simp only [arr, Option.bind_eq_some_iff, Option.map_eq_some_iff] at e ⊢
    obtain ⟨d, e1, ys, e2, rfl⟩ := e
    obtain ⟨v, h1, h2⟩ := r.get e1
    obtain ⟨zs, h3, h4⟩ := arr_rds (p := p) r e2
    exact ⟨v :: zs, ⟨v, h1, zs, h3, rfl⟩, v, zs, rfl, h2, h4⟩
theorem arrD_rds {K : PySem.W.Frag} {H : Hp} {A : Ad} {p : Option (List Nat)} {ds : List D} {vs : List V} {ds' : List D} {us : List Value} (r : RDs K H A ds vs) (q : Vals vs us) (e : arrD p ds = some ds') :
    ∃ vs' us', arrD p us = some us' ∧ Vals vs' us' ∧ RDs K H A ds' vs' := by
  cases p with
  | none =>
    cases e
    exact ⟨vs, us, rfl, q, r⟩
  | some p =>
    obtain ⟨vs', e1, r'⟩ := arr_rds r e
    obtain ⟨us', e2, q'⟩ := arr_vals q e1
    exact ⟨vs', us', e2, q', r'⟩
section
variable {T : Tb} {P : Pg} {lv : Nat} {N : List Str} {sc : Scope} {top : Bool} {X : Cx}
/-- a def is called -/
theorem call_sound (G : GX T P lv N sc top X) {j : Nat} {dd : Str × List Str} (hj : T.defs[j]? = some dd) (hlv : j < lv) :
    ∃ f, X.mg dd.1 = some (.ref f) ∧ PySem.W.keepIn X.K (.ref f) = true ∧ ∀ (n : Nat) (ks : List Str) (p : Option (List Nat)), (j, n, ks, p) ∈ T.binds →
      ∀ (pins : List (Addr × Obj)) (s : Shared) (σ : Sl) (H : Hp) (Q : VK) (us ws : List Value) (vs zs : List V) (A : Ad) (w : Wd) (ds es as bs : List D) (d : D) (g' : List (List D)),
        Inv X pins σ H s → Vals vs us → Vals zs ws → Sim X.K H A w σ → RDs X.K H A ds vs → RDs X.K H A es zs → ds.length = n → es.length = ks.length → lendL w (ds ++ es) = some as → arrD p as = some bs → bs.length = dd.2.length →
        P.F j bs w.g = .ok (d, g') → Aft X.K A H σ d { w with g := g' } Q → wpAny (model X.prog X.w) X.A (call (.ref f) us (ks.zip ws)) (EP X pins σ Q) X.xe s := by
  obtain ⟨f, fd, h1, h2, F, hb, hr⟩ := G.defs j dd hj hlv
  refine ⟨f, h1, h2, fun n ks p hm pins s σ H Q us ws vs zs A w ds es as bs d g' I r1 r2 S q1 q2 l1 l2 e1 e2 l3 e3 q => ?_⟩
  have rr := lendL_rd S e1 (q1.append q2)
  obtain ⟨vs', us', e4, q', r'⟩ := arrD_rds rr (r1.append r2) e2
  have hbind := hb n ks p hm s us ws us' (by rw [← r1.length, q1.length]; exact l1) (by rw [← r2.length, q2.length]; exact l2) e4
  have hs : spD X.K (P.F j) dd.2.length vs' H (fun v H' => Q v H') (fun _ _ _ => False) := by
    refine ⟨A.sub, w.g, bs, d, g', rfl, rfl, S.sub, r', l3, e3, fun A1 v H' st hm S1 rv => ?_⟩
    obtain ⟨A', st', S', r''⟩ := S.behind st hm S1 (hr _ _ _ _ e3) rv
    exact q A' v H' st' S' r''
  refine wpAny_call (codeAny_mono (F.run X.A X.stack s H ⟨us, ks.zip ws⟩ us' vs' _ (fun _ _ _ => False) G.room G.gd I.env0 hbind q' hs) fun r s' hq => ?_)
  cases r with
  | error e => exact hq.elim
  | ok fl =>
    cases fl with
    | ret u => exact I.after hq
    | next => exact False.elim hq
    | brk => exact False.elim hq
    | cont => exact False.elim hq
end
end Fz

/-! Q11: the rules of expressions over data. -/
namespace Fz
open PySem PySem.Spec PyProof.Rows L2

/-- an expression, as a value and as a test -/
structure Snd (X : Cx) (P : Pg) (e : E) (ex : Expr) : Prop where
  pe : PE X ex (rd X.K (evE P e))
  pt : PT X ex (rdT X.K (evT P e))
  pw : ∀ op vs pos, ex = .BoolOp op vs pos → PW X ex (rdT X.K (evT P e))
def okX : Expr → Bool
  | .Starred _ _ => false
  | .Set _ _ _ => false
  | .Slice _ _ _ _ => false
  | _ => true
/-- its test is the truth of its value -/
def plainT : Expr → Bool
  | .UnaryOp .Not _ _ => false
  | .BoolOp _ _ _ => false
  | .IfExp _ _ _ _ => false
  | .Compare _ _ _ _ => false
  | _ => true
theorem plainT_ok {e : Expr} {env : Env} (h : plainT e = true) (whole : Sem Value) : isTrue e env whole = (do let v ← whole; standAt e.pos; holding [v] (truthy v)) := by
  cases e with
  | UnaryOp op x pos => cases op <;> first | rfl | cases h
  | BoolOp op vs pos => cases h
  | IfExp a b c pos => cases h
  | Compare a b c pos => cases h
  | _ => rfl
theorem starEach_cons {e : Expr} {es : List Expr} {env : Env} (h : okX e = true) : starEach (e :: es) env = (false, eval e env) :: starEach es env := by
  cases e <;> first | rfl | cases h
theorem noStars {pos : Pos} {env : Env} : ∀ {es : List Expr}, es.all okX = true → (backTo pos (starEach es env)).any (·.1) = false
  | [], _ => rfl
  | e :: es, h => by
    obtain ⟨h1, h2⟩ := Bool.and_eq_true_iff.mp (show (okX e && es.all okX) = true from h)
    rw [starEach_cons h1]
    exact noStars (es := es) h2
theorem behind_ok {e : Expr} {op : CmpOp} (h : okX e = true) : behindInMarks op e = false := by
  cases e <;> first | rfl | cases h
theorem plainIx_ok {e : Expr} (h : okX e = true) : PlainIx e := by
  intro o i
  cases e <;> first | rfl | cases h
theorem folded_ok {e : Expr} {env : Env} (h : okX e = true) (x : Value) : foldedSetIterable e env x = pure x := by
  cases e <;> first | rfl | cases h
section
variable {T : Tb} {P : Pg} {lv : Nat} {N : List Str} {sc : Scope} {top : Bool} {X : Cx}
theorem GX.hu (G : GX T P lv N sc top X) : X.A.units + 64 < cLine := G.room.units
theorem GX.hu1 (G : GX T P lv N sc top X) : X.A.units + 1 < cLine := by have := G.hu; omega
/-- by its value -/
theorem Snd.plain {e : E} {ex : Expr} (h : PE X ex (rd X.K (evE P e))) (p : plainT ex = true) : Snd X P e ex := by
  refine ⟨h, PTimp (pt_truth h (fun w => plainT_ok p w)) fun σ H Q q => ?_, fun op vs pos z => by subst z; cases p⟩
  obtain ⟨A, w, S, b, w', e1, q⟩ := q
  obtain ⟨x, e2, e3⟩ := bd_split (show ((evE P e w).bd fun x => (R.of (x.2.tru x.1)).bd fun b => R.ok (b, x.2)) = .ok (b, w') from e1)
  obtain ⟨c, e4, e5⟩ := bd_split e3
  cases e5
  exact ⟨A, w, S, x.1, x.2, e2, fun A' v H' st S' r => ⟨b, S'.tru (of_split e4) r, q A' H' st S'⟩⟩
/-- two values, one rule -/
theorem rd2 {fa fb : Wd → R (D × Wd)} {k : D → D → Wd → R (D × Wd)} {r : R2}
    (hr : ∀ A w σ d e r' w' x y H Q, Sim X.K H A w σ → RD X.K H A d x → RD X.K H A e y → k d e w = .ok (r', w') → Aft X.K A H σ r' w' Q → r x y H Q) :
    ∀ σ H Q, rd X.K (fun w => (fa w).bd fun x => (fb x.2).bd fun y => k x.1 y.1 y.2) σ H Q → tOp r (rd X.K fa) (rd X.K fb) σ H Q := by
  intro σ H Q q
  obtain ⟨A, w, S, d, w', e1, q⟩ := q
  obtain ⟨x, ea, e1⟩ := bd_split e1
  obtain ⟨y, eb, e1⟩ := bd_split e1
  refine ⟨A, w, S, x.1, x.2, ea, fun A1 v H1 s1 S1 r1 => ⟨A1, x.2, S1, y.1, y.2, eb, fun A2 u H2 s2 S2 r2 => ?_⟩⟩
  exact hr A2 y.2 σ x.1 y.1 d w' v u H2 Q S2 (r1.step s2.toCar) r2 e1 (q.step (s1.trans s2))
theorem snd_var (G : GX T P lv N sc top X) {i : Nat} {x : Str} {pos : Pos} (h : N[i]? = some x) (hv : Vis sc x) (hd : (x == ("__debug__" : Str)) = false) (hc : (x == ("__classdict__" : Str)) = false) : PE X (.Name x pos) (rd X.K (evE P (.v i))) := by
  refine PEimp (pe_var (i := i) (by rw [G.hN]; exact h) (by rw [G.sco]; exact hv) hd hc) fun σ H Q q => ?_
  obtain ⟨A, w, S, d, w', e, q⟩ := q
  simp only [evE] at e
  split at e
  · rename_i d' hd'
    cases e
    obtain ⟨v, e1, r⟩ := S.loc i _ hd'
    exact ⟨v, e1, q.here S r⟩
  · cases e
theorem snd_const {d : D} {v : V} {ex : Expr} (h : PE X ex (tC v)) (hd : ∀ H A, RD X.K H A d v) : PE X ex (rd X.K (evE P (.k d))) := by
  refine PEimp h fun σ H Q q => ?_
  obtain ⟨A, w, S, d', w', e, q⟩ := q
  cases e
  exact q.here S (hd H A)
theorem snd_glob (G : GX T P lv N sc top X) {i : Nat} {c : Str × D} {pos : Pos} (h : T.cons[i]? = some c) (hg : sc.names.lookup c.1 = some .globalImplicit) (hd : (c.1 == ("__debug__" : Str)) = false) : PE X (.Name c.1 pos) (rd X.K (evE P (.gl i))) := by
  obtain ⟨hC, u, v, hm, r, hv⟩ := G.cons i c h
  refine PEimp (pe_glob (by show X.env.kindOf c.1 = _; unfold Env.kindOf; rw [G.sco]; exact hg) hm r hd) fun σ H Q q => ?_
  obtain ⟨A, w, S, d', w', e, q⟩ := q
  simp only [evE, hC] at e
  cases e
  exact q.here S (hv H A)
theorem snd_op (G : GX T P lv N sc top X) {o : Op} {md : Nat} {a b : E} {x y : Expr} {pos : Pos} (ha : Snd X P a x) (hb : Snd X P b y) : PE X (.BinOp x (oper o) y pos) (rd X.K (evE P (.op o md a b))) :=
  PEimp (pe_op (op_sound o md) ha.pe hb.pe) (rd2 (k := opF o md) fun A w σ d e r' w' x y H Q S r1 r2 e1 q => ⟨A, w, σ, d, e, r', w', S, r1, r2, e1, q⟩)
theorem snd_neg (G : GX T P lv N sc top X) {a : E} {x : Expr} {pos : Pos} (ha : Snd X P a x) : PE X (.UnaryOp .USub x pos) (rd X.K (evE P (.neg a))) := by
  refine PEimp (pe_un un_neg ha.pe) fun σ H Q q => ?_
  obtain ⟨A, w, S, d, w', e1, q⟩ := q
  obtain ⟨x, ea, e1⟩ := bd_split e1
  refine ⟨A, w, S, x.1, x.2, ea, fun A1 v H1 s1 S1 r1 => ?_⟩
  obtain ⟨d1, w1⟩ := x
  cases d1 with
  | int i =>
    cases e1
    exact ⟨i, r1, (q.step s1).here S1 rfl⟩
  | _ => cases e1
theorem snd_not (G : GX T P lv N sc top X) {a : E} {x : Expr} {pos : Pos} (ha : Snd X P a x) : Snd X P (.no a) (.UnaryOp .Not x pos) := by
  refine ⟨PEimp (pe_notT ha.pe) fun σ H Q q => ?_, PTimp (pt_not ha.pt) fun σ H Q q => ?_, fun _ _ _ z => nomatch z⟩
  · obtain ⟨A, w, S, d, w', e1, q⟩ := q
    obtain ⟨x, ea, e1⟩ := bd_split e1
    obtain ⟨b, eb, e1⟩ := bd_split e1
    cases e1
    exact ⟨A, w, S, x.1, x.2, ea, fun A1 v H1 s1 S1 r1 => ⟨b, S1.tru (of_split eb) r1, (q.step s1).here S1 rfl⟩⟩
  · obtain ⟨A, w, S, c, w', e1, q⟩ := q
    obtain ⟨y, e2, e1⟩ := bd_split e1
    obtain ⟨c', e3, e1⟩ := bd_split e1
    obtain ⟨x, ea, e2⟩ := bd_split e2
    obtain ⟨b, eb, e2⟩ := bd_split e2
    cases e2
    cases e1
    have ec := of_split e3
    cases ec
    refine ⟨A, w, S, b, x.2, ?_, fun A' H' st S' => q A' H' st S'⟩
    show ((evE P a w).bd fun x => (R.of (x.2.tru x.1)).bd fun b => R.ok (b, x.2)) = _
    rw [ea, R.bd_ok, eb]
    rfl
/-- and, or: from two parts -/
theorem snd_and (G : GX T P lv N sc top X) {a b : E} {x y : Expr} {r : List Expr} {pos : Pos} (ha : Snd X P a x) (hb : PE X (.BoolOp .And (y :: r) pos) (rd X.K (evE P b))) (hw : PW X (.BoolOp .And (y :: r) pos) (rdT X.K (evT P b))) :
    Snd X P (.an a b) (.BoolOp .And (x :: y :: r) pos) := by
  have w1 : PW X (.BoolOp .And (x :: y :: r) pos) (rdT X.K (evT P (.an a b))) := by
    refine ⟨fun wh pins s σ H Q I q => (pw_and ha.pt hw).run wh pins s σ H Q I ?_⟩
    obtain ⟨A, w, S, c, w', e1, q⟩ := q
    obtain ⟨z, e2, e1⟩ := bd_split e1
    obtain ⟨c', e3, e1⟩ := bd_split e1
    cases e1
    obtain ⟨x, ea, e2⟩ := bd_split e2
    obtain ⟨b', eb, e2⟩ := bd_split e2
    refine ⟨A, w, S, b', x.2, ?_, fun A1 H1 s1 S1 => ?_⟩
    · show ((evE P a w).bd fun x => (R.of (x.2.tru x.1)).bd fun b => R.ok (b, x.2)) = _
      rw [ea, R.bd_ok, eb]
      rfl
    · cases b' with
      | false =>
        rw [if_neg Bool.false_ne_true] at e2 ⊢
        cases e2
        have e4 := (of_split eb).symm.trans (of_split e3)
        cases e4
        exact q A1 H1 s1 S1
      | true =>
        rw [if_pos rfl] at e2 ⊢
        refine ⟨A1, x.2, S1, c, z.2, ?_, fun A2 H2 s2 S2 => q A2 H2 (s1.trans s2) S2⟩
        show ((evE P b x.2).bd fun x => (R.of (x.2.tru x.1)).bd fun b => R.ok (b, x.2)) = _
        rw [e2, R.bd_ok, e3]
        rfl
  refine ⟨PEimp (pe_andT ha.pe hb) fun σ H Q q => ?_, w1.pt, fun _ _ _ _ => w1⟩
  obtain ⟨A, w, S, d, w', e1, q⟩ := q
  obtain ⟨x, ea, e1⟩ := bd_split e1
  obtain ⟨c, eb, e1⟩ := bd_split e1
  refine ⟨A, w, S, x.1, x.2, ea, fun A1 v H1 s1 S1 r1 => ⟨c, S1.tru (of_split eb) r1, ?_⟩⟩
  cases c with
  | true =>
    rw [if_pos rfl] at e1 ⊢
    exact ⟨A1, x.2, S1, d, w', e1, q.step s1⟩
  | false =>
    rw [if_neg Bool.false_ne_true] at e1 ⊢
    cases e1
    exact (q.step s1).here S1 r1
theorem snd_or (G : GX T P lv N sc top X) {a b : E} {x y : Expr} {r : List Expr} {pos : Pos} (ha : Snd X P a x) (hb : PE X (.BoolOp .Or (y :: r) pos) (rd X.K (evE P b))) (hw : PW X (.BoolOp .Or (y :: r) pos) (rdT X.K (evT P b))) :
    Snd X P (.or a b) (.BoolOp .Or (x :: y :: r) pos) := by
  have w1 : PW X (.BoolOp .Or (x :: y :: r) pos) (rdT X.K (evT P (.or a b))) := by
    refine ⟨fun wh pins s σ H Q I q => (pw_or ha.pt hw).run wh pins s σ H Q I ?_⟩
    obtain ⟨A, w, S, c, w', e1, q⟩ := q
    obtain ⟨z, e2, e1⟩ := bd_split e1
    obtain ⟨c', e3, e1⟩ := bd_split e1
    cases e1
    obtain ⟨x, ea, e2⟩ := bd_split e2
    obtain ⟨b', eb, e2⟩ := bd_split e2
    refine ⟨A, w, S, b', x.2, ?_, fun A1 H1 s1 S1 => ?_⟩
    · show ((evE P a w).bd fun x => (R.of (x.2.tru x.1)).bd fun b => R.ok (b, x.2)) = _
      rw [ea, R.bd_ok, eb]
      rfl
    · cases b' with
      | true =>
        rw [if_pos rfl] at e2 ⊢
        cases e2
        have e4 := (of_split eb).symm.trans (of_split e3)
        cases e4
        exact q A1 H1 s1 S1
      | false =>
        rw [if_neg Bool.false_ne_true] at e2 ⊢
        refine ⟨A1, x.2, S1, c, z.2, ?_, fun A2 H2 s2 S2 => q A2 H2 (s1.trans s2) S2⟩
        show ((evE P b x.2).bd fun x => (R.of (x.2.tru x.1)).bd fun b => R.ok (b, x.2)) = _
        rw [e2, R.bd_ok, e3]
        rfl
  refine ⟨PEimp (pe_orT ha.pe hb) fun σ H Q q => ?_, w1.pt, fun _ _ _ _ => w1⟩
  obtain ⟨A, w, S, d, w', e1, q⟩ := q
  obtain ⟨x, ea, e1⟩ := bd_split e1
  obtain ⟨c, eb, e1⟩ := bd_split e1
  refine ⟨A, w, S, x.1, x.2, ea, fun A1 v H1 s1 S1 r1 => ⟨c, S1.tru (of_split eb) r1, ?_⟩⟩
  cases c with
  | false =>
    rw [if_neg Bool.false_ne_true] at e1 ⊢
    exact ⟨A1, x.2, S1, d, w', e1, q.step s1⟩
  | true =>
    rw [if_pos rfl] at e1 ⊢
    cases e1
    exact (q.step s1).here S1 r1
theorem snd_one {b : E} {y : Expr} {pos : Pos} (op : BoolOp) (h : Snd X P b y) : PE X (.BoolOp op [y] pos) (rd X.K (evE P b)) ∧ PW X (.BoolOp op [y] pos) (rdT X.K (evT P b)) := by
  refine ⟨pe_one h.pe, ?_⟩
  cases op with
  | And => exact pw_and1 h.pt
  | Or => exact pw_or1 h.pt
/-- a comparison as a test -/
theorem Snd.cmp {e : E} {ex : Expr} {t : TE} (h : PE X ex t) (h2 : PT X ex (tTest t)) (i : ∀ σ H Q, rd X.K (evE P e) σ H Q → t σ H Q) (hb : ∀ w d w', evE P e w = .ok (d, w') → ∃ b, d = .bl b) (hx : ∀ op vs pos, ex ≠ .BoolOp op vs pos) : Snd X P e ex := by
  refine ⟨PEimp h i, PTimp h2 fun σ H Q q => i σ H _ ?_, fun op vs pos z => absurd z (hx op vs pos)⟩
  obtain ⟨A, w, S, c, w', e1, q⟩ := q
  obtain ⟨x, ea, e1⟩ := bd_split e1
  obtain ⟨b', eb, e1⟩ := bd_split e1
  cases e1
  obtain ⟨b, hd⟩ := hb w x.1 x.2 ea
  refine ⟨A, w, S, x.1, x.2, ea, fun A1 v H1 s1 S1 r1 => ?_⟩
  rw [hd] at r1 eb
  have e4 := of_split eb
  cases e4
  exact ⟨c, r1, q A1 H1 s1 S1⟩
theorem snd_cm (G : GX T P lv N sc top X) {c : Cm} {a b : E} {x y : Expr} {pos : Pos} (ha : Snd X P a x) (hb : Snd X P b y) (hy : okX y = true) : Snd X P (.cm c a b) (.Compare x [cmOp c] [y] pos) := by
  refine Snd.cmp (pe_cmpR (cm_sound c G.hu) ha.pe hb.pe (behind_ok hy)) (pt_cmpR (cm_sound c G.hu) ha.pe hb.pe (behind_ok hy)) (fun σ H Q q => ?_) (fun w d w' e => ?_) fun _ _ _ z => nomatch z
  · refine rd2 (k := fun d e w => (R.of (cmF c d e w)).bd fun r => .ok (.bl r, w)) (fun A w σ d e r' w' x y H Q S r1 r2 e1 q => ?_) σ H Q q
    obtain ⟨r, e2, e1⟩ := bd_split e1
    cases e1
    exact ⟨A, w, σ, d, e, r, S, r1, r2, of_split e2, q.here S rfl⟩
  · obtain ⟨x, ea, e⟩ := bd_split e
    obtain ⟨y, eb, e⟩ := bd_split e
    obtain ⟨r, ec, e⟩ := bd_split e
    cases e
    exact ⟨r, rfl⟩
theorem snd_ch (G : GX T P lv N sc top X) {c c2 : Cm} {a b d : E} {x y z : Expr} {pos : Pos} (ha : Snd X P a x) (hb : Snd X P b y) (hd : Snd X P d z) (hy : okX y = true) (hz : okX z = true) :
    Snd X P (.ch a c b c2 d) (.Compare x [cmOp c, cmOp c2] [y, z] pos) := by
  have hm : lastMarks [cmOp c, cmOp c2] [y, z] = false := behind_ok hz
  refine Snd.cmp (pe_chain (cm_sound c G.hu) (cm_sound c2 G.hu) ha.pe hb.pe hd.pe hm) (pt_chain (cm_sound c G.hu) (cm_sound c2 G.hu) ha.pe hb.pe hd.pe hm) (fun σ H Q q => ?_) (fun w d w' e => ?_) fun _ _ _ z => nomatch z
  · obtain ⟨A, w, S, r, w', e1, q⟩ := q
    obtain ⟨x, ea, e1⟩ := bd_split e1
    obtain ⟨y, eb, e1⟩ := bd_split e1
    obtain ⟨k, ec, e1⟩ := bd_split e1
    refine ⟨A, w, S, x.1, x.2, ea, fun A1 v H1 s1 S1 r1 => ⟨A1, x.2, S1, y.1, y.2, eb, fun A2 u H2 s2 S2 r2 => ⟨A2, y.2, σ, x.1, y.1, k, S2, r1.step s2.toCar, r2, of_split ec, k, rfl, ?_⟩⟩⟩
    cases k with
    | true =>
      rw [if_pos rfl] at e1 ⊢
      obtain ⟨z, ed, e1⟩ := bd_split e1
      obtain ⟨k2, ef, e1⟩ := bd_split e1
      cases e1
      refine ⟨A2, y.2, S2, z.1, z.2, ed, fun A3 t H3 s3 S3 r3 => ⟨A3, z.2, σ, y.1, z.1, k2, S3, r2.step s3.toCar, r3, of_split ef, ?_⟩⟩
      exact (q.step ((s1.trans s2).trans s3)).here S3 rfl
    | false =>
      rw [if_neg Bool.false_ne_true] at e1 ⊢
      cases e1
      exact (q.step (s1.trans s2)).here S2 rfl
  · obtain ⟨x, ea, e⟩ := bd_split e
    obtain ⟨y, eb, e⟩ := bd_split e
    obtain ⟨k, ec, e⟩ := bd_split e
    cases k with
    | true =>
      rw [if_pos rfl] at e
      obtain ⟨z, ed, e⟩ := bd_split e
      obtain ⟨k2, ef, e⟩ := bd_split e
      cases e
      exact ⟨k2, rfl⟩
    | false =>
      rw [if_neg Bool.false_ne_true] at e
      cases e
      exact ⟨false, rfl⟩
theorem evT_of {e : E} {w : Wd} {d : D} {w' : Wd} {b : Bool} (e1 : evE P e w = .ok (d, w')) (e2 : w'.tru d = some b) : evT P e w = .ok (b, w') := by
  show ((evE P e w).bd fun x => (R.of (x.2.tru x.1)).bd fun b => R.ok (b, x.2)) = _
  rw [e1, R.bd_ok, e2]
  rfl
theorem snd_ite (G : GX T P lv N sc top X) {c a b : E} {x y z : Expr} {pos : Pos} (hc : Snd X P c x) (ha : Snd X P a y) (hb : Snd X P b z) : Snd X P (.ite c a b) (.IfExp x y z pos) := by
  refine ⟨PEimp (pe_ifExp hc.pt ha.pe hb.pe) fun σ H Q q => ?_, ⟨fun pins s σ H Q I q => isTrue_IfExp ?_⟩, fun _ _ _ z => nomatch z⟩
  · obtain ⟨A, w, S, r, w', e1, q⟩ := q
    obtain ⟨x, ea, e1⟩ := bd_split e1
    obtain ⟨k, eb, e1⟩ := bd_split e1
    refine ⟨A, w, S, k, x.2, evT_of ea (of_split eb), fun A1 H1 s1 S1 => ?_⟩
    cases k with
    | true =>
      rw [if_pos rfl] at e1 ⊢
      exact ⟨A1, x.2, S1, r, w', e1, q.step s1⟩
    | false =>
      rw [if_neg Bool.false_ne_true] at e1 ⊢
      exact ⟨A1, x.2, S1, r, w', e1, q.step s1⟩
  · obtain ⟨A, w, S, r, w', e1, q⟩ := q
    obtain ⟨t, e2, e1⟩ := bd_split e1
    obtain ⟨k', e3, e1⟩ := bd_split e1
    cases e1
    obtain ⟨x, ea, e2⟩ := bd_split e2
    obtain ⟨k, eb, e2⟩ := bd_split e2
    refine thn (hc.pt.run pins s σ H (fun k H1 => if k = true then rdT X.K (evT P a) σ H1 Q else rdT X.K (evT P b) σ H1 Q) I ⟨A, w, S, k, x.2, evT_of ea (of_split eb), fun A1 H1 s1 S1 => ?_⟩) fun b s1 ⟨H1, I1, q1⟩ => ?_
    · cases k with
      | true =>
        rw [if_pos rfl] at e2 ⊢
        exact ⟨A1, x.2, S1, r, t.2, evT_of e2 (of_split e3), fun A2 H2 s2 S2 => q A2 H2 (s1.trans s2) S2⟩
      | false =>
        rw [if_neg Bool.false_ne_true] at e2 ⊢
        exact ⟨A1, x.2, S1, r, t.2, evT_of e2 (of_split e3), fun A2 H2 s2 S2 => q A2 H2 (s1.trans s2) S2⟩
    · cases b with
      | true => exact ha.pt.run pins s1 σ H1 Q I1 q1
      | false => exact hb.pt.run pins s1 σ H1 Q I1 q1
theorem snd_nil : PA X [] (rdA X.K (evEs P .nil)) := by
  refine PAimp pa_nil fun σ H Q q => ?_
  obtain ⟨A, w, S, ds, w', e, q⟩ := q
  cases e
  exact q A [] H (Step.refl A H) S rfl
theorem rdCons {fa : Wd → R (D × Wd)} {fb : Wd → R (List D × Wd)} (σ : Sl) (H : Hp) (Q : List V → Hp → Prop) (q : rdA X.K (fun w => (fa w).bd fun x => (fb x.2).bd fun y => .ok (x.1 :: y.1, y.2)) σ H Q) : tCons (rd X.K fa) (rdA X.K fb) σ H Q := by
  obtain ⟨A, w, S, ds, w', e1, q⟩ := q
  obtain ⟨x, ea, e1⟩ := bd_split e1
  obtain ⟨y, eb, e1⟩ := bd_split e1
  cases e1
  refine ⟨A, w, S, x.1, x.2, ea, fun A1 v H1 s1 S1 r1 => ⟨A1, x.2, S1, y.1, y.2, eb, fun A2 vs H2 s2 S2 r2 => ?_⟩⟩
  exact q A2 (v :: vs) H2 (s1.trans s2) S2 ⟨v, vs, rfl, r1.step s2.toCar, r2⟩
theorem snd_cons {e : E} {r : Es} {x : Expr} {xs : List Expr} (he : PE X x (rd X.K (evE P e))) (hr : PA X xs (rdA X.K (evEs P r))) (hx : okX x = true) : PA X (x :: xs) (rdA X.K (evEs P (.cons e r))) :=
  PAimp (pa_cons he hr (starEach_cons hx)) rdCons
theorem snd_tup {es : Es} {xs : List Expr} {k : Nat} {pos : Pos} (h : PA X xs (rdA X.K (evEs P es))) : PE X (.Tuple xs k pos) (rd X.K (evE P (.tup es))) := by
  refine PEimp (pe_tup h) fun σ H Q q => ?_
  obtain ⟨A, w, S, d, w', e1, q⟩ := q
  obtain ⟨x, ea, e1⟩ := bd_split e1
  exact ⟨A, w, S, x.1, x.2, ea, fun A1 vs H1 s1 S1 r1 => Aft.newT e1 S1 r1 (q.step s1)⟩
theorem snd_lst {es : Es} {xs : List Expr} {md : Nat} {pos : Pos} (h : PA X xs (rdA X.K (evEs P es))) : PE X (.List xs pos) (rd X.K (evE P (.lst md es))) := by
  refine PEimp (pe_lst h) fun σ H Q q => ?_
  obtain ⟨A, w, S, d, w', e1, q⟩ := q
  obtain ⟨x, ea, e1⟩ := bd_split e1
  exact ⟨A, w, S, x.1, x.2, ea, fun A1 vs H1 s1 S1 r1 => Aft.newL e1 S1 r1 (q.step s1)⟩
/-- an index, by values -/
def rIxD (K : PySem.W.Frag) : R2 := fun x y H Q => ∃ p xs i v, x = .ref p ∧ y = .int i ∧ (SqL K H p xs ∨ SqT K H p xs) ∧ atI xs i = some v ∧ Q v H
/-- .. of a dict -/
def rIxK : R2 := fun x y H Q => ∃ p kvs k v, x = .ref p ∧ y = .str k ∧ H p = some (.dK kvs) ∧ valV kvs (.inr k) = some v ∧ Q v H
theorem ix_dK (hu : X.A.units + 1 < cLine) : IxR X rIxK := by
  intro value slice pins s σ H x y v u Q I rx ry h hs
  obtain ⟨p, kvs, k, r, rfl, rfl, e, l, q⟩ := h
  obtain rfl : v = Value.ref p := rx
  have g : DGet H p (.str k) (some r) := by
    have := DGet.k (k := .inr k) e
    rw [l] at this
    exact this
  refine tail_any (dict_typeIs I g) PySem.F.slot_dict_getitem.lookup (d_getItem hu I g ry fun w' s' I' rw' => ?_) hs
  exact ⟨r, H, I', rw', q⟩
theorem ix_any : IxR X (rIxD X.K) := by
  intro value slice pins s σ H x y v u Q I rx ry h hs
  obtain ⟨p, xs, i, z, e1, e2, hq, he, q⟩ := h
  rcases hq with hq | hq
  · exact ix_list value slice pins s σ H x y v u Q I rx ry ⟨p, xs, i, z, e1, e2, hq, he, q⟩ hs
  · exact ix_tup value slice pins s σ H x y v u Q I rx ry ⟨p, xs, i, z, e1, e2, hq, he, q⟩ hs
theorem snd_ix {a i : E} {x y : Expr} {pos : Pos} (hu : X.A.units + 1 < cLine) (ha : Snd X P a x) (hi : Snd X P i y) (hy : okX y = true) : PE X (.Subscript x y pos) (rd X.K (evE P (.ix a i))) := by
  refine PEimp (pe_ix (ix_any.or (ix_dK hu)) ha.pe hi.pe (plainIx_ok hy)) (rd2 (k := fun d e w => match e with
    | .int k => (R.of (w.seq d)).bd fun xs => (R.of ((ixI xs.length k).bind fun j => xs[j]?)).bd fun d => .ok (d, w)
    | .str k => (R.of (dicL d k)).bd fun d => .ok (d, w)
    | _ => .err) fun A w σ d e r' w' x y H Q S r1 r2 e1 q => ?_)
  cases e with
  | int k =>
    obtain ⟨xs, ea, e1⟩ := bd_split e1
    obtain ⟨d', eb, e1⟩ := bd_split e1
    cases e1
    obtain ⟨a, vs, rfl, rs, hq⟩ := S.seq r1 (of_split ea)
    obtain ⟨j, e3, e4⟩ := Option.bind_eq_some_iff.mp (of_split eb)
    obtain ⟨v, hv, rv⟩ := rs.get e4
    refine .inl ⟨a, vs, k, v, rfl, r2, ?_, ?_, q.here S rv⟩
    · rcases hq with ⟨_, hq⟩ | ⟨_, hq⟩
      · exact .inr hq
      · exact .inl hq
    · show (ixN vs.length k).bind (fun j => vs[j]?) = some v
      rw [rs.length]
      exact Option.bind_eq_some_iff.mpr ⟨j, e3, hv⟩
  | str k =>
    obtain ⟨d', eb, e1⟩ := bd_split e1
    cases e1
    have eb := of_split eb
    cases d with
    | dic ks ds =>
      obtain ⟨a, kvs, rfl, q1, _, _, z, r⟩ := r1
      obtain ⟨v, e2, rv⟩ := lkp_at z.2.2 r eb
      exact .inr ⟨a, kvs, k, v, rfl, r2, q1, e2, q.here S rv⟩
    | _ => cases eb
  | _ => cases e1
/-- a part of a slice -/
def rdO (K : PySem.W.Frag) (f : Wd → R (Option Int × Wd)) : TO := fun σ H Q => ∃ A w, Sim K H A w σ ∧ ∃ o w', f w = .ok (o, w') ∧ ∀ A' H', Step A H A' H' → Sim K H' A' w' σ → Q o H'
theorem POimp {e : Option Expr} {t t' : TO} (h : PO X e t) (i : ∀ σ H Q, t' σ H Q → t σ H Q) : PO X e t' := ⟨fun pins s σ H Q I q => h.run pins s σ H Q I (i σ H Q q)⟩
theorem snd_ono : PO X none (rdO X.K (evO P .no)) := by
  refine POimp po_none fun σ H Q q => ?_
  obtain ⟨A, w, S, o, w', e1, q⟩ := q
  cases e1
  exact q A H (Step.refl A H) S
theorem snd_oso {e : E} {x : Expr} (h : PE X x (rd X.K (evE P e))) : PO X (some x) (rdO X.K (evO P (.so e))) := by
  refine POimp (po_some h) fun σ H Q q => ?_
  obtain ⟨A, w, S, o, w', e1, q⟩ := q
  obtain ⟨x, ea, e1⟩ := bd_split e1
  refine ⟨A, w, S, x.1, x.2, ea, fun A1 v H1 s1 S1 r1 => ?_⟩
  obtain ⟨d1, w1⟩ := x
  cases d1 with
  | int i =>
    cases e1
    exact ⟨i, r1, q A1 H1 s1 S1⟩
  | _ => cases e1
theorem snd_sl {md : Nat} {a : E} {lo hi : Oe} {x : Expr} {xl xh : Option Expr} {p2 pos : Pos} (ha : PE X x (rd X.K (evE P a))) (hl : PO X xl (rdO X.K (evO P lo))) (hh : PO X xh (rdO X.K (evO P hi))) :
    PE X (.Subscript x (.Slice xl xh none p2) pos) (rd X.K (evE P (.sl md a lo hi))) := by
  refine PEimp (pe_slice (sl_list.or sl_tupA) ha hl hh) fun σ H Q q => ?_
  obtain ⟨A, w, S, d, w', e1, q⟩ := q
  obtain ⟨x, ea, e1⟩ := bd_split e1
  obtain ⟨l, el, e1⟩ := bd_split e1
  obtain ⟨h, eh, e1⟩ := bd_split e1
  obtain ⟨xs, ex, e1⟩ := bd_split e1
  refine ⟨A, w, S, x.1, x.2, ea, fun A1 v H1 s1 S1 r1 => ⟨A1, x.2, S1, l.1, l.2, el, fun A2 H2 s2 S2 => ⟨A2, l.2, S2, h.1, h.2, eh, fun A3 H3 s3 S3 => ?_⟩⟩⟩
  have r3 := (r1.step s2.toCar).step s3.toCar
  obtain ⟨a, vs, rfl, rs, hq⟩ := S3.seq r3 (of_split ex)
  have q3 := q.step ((s1.trans s2).trans s3)
  rcases hq with ⟨ht, hq⟩ | ⟨ht, hq⟩
  · rw [ht, if_pos rfl] at e1
    obtain ⟨_, qn⟩ := Aft.newT e1 S3 (rs.cutD l.1 h.1) q3
    obtain ⟨rfl, rfl, _⟩ := newT_ok e1 (rs.cutD l.1 h.1)
    refine .inr ⟨a, vs, rfl, hq, fun z => q3.here S3 ⟨a, vs, rfl, hq, ?_⟩, fun _ => qn⟩
    have e : cut xs l.1 h.1 = xs := by
      unfold cut
      rw [← rs.length, z.1, z.2, List.drop_zero, Nat.sub_zero, rs.length, List.take_length]
    rw [e]
    exact rs
  · rw [ht, if_neg Bool.false_ne_true] at e1
    obtain ⟨_, qn⟩ := Aft.newL e1 S3 (rs.cutD l.1 h.1) q3
    exact .inl ⟨a, vs, rfl, hq, qn⟩
theorem snd_rev {md : Nat} {a : E} {x : Expr} {k : Nat} {p1 p2 p3 pos : Pos} (ha : PE X x (rd X.K (evE P a))) : PE X (.Subscript x (.Slice none none (some (.UnaryOp .USub (.Constant (.int 1) k p1) p2)) p3) pos) (rd X.K (evE P (.rev md a))) := by
  refine PEimp (pe_revL ha) fun σ H Q q => ?_
  obtain ⟨A, w, S, d, w', e1, q⟩ := q
  obtain ⟨x, ea, e1⟩ := bd_split e1
  obtain ⟨xs, ex, e1⟩ := bd_split e1
  split at e1
  · cases e1
  · rename_i ht
    refine ⟨A, w, S, x.1, x.2, ea, fun A1 v H1 s1 S1 r1 => ?_⟩
    obtain ⟨a, vs, rfl, rs, hq⟩ := S1.seq r1 (of_split ex)
    rcases hq with ⟨h, _⟩ | ⟨_, hq⟩
    · exact absurd h ht
    · obtain ⟨_, qn⟩ := Aft.newL e1 S1 rs.reverse (q.step s1)
      exact ⟨a, vs, rfl, hq, qn⟩
theorem bi_boot (b : Bi) : bootBuiltins (biName b) = some (biV b) ∧ (biName b ≠ "__name__") ∧ (biName b == ("__debug__" : Str)) = false := by
  cases b <;> exact ⟨by decide +kernel, by decide, by decide⟩
theorem snd_bi (G : GX T P lv N sc top X) {b : Bi} {md : Nat} {es : Es} {x : Expr} {xs : List Expr} {p pos : Pos} (h : PA X (x :: xs) (rdA X.K (evEs P es))) (hg : sc.names.lookup (biName b) = some .globalImplicit) (hf : biName b ∈ T.free) (hx : (x :: xs).all okX = true) :
    PE X (.Call (.Name (biName b) p) (x :: xs) [] pos) (rd X.K (evE P (.bi b md es))) := by
  have hs := bi_sound (X := X) b md G.calm G.dig G.gd G.hu
  obtain ⟨b1, b2, b3⟩ := bi_boot b
  have gl : Gl X (biName b) := by show X.env.kindOf _ = _; unfold Env.kindOf; rw [G.sco]; exact hg
  have key : ∀ σ H Q, rd X.K (evE P (.bi b md es)) σ H Q → tCB (rBi X.K b md) (rdA X.K (evEs P es)) σ H Q := fun σ H Q q => by
    obtain ⟨A, w, S, d, w', e1, q⟩ := q
    obtain ⟨y, ea, e1⟩ := bd_split e1
    exact ⟨A, w, S, y.1, y.2, ea, fun A1 vs H1 s1 S1 r1 => ⟨A1, y.2, σ, y.1, d, w', S1, r1, e1, q.step s1⟩⟩
  obtain ⟨o1, o2⟩ := Bool.and_eq_true_iff.mp (show (okX x && xs.all okX) = true from hx)
  unfold biV at hs b1
  by_cases ht : biTy b = true
  · rw [if_pos ht] at hs b1
    exact PEimp (pe_callTy hs gl (G.free _ hf) b1 h b2 b3 (starEach_cons o1) (noStars o2)) key
  · rw [if_neg ht] at hs b1
    exact PEimp (pe_callB hs gl (G.free _ hf) b1 h b2 b3 (starEach_cons o1) (noStars o2)) key
end
end Fz

/-! Q11b: a dict's display. -/
namespace Fz
open PySem PySem.Spec PyProof.Rows L2
section
variable {K : PySem.W.Frag} {H H' : Hp} {A : Ad} {p : Addr} {w : Wd} {σ : Sl}
theorem SqT.fill {a : Addr} {vs : List V} (k : ∀ a o, a ≠ p → H a = some o → H' a = some o) (e : H p = some (.dK [])) (h : SqT K H a vs) : SqT K H' a vs := by
  rcases h with (h | ⟨o, h⟩) | h
  · exact .inl (.inl (k _ _ (fun z => by subst z; rw [e] at h; cases h) h))
  · exact .inl (.inr ⟨o, k _ _ (fun z => by subst z; rw [e] at h; cases h) h⟩)
  · exact .inr h
theorem SqF.fill {a : Addr} {vs : List V} (k : ∀ a o, a ≠ p → H a = some o → H' a = some o) (e : H p = some (.dK [])) (h : SqF K H a vs) : SqF K H' a vs := by
  rcases h with ⟨o, h⟩ | h
  · exact .inl ⟨o, k _ _ (fun z => by subst z; rw [e] at h; cases h) h⟩
  · exact .inr h
mutual
theorem RD.fill (k : ∀ a o, a ≠ p → H a = some o → H' a = some o) (e : H p = some (.dK [])) : ∀ (d : D) (v : V), RD K H A d v → RD K H' A d v
  | .non, _, h => h
  | .bl _, _, h => h
  | .int _, _, h => h
  | .str _, _, h => h
  | .tup ds, _, h => by
    obtain ⟨a, vs, e1, q, r⟩ := h
    exact ⟨a, vs, e1, SqT.fill k e q, RDs.fill k e ds vs r⟩
  | .lst ds, _, h => by
    obtain ⟨a, vs, e1, q, x, z, r⟩ := h
    exact ⟨a, vs, e1, k _ _ (fun z => by subst z; rw [e] at q; cases q) q, x, z, RDs.fill k e ds vs r⟩
  | .fl ds, _, h => by
    obtain ⟨a, vs, e1, q, x, r⟩ := h
    exact ⟨a, vs, e1, k _ _ (fun z => by subst z; rw [e] at q; cases q) q, x, RDs.fill k e ds vs r⟩
  | .sc ds, _, h => by
    obtain ⟨a, vs, e1, q, r⟩ := h
    exact ⟨a, vs, e1, SqF.fill k e q, RDs.fill k e ds vs r⟩
  | .ref _, _, h => h
  | .g _, _, h => h
  | .dic ks ds, _, h => by
    obtain ⟨a, kvs, e1, q, x, z, y, r⟩ := h
    refine ⟨a, kvs, e1, k _ _ (fun z => ?_) q, x, z, y, RDs.fill k e ds _ r⟩
    subst z
    rw [e] at q
    cases q
    exact y.1 (List.map_eq_nil_iff.mp y.2.2.symm)
theorem RDs.fill (k : ∀ a o, a ≠ p → H a = some o → H' a = some o) (e : H p = some (.dK [])) : ∀ (ds : List D) (vs : List V), RDs K H A ds vs → RDs K H' A ds vs
  | [], _, h => h
  | d :: ds, _, h => by
    obtain ⟨v, r, e1, x, y⟩ := h
    exact ⟨v, r, e1, RD.fill k e d v x, RDs.fill k e ds r y⟩
end
theorem Sim.fill (S : Sim K H A w σ) (k : ∀ a o, a ≠ p → H a = some o → H' a = some o) (e : H p = some (.dK [])) (hp : ∃ o, H' p = some o) : Sim K H' A w σ where
  loc := fun i d q => let ⟨v, e1, r⟩ := S.loc i d q; ⟨v, e1, RD.fill k e d v r⟩
  len := S.len
  mu := RL.carry (fun xs vs h => RDs.fill k e xs vs h) (fun a _ vs h => k a _ (fun z => by subst z; rw [e] at h; cases h) h) S.mu
  ga := RL.carry (fun xs vs h => RDs.fill k e xs vs h) (fun a _ vs h => k a _ (fun z => by subst z; rw [e] at h; cases h) h) S.ga
  nd := S.nd
  ndg := S.ndg
  dj := S.dj
  djg := S.djg
  bt := fun a h => let ⟨o, q⟩ := S.bt a h; if z : a = p then z ▸ hp else ⟨o, k a o z q⟩
  cnt := fun a h => let ⟨vs, q⟩ := S.cnt a h; ⟨vs, k a _ (fun z => by subst z; rw [e] at q; cases q) q⟩
  cnd := S.cnd
  gk := S.gk
end
section
variable {X : Cx} {P : Pg}
/-- the keys, constants; the items' rules -/
inductive PrOk (X : Cx) (P : Pg) : List Str → Es → List (Option Expr) → List Expr → Prop where
  | nil : PrOk X P [] .nil [] []
  | cons {k : Str} {ks : List Str} {e : E} {es : Es} {j} {kp : Pos} {x : Expr} {keys : List (Option Expr)} {vals : List Expr} (h : PE X x (rd X.K (evE P e))) (r : PrOk X P ks es keys vals) : PrOk X P (k :: ks) (.cons e es) (some (.Constant (.str k) j kp) :: keys) (x :: vals)
theorem PrOk.run {pos : Pos} {ks : List Str} {es : Es} {keys : List (Option Expr)} {vals : List Expr} (h : PrOk X P ks es keys vals) : keys.all (·.isSome) = true ∧ keys.length = vals.length ∧ keys.length = ks.length ∧ ∃ trs, PPs X pos keys vals trs ∧
    ∀ σ H Q A w ds w', Sim X.K H A w σ → evEs P es w = .ok (ds, w') → (∀ A' vs H', Step A H A' H' → Sim X.K H' A' w' σ → RDs X.K H' A' ds vs → vs.length = ks.length → Q ((ks.map V.str).zip vs) H') → tPairs trs σ H Q := by
  induction h with
  | nil =>
    refine ⟨rfl, rfl, rfl, [], pps_nil, fun σ H Q A w ds w' S e q => ?_⟩
    cases e
    exact q A [] H (Step.refl A H) S rfl rfl
  | @cons k ks e es j kp x keys vals h r ih =>
    obtain ⟨i1, i2, i3, trs, ip, it⟩ := ih
    refine ⟨by simpa using i1, by simp [i2], by simp [i3], _, pps_cons pe_str h ip, fun σ H Q A w ds w' S ev q => ?_⟩
    obtain ⟨a, ea, ev⟩ := bd_split (show ((evE P e w).bd fun x => (evEs P es x.2).bd fun y => R.ok (x.1 :: y.1, y.2)) = .ok (ds, w') from ev)
    obtain ⟨b, eb, ev⟩ := bd_split ev
    cases ev
    show rd X.K (evE P e) σ H _
    refine ⟨A, w, S, a.1, a.2, ea, fun A1 v H1 s1 S1 r1 => it σ H1 _ A1 a.2 b.1 b.2 S1 eb fun A2 vs H2 s2 S2 r2 hl => ?_⟩
    exact q A2 (v :: vs) H2 (s1.trans s2) S2 (RDs.cons_iff.mpr ⟨r1.step s2.toCar, r2⟩) (by simp [hl])
theorem snd_dis {ks : List Str} {es : Es} {keys : List (Option Expr)} {vals : List Expr} {pos : Pos} (h : PrOk X P ks es keys vals) (h0 : keys ≠ []) (h15 : keys.length ≤ 15) : PE X (.Dict keys vals pos) (rd X.K (evE P (.dis ks es))) := by
  obtain ⟨i1, i2, i3, trs, ip, it⟩ := h.run (pos := pos)
  refine PEimp (pe_disp ip i1 i2 h0 h15) fun σ H Q q => ?_
  obtain ⟨A, w, S, d, w', e1, q⟩ := q
  obtain ⟨x, ea, e1⟩ := bd_split (show ((evEs P es w).bd fun x => if ks.Nodup ∧ ks ≠ [] ∧ ks.length ≤ 15 ∧ ks.length = x.1.length then R.ok (.dic ks x.1, x.2) else R.err) = .ok (d, w') from e1)
  split at e1
  case isFalse => cases e1
  rename_i hk
  cases e1
  intro p hp
  obtain ⟨⟨f1, f2, f4⟩, f3⟩ := S.fresh hp
  refine it σ (upd H p (.dK [])) _ A w x.1 x.2 (S.new hp) ea fun A1 vs H1 s1 S1 r1 hl => ?_
  obtain ⟨e2, o2⟩ := s1.kept p (.dK []) upd_same ⟨f1, f2, f4⟩
  have hz : (((ks.map Sum.inr).zip vs : List (Key × V)).map Prod.fst) = ks.map Sum.inr := List.map_fst_zip (by simp [hl])
  have hz2 : (((ks.map Sum.inr).zip vs : List (Key × V)).map Prod.snd) = vs := List.map_snd_zip (by simp [hl])
  refine ⟨e2, (ks.map Sum.inr).zip vs, ?_, ?_, ?_⟩
  · have hkv : ∀ (ks : List Str) (vs : List V), (ks.map V.str).zip vs = ((ks.map Sum.inr).zip vs : List (Key × V)).map (fun kv => (kV kv.1, kv.2)) := by
      intro ks
      induction ks with
      | nil => intro vs; rfl
      | cons k ks ih =>
        intro vs
        cases vs with
        | nil => rfl
        | cons v vs => simp only [List.map_cons, List.zip_cons_cons, ih vs]; rfl
    exact hkv ks vs
  · simp [hl]; omega
  · have hnd : (((ks.map Sum.inr).zip vs : List (Key × V)).map Prod.fst).Nodup := by
      rw [hz]
      exact List.nodup_iff_pairwise_ne.mpr (List.pairwise_map.mpr ((List.nodup_iff_pairwise_ne.mp hk.1).imp fun h z => h (Sum.inr.inj z)))
    rw [mergeK_nil hnd]
    generalize hkvs : (ks.map Sum.inr).zip vs = kvs at hz hz2 hnd
    have kk : ∀ a o, a ≠ p → H1 a = some o → upd H1 p (.dK kvs) a = some o := fun a o n e => by rw [upd_ne n]; exact e
    have hne : ∀ {a : Addr} {o : HO}, H a = some o → a ≠ p := fun {a o} e z => by subst z; rw [hp] at e; cases e
    refine q A1 (.ref p) (upd H1 p (.dK kvs)) ⟨⟨fun a o e x => ?_, fun a vs e => ?_, fun a o u e => ?_, s1.mu, s1.ga, s1.bad⟩, s1.cn, fun a ha => ?_⟩ (S1.fill kk e2 ⟨_, upd_same⟩) ?_
    · obtain ⟨y1, y2⟩ := s1.kept a o (upd_some hp e) x
      exact ⟨kk a o (hne e) y1, y2⟩
    · exact kk a _ (hne e) (s1.tup a vs (upd_some hp e))
    · exact kk a _ (hne e) (s1.frz a o u (upd_some hp e))
    · have hap : a ≠ p := fun z => f4 (z ▸ ha)
      rw [upd_ne hap, s1.cnk a ha, upd_ne hap]
    · refine ⟨p, kvs, rfl, upd_same, o2, by rw [s1.bad]; exact f3, ⟨hk.2.1, hk.1, hz⟩, ?_⟩
      rw [hz2]
      exact RDs.fill kk e2 x.1 vs r1
end
end Fz

/-! Q12: calls, methods, comprehensions; the checker of expressions and what it gives. -/
namespace Fz
open PySem PySem.Spec PyProof.Rows L2

/-- the receiver of a method -/
def okA : Expr → Bool
  | .Call (.Name _ _) [] [] _ => false
  | _ => true
theorem attr_ok {o : Expr} {n : Str} {env : Env} {w : Sem Value} (h : okA o = true) : attributeBase o n env w = w := by
  unfold attributeBase
  split
  · rename_i h2
    first
      | cases h
      | (subst h2; cases h)
      | (simp [okA] at h)
  · rfl
def kwN : List Keyword → Option (List Str)
  | [] => some []
  | ⟨some x, _, _⟩ :: r => (kwN r).map fun xs => x :: xs
  | ⟨none, _, _⟩ :: _ => none
theorem kwN_ok {pos : Pos} {env : Env} : ∀ {kws : List Keyword} {ks : List Str}, kwN kws = some ks → (backToKw pos (keywordEach kws env)).all (·.1.isSome) = true ∧ (backToKw pos (keywordEach kws env)).filterMap (·.1) = ks ∧ (backToKw pos (keywordEach kws env)).any (·.1.isNone) = false ∧ kws.length = ks.length
  | [], _, e => by cases e; exact ⟨rfl, rfl, rfl, rfl⟩
  | ⟨some x, v, p⟩ :: r, _, e => by
    obtain ⟨xs, e1, rfl⟩ := Option.map_eq_some_iff.mp (show (kwN r).map (fun xs => x :: xs) = some _ from e)
    obtain ⟨h1, h2, h3, h4⟩ := kwN_ok (pos := pos) (env := env) e1
    refine ⟨h1, ?_, h3, by rw [List.length_cons, List.length_cons, h4]⟩
    show x :: (backToKw pos (keywordEach r env)).filterMap (·.1) = x :: xs
    rw [h2]
  | ⟨none, _, _⟩ :: _, _, e => nomatch e
section
variable {T : Tb} {P : Pg} {lv : Nat} {N : List Str} {sc : Scope} {top : Bool} {X : Cx}
theorem PKimp {e : List Keyword} {t t' : TA} (h : PK X e t) (i : ∀ σ H Q, t' σ H Q → t σ H Q) : PK X e t' := ⟨fun pos pins s σ H Q I q => h.run pos pins s σ H Q I (i σ H Q q)⟩
theorem snd_knil : PK X [] (rdA X.K (evEs P .nil)) := by
  refine PKimp pk_nil fun σ H Q q => ?_
  obtain ⟨A, w, S, ds, w', e, q⟩ := q
  cases e
  exact q A [] H (Step.refl A H) S rfl
theorem snd_kcons {e : E} {r : Es} {x : Expr} {nm : Option Str} {kp : Pos} {ks : List Keyword} (he : PE X x (rd X.K (evE P e))) (hr : PK X ks (rdA X.K (evEs P r))) : PK X (⟨nm, x, kp⟩ :: ks) (rdA X.K (evEs P (.cons e r))) :=
  PKimp (pk_cons he hr) rdCons
/-- the lists' lengths are those of the terms -/
def Es.len : Es → Nat
  | .nil => 0
  | .cons _ r => r.len + 1
theorem evEs_len : ∀ {es : Es} {w : Wd} {ds : List D} {w' : Wd}, evEs P es w = .ok (ds, w') → ds.length = es.len
  | .nil, _, _, _, e => by cases e; rfl
  | .cons e r, w, ds, w', h => by
    obtain ⟨x, _, h⟩ := bd_split (show ((evE P e w).bd fun x => (evEs P r x.2).bd fun y => R.ok (x.1 :: y.1, y.2)) = .ok (ds, w') from h)
    obtain ⟨y, h2, h⟩ := bd_split h
    cases h
    show y.1.length + 1 = r.len + 1
    rw [evEs_len h2]
theorem arr_length : ∀ {p : List Nat} {ds es : List D}, arr p ds = some es → es.length = p.length
  | [], _, _, e => by cases e; rfl
  | i :: p, ds, es, e => by
    simp only [arr, Option.bind_eq_some_iff, Option.map_eq_some_iff] at e
    obtain ⟨v, _, ys, e2, rfl⟩ := e
    rw [List.length_cons, List.length_cons, arr_length e2]
def arity : Option (List Nat) → Nat → Nat
  | none, n => n
  | some p, _ => p.length
theorem snd_call (G : GX T P lv N sc top X) {j : Nat} {dd : Str × List Str} {pm : Option (List Nat)} {es ks : Es} {xs : List Expr} {kws : List Keyword} {kn : List Str} {p pos : Pos} (hj : T.defs[j]? = some dd) (hlv : j < lv) (hg : sc.names.lookup dd.1 = some .globalImplicit) (hd : (dd.1 == ("__debug__" : Str)) = false)
    (h1 : PA X xs (rdA X.K (evEs P es))) (h2 : PK X kws (rdA X.K (evEs P ks))) (hx : xs.all okX = true) (hk : kwN kws = some kn) (hb : (j, xs.length, kn, pm) ∈ T.binds) (l1 : es.len = xs.length) (l2 : ks.len = kws.length)
    (hl : arity pm (xs.length + kws.length) = dd.2.length) : PE X (.Call (.Name dd.1 p) xs kws pos) (rd X.K (evE P (.call j pm es ks))) := by
  obtain ⟨f, hm, hkp, run⟩ := call_sound G hj hlv
  refine ⟨fun pins s σ H Q I q => ?_⟩
  obtain ⟨A, w, S, d, w', e1, q⟩ := q
  obtain ⟨x, ea, e1⟩ := bd_split e1
  obtain ⟨y, eb, e1⟩ := bd_split e1
  obtain ⟨as, ec, e1⟩ := bd_split e1
  obtain ⟨bs, ed, e1⟩ := bd_split e1
  obtain ⟨r, ef, e1⟩ := bd_split e1
  cases e1
  have gl : Gl X dd.1 := by show X.env.kindOf _ = _; unfold Env.kindOf; rw [G.sco]; exact hg
  refine wpAny_Call_Name_kw (ld_glob I gl hm ?_ hd)
  obtain ⟨k1, k2, k3, k4⟩ := kwN_ok (pos := pos) (env := X.env) hk
  have l1' := evEs_len ea
  have l2' := evEs_len eb
  have lb : bs.length = dd.2.length := by
    rw [← hl]
    cases pm with
    | none =>
      have e := of_split ed
      cases e
      have : ∀ {ρ : Nat → Option D} {φ : Bool} {ds es : List D}, rsL ρ φ ds = some es → es.length = ds.length := fun {ρ φ ds} => by
        induction ds with
        | nil => intro es e; cases e; rfl
        | cons d ds ih =>
          intro es e
          simp only [rsL, Option.bind_eq_some_iff, Option.map_eq_some_iff] at e
          obtain ⟨_, _, ys, e2, rfl⟩ := e
          rw [List.length_cons, List.length_cons, ih e2]
      rw [this (of_split ec), List.length_append, l1', l2', l1, l2]
      rfl
    | some pp => exact arr_length (of_split ed)
  have fin : ∀ (A1 A2 : Ad) (H1 H2 : Hp) (s2 : Shared) (us ws : List Value) (vs zs : List V), Inv X pins σ H2 s2 → Step A H A1 H1 → Step A1 H1 A2 H2 → Vals vs us → Vals zs ws → RDs X.K H1 A1 x.1 vs → Sim X.K H2 A2 y.2 σ → RDs X.K H2 A2 y.1 zs →
      wpAny (model X.prog X.w) X.A (call (.ref f) us (kn.zip ws)) (EP X pins σ Q) X.xe s2 := fun A1 A2 H1 H2 s2 us ws vs zs I2 st1 st2 r1 r2 q1 S2 q2 =>
    run xs.length kn pm hb pins s2 σ H2 Q us ws vs zs A2 y.2 x.1 y.1 as bs r.1 r.2 I2 r1 r2 S2 (q1.step st2.toCar) q2 (l1'.trans l1) (by rw [l2', l2, k4]) (of_split ec) (of_split ed) lb ef (q.step (st1.trans st2))
  have e0 : ∀ (s1 : Shared), Inv X pins σ H s1 → xs = [] → x.1 = [] := fun _ _ z => by
    have : x.1.length = 0 := by rw [l1', l1, z]; rfl
    exact List.length_eq_zero_iff.mp this
  cases xs with
  | nil =>
    -- no positional values
    have hx0 := e0 s I rfl
    have hw0 : x.2 = w := by
      cases es with
      | nil => cases ea; rfl
      | cons _ _ => cases l1
    rw [hw0] at eb
    cases kws with
    | nil =>
      cases hk
      have hy0 : y.1 = [] := List.length_eq_zero_iff.mp (by rw [l2', l2]; rfl)
      have hw1 : y.2 = w := by
        cases ks with
        | nil => cases eb; rfl
        | cons _ _ => cases l2
      refine PySem.W.callWith_K0 I.kIn hkp ?_
      exact fin A A H H s [] [] [] [] I (Step.refl A H) (Step.refl A H) .nil .nil (by rw [hx0]; exact rfl) (by rw [hw1]; exact S) (by rw [hy0]; exact rfl)
    | cons k0 kws =>
      refine PySem.W.callWith_KW0 (h₀ := X.base) I.ok.mod.kin hkp k1 (thn (h2.run pos pins s σ H (fun zs H2 => ∃ A2, Step A H A2 H2 ∧ Sim X.K H2 A2 y.2 σ ∧ RDs X.K H2 A2 y.1 zs) I ⟨A, w, S, y.1, y.2, eb, fun A2 zs H2 st S2 r2 => ⟨A2, st, S2, r2⟩⟩) fun ws s2 ⟨zs, H2, I2, rz, A2, st, S2, r2⟩ => ⟨I2.kIn, ?_⟩) (by show (false || _) = false; rw [k3]; rfl)
      rw [k2]
      exact fin A A2 H H2 s2 [] ws [] zs I2 (Step.refl A H) st .nil rz (by rw [hx0]; exact rfl) S2 r2
  | cons x0 xs =>
    obtain ⟨o1, o2⟩ := Bool.and_eq_true_iff.mp (show (okX x0 && xs.all okX) = true from hx)
    have np : (backTo pos (starEach (x0 :: xs) X.env)).any (·.1) = false := noStars hx
    have main : wpAny (model X.prog X.w) X.A (spliced (backTo pos (starEach (x0 :: xs) X.env))) (AP X pins σ fun vs H1 => ∃ A1, Step A H A1 H1 ∧ Sim X.K H1 A1 x.2 σ ∧ RDs X.K H1 A1 x.1 vs) X.xe s :=
      h1.run pos pins s σ H _ I ⟨A, w, S, x.1, x.2, ea, fun A1 vs H1 st S1 r1 => ⟨A1, st, S1, r1⟩⟩
    cases kws with
    | nil =>
      cases hk
      have hy0 : y.1 = [] := List.length_eq_zero_iff.mp (by rw [l2', l2]; rfl)
      have hw1 : y.2 = x.2 := by
        cases ks with
        | nil => cases eb; rfl
        | cons _ _ => cases l2
      refine PySem.W.callWith_K (h₀ := X.base) I.ok.mod.kin hkp (thn main fun us s1 ⟨vs, H1, I1, rv, A1, st, S1, r1⟩ => ⟨I1.kIn, ?_⟩) (starEach_cons o1) (noStars o2)
      exact fin A1 A1 H1 H1 s1 us [] vs [] I1 st (Step.refl A1 H1) rv .nil r1 (by rw [hw1]; exact S1) (by rw [hy0]; exact rfl)
    | cons k0 kws =>
      refine PySem.W.callWith_KW (h₀ := X.base) I.ok.mod.kin hkp k1 (thn main fun us s1 ⟨vs, H1, I1, rv, A1, st, S1, r1⟩ => ?_) (by rw [np, k3]; rfl) (starEach_cons o1)
      refine thn (h2.run pos pins s1 σ H1 (fun zs H2 => ∃ A2, Step A1 H1 A2 H2 ∧ Sim X.K H2 A2 y.2 σ ∧ RDs X.K H2 A2 y.1 zs) I1 ⟨A1, x.2, S1, y.1, y.2, eb, fun A2 zs H2 st S2 r2 => ⟨A2, st, S2, r2⟩⟩) fun ws s2 ⟨zs, H2, I2, rz, A2, st2, S2, r2⟩ => ⟨I2.kIn, ?_⟩
      rw [k2]
      exact fin A1 A2 H1 H2 s2 us ws vs zs I2 st st2 rv rz r1 S2 r2
/-- a method of a list -/
theorem me_list {m : Me} {d : D} {ds : List D} {r : D} {w w' : Wd} {K : PySem.W.Frag} {H : Hp} {A : Ad} {σ : Sl} {v : V} (S : Sim K H A w σ) (rd1 : RD K H A d v) (e : meF m d ds w = .ok (r, w')) : tyV K "list" v H := by
  have go : ∀ {xs ys : List D} {w2 : Wd}, w.seq d = some xs → w.put d ys = some w2 → tyV K "list" v H := fun {xs ys w2} e1 e2 => by
    obtain ⟨a, us, zs, rfl, h, _⟩ := put_ok e2 S rd1
    exact .inl ⟨rfl, us, SqL.of h⟩
  cases m with
  | append =>
    match ds, e with
    | [], e => cases e
    | _ :: _ :: _, e => cases e
    | [x], e =>
      obtain ⟨xs, e1, e⟩ := bd_split (show ((R.of (w.seq d)).bd fun xs => if xs.length < mxLen then (R.of (w.put d (xs ++ [x]))).bd fun w' => R.ok (D.non, w') else R.err) = .ok (r, w') from e)
      split at e
      · obtain ⟨w2, e2, e⟩ := bd_split e
        exact go (of_split e1) (of_split e2)
      · cases e
  | extend =>
    match ds, e with
    | [], e => cases e
    | _ :: _ :: _, e => cases e
    | [x], e =>
      have e : (if isL x && !deq x d then (R.of (w.seq d)).bd fun xs => (R.of (w.seq x)).bd fun ys => if xs.length + ys.length ≤ mxLen then (R.of (w.put d (xs ++ ys))).bd fun w' => R.ok (D.non, w') else R.err else R.err) = .ok (r, w') := e
      split at e
      · obtain ⟨xs, e1, e⟩ := bd_split e
        obtain ⟨ys, e2, e⟩ := bd_split e
        split at e
        · obtain ⟨w2, e3, e⟩ := bd_split e
          exact go (of_split e1) (of_split e3)
        · cases e
      · cases e
  | pop =>
    match ds, e with
    | x :: _ :: _, e => cases x <;> cases e
    | [], e =>
      obtain ⟨xs, e1, e⟩ := bd_split (show ((R.of (w.seq d)).bd fun xs => (R.of xs[xs.length - 1]?).bd fun y => (R.of (w.put d xs.dropLast)).bd fun w' => R.ok (y, w')) = .ok (r, w') from e)
      obtain ⟨y, e2, e⟩ := bd_split e
      obtain ⟨w2, e3, e⟩ := bd_split e
      exact go (of_split e1) (of_split e3)
    | [x], e =>
      cases x with
      | int i =>
        obtain ⟨xs, e1, e⟩ := bd_split (show ((R.of (w.seq d)).bd fun xs => (R.of (ixI xs.length i)).bd fun k => (R.of xs[k]?).bd fun y => (R.of (w.put d (xs.eraseIdx k))).bd fun w' => R.ok (y, w')) = .ok (r, w') from e)
        obtain ⟨k, e4, e⟩ := bd_split e
        obtain ⟨y, e2, e⟩ := bd_split e
        obtain ⟨w2, e3, e⟩ := bd_split e
        exact go (of_split e1) (of_split e3)
      | _ => cases e
  | _ => cases e
def meId : Me → String
  | .append => "list.append"
  | .extend => "list.extend"
  | .pop => "list.pop"
  | _ => ""
theorem me_slot (m : Me) (h : (match m with | .append => true | .extend => true | .pop => true | _ => false) = true) :
    Slot "list" (meName m) (meId m) ∧ typeOf (.builtin (meId m)) = pure (.type "method_descriptor") ∧ MtR X (meId m) (rMe X.K m) := by
  cases m with
  | append => exact ⟨PySem.F.slot_list_append, PySem.F.type_list_append, me_append⟩
  | extend => exact ⟨PySem.F.slot_list_extend, PySem.F.type_list_extend, me_extend⟩
  | pop => exact ⟨PySem.F.slot_list_pop, PySem.F.type_list_pop, me_pop⟩
  | _ => cases h
theorem snd_me0 (m : Me) {o : E} {x : Expr} {apos cpos : Pos} (hm : (match m with | .append => true | .extend => true | .pop => true | _ => false) = true) (ho : PE X x (rd X.K (evE P o))) (ha : okA x = true) (hl : (apos.endLine == cpos.line) = true) :
    PE X (.Call (.Attribute x (meName m) apos) [] [] cpos) (rd X.K (evE P (.me m o .nil))) := by
  obtain ⟨h1, h2, h3⟩ := me_slot (X := X) m hm
  refine PEimp (pe_bm0 PySem.F.plainAttrs_list h1 h2 h3 ho (attr_ok ha) hl) fun σ H Q q => ?_
  obtain ⟨A, w, S, d, w', e1, q⟩ := q
  obtain ⟨x, ea, e1⟩ := bd_split e1
  have e1 : meF m x.1 [] x.2 = .ok (d, w') := e1
  exact ⟨A, w, S, x.1, x.2, ea, fun A1 v H1 s1 S1 r1 => ⟨me_list S1 r1 e1, A1, x.2, σ, x.1, [], d, w', S1, r1, rfl, e1, q.step s1⟩⟩
theorem snd_me1 (m : Me) {o e : E} {x y : Expr} {apos cpos : Pos} (hm : (match m with | .append => true | .extend => true | .pop => true | _ => false) = true) (ho : PE X x (rd X.K (evE P o))) (he : PE X y (rd X.K (evE P e))) (ha : okA x = true) (hl : (apos.endLine == cpos.line) = true) (hy : okX y = true) :
    PE X (.Call (.Attribute x (meName m) apos) [y] [] cpos) (rd X.K (evE P (.me m o (.cons e .nil)))) := by
  obtain ⟨h1, h2, h3⟩ := me_slot (X := X) m hm
  refine PEimp (pe_bm PySem.F.plainAttrs_list h1 h2 h3 ho (snd_cons he snd_nil hy) (attr_ok ha) (by rw [starEach_cons hy]; rfl) hl (starEach_cons hy) (by rfl)) fun σ H Q q => ?_
  obtain ⟨A, w, S, d, w', e1, q⟩ := q
  obtain ⟨x, ea, e1⟩ := bd_split e1
  obtain ⟨z, eb, e1⟩ := bd_split e1
  refine ⟨A, w, S, x.1, x.2, ea, fun A1 v H1 s1 S1 r1 => ⟨?_, A1, x.2, S1, z.1, z.2, eb, fun A2 vs H2 s2 S2 r2 => ⟨A2, z.2, σ, x.1, z.1, d, w', S2, r1.step s2.toCar, r2, e1, q.step (s1.trans s2)⟩⟩⟩
  -- the receiver is a list of ours: a ref
  have hr : (∃ k, x.1 = .ref k) ∨ ∃ k, x.1 = .g k := by
    have put : ∀ {d : D} {xs : List D} {w w2 : Wd}, w.put d xs = some w2 → (∃ k, d = .ref k) ∨ ∃ k, d = .g k := fun {d xs w w2} e => by
      cases d with
      | ref k => exact .inl ⟨k, rfl⟩
      | g k => exact .inr ⟨k, rfl⟩
      | _ => cases e
    have e1 : meF m x.1 z.1 z.2 = .ok (d, w') := e1
    cases m with
    | append =>
      match hz : z.1, e1 with
      | [], e1 => cases e1
      | _ :: _ :: _, e1 => cases e1
      | [t], e1 =>
        obtain ⟨xs, _, e1⟩ := bd_split (show ((R.of (z.2.seq x.1)).bd fun xs => if xs.length < mxLen then (R.of (z.2.put x.1 (xs ++ [t]))).bd fun w' => R.ok (D.non, w') else R.err) = .ok (d, w') from e1)
        split at e1
        · obtain ⟨w2, e2, _⟩ := bd_split e1
          exact put (of_split e2)
        · cases e1
    | extend =>
      match hz : z.1, e1 with
      | [], e1 => cases e1
      | _ :: _ :: _, e1 => cases e1
      | [t], e1 =>
        have e1 : (if isL t && !deq t x.1 then (R.of (z.2.seq x.1)).bd fun xs => (R.of (z.2.seq t)).bd fun ys => if xs.length + ys.length ≤ mxLen then (R.of (z.2.put x.1 (xs ++ ys))).bd fun w' => R.ok (D.non, w') else R.err else R.err) = .ok (d, w') := e1
        split at e1
        · obtain ⟨xs, _, e1⟩ := bd_split e1
          obtain ⟨ys, _, e1⟩ := bd_split e1
          split at e1
          · obtain ⟨w2, e2, _⟩ := bd_split e1
            exact put (of_split e2)
          · cases e1
        · cases e1
    | pop =>
      match hz : z.1, e1 with
      | t :: _ :: _, e1 => cases t <;> cases e1
      | [], e1 =>
        obtain ⟨xs, _, e1⟩ := bd_split (show ((R.of (z.2.seq x.1)).bd fun xs => (R.of xs[xs.length - 1]?).bd fun y => (R.of (z.2.put x.1 xs.dropLast)).bd fun w' => R.ok (y, w')) = .ok (d, w') from e1)
        obtain ⟨y, _, e1⟩ := bd_split e1
        obtain ⟨w2, e2, _⟩ := bd_split e1
        exact put (of_split e2)
      | [t], e1 =>
        cases t with
        | int i =>
          obtain ⟨xs, _, e1⟩ := bd_split (show ((R.of (z.2.seq x.1)).bd fun xs => (R.of (ixI xs.length i)).bd fun k => (R.of xs[k]?).bd fun y => (R.of (z.2.put x.1 (xs.eraseIdx k))).bd fun w' => R.ok (y, w')) = .ok (d, w') from e1)
          obtain ⟨k, _, e1⟩ := bd_split e1
          obtain ⟨y, _, e1⟩ := bd_split e1
          obtain ⟨w2, e2, _⟩ := bd_split e1
          exact put (of_split e2)
        | _ => cases e1
    | _ => cases hm
  rcases hr with ⟨k, hk⟩ | ⟨k, hk⟩
  · rw [hk] at r1
    obtain ⟨a, q1, rfl⟩ := r1
    obtain ⟨xs, vs, _, h, _⟩ := S1.mu.get q1
    exact .inl ⟨rfl, vs, SqL.of h⟩
  · rw [hk] at r1
    obtain ⟨a, q1, rfl⟩ := r1
    obtain ⟨xs, vs, _, h, _⟩ := S1.ga.get q1
    exact .inl ⟨rfl, vs, SqL.of h⟩

/-! ### what is walked -/
theorem snd_iseq {e : E} {tg x : Expr} (h : PE X x (rd X.K (evE P e))) : PI X tg x (rdI X.K (evI P (.seq e))) := by
  refine PIimp (pi_seq h) fun σ H Rr q => ?_
  obtain ⟨A, w, S, it, w', e1, q⟩ := q
  obtain ⟨x, ea, e1⟩ := bd_split e1
  obtain ⟨xs, ex, e1⟩ := bd_split e1
  cases e1
  refine ⟨A, w, S, x.1, x.2, ea, fun A1 v H1 s1 S1 r1 => ?_⟩
  obtain ⟨a, vs, rfl, rs, hq⟩ := S1.seq r1 (of_split ex)
  refine ⟨a, rfl, ?_⟩
  rcases hq with ⟨ht, hq⟩ | ⟨ht, hq⟩
  · exact .inr ⟨vs, hq, q A1 H1 _ s1 S1 (src_ok (of_split ex)) (walk_t (of_split ex) r1 ht)⟩
  · exact .inl ⟨vs, hq, q A1 H1 _ s1 S1 (src_ok (of_split ex)) (walk_l (of_split ex) r1 ht)⟩
theorem snd_rng1 (G : GX T P lv N sc top X) {e : E} {tg x : Expr} {p pos : Pos} (h : PE X x (rd X.K (evE P e))) (hg : sc.names.lookup ("range" : Str) = some .globalImplicit) (hf : ("range" : Str) ∈ T.free) (hx : okX x = true) :
    PI X tg (.Call (.Name "range" p) [x] [] pos) (rdI X.K (evI P (.rng (.cons e .nil)))) := by
  have gl : Gl X "range" := by show X.env.kindOf _ = _; unfold Env.kindOf; rw [G.sco]; exact hg
  refine PIimp (pi_range1 gl (G.free _ hf) (snd_cons h snd_nil hx) (starEach_cons hx)) fun σ H Rr q => ?_
  obtain ⟨A, w, S, it, w', e1, q⟩ := q
  obtain ⟨x, ea, e1⟩ := bd_split e1
  obtain ⟨xs, ex, e1⟩ := bd_split e1
  cases e1
  refine ⟨A, w, S, x.1, x.2, ea, fun A1 vs H1 s1 S1 r1 => ?_⟩
  have ex := of_split ex
  obtain ⟨ds, w1⟩ := x
  have hl : ds.length = 1 := evEs_len ea
  match ds, hl, ex, r1 with
  | [.int j], _, ex, r1 =>
    obtain ⟨v, rfl, rv⟩ := one_of r1
    have ex : (if rngOk j then some (rngL 0 j.toNat) else none) = some xs := ex
    split at ex
    · rename_i hj
      cases ex
      have hj := of_decide_eq_true hj
      exact ⟨j, by rw [show v = .int j from rv], hj.1, hj.2, q A1 H1 _ s1 S1 rfl walk_r⟩
    · cases ex
  | [.non], _, ex, _ => cases ex
  | [.bl _], _, ex, _ => cases ex
  | [.str _], _, ex, _ => cases ex
  | [.tup _], _, ex, _ => cases ex
  | [.lst _], _, ex, _ => cases ex
  | [.fl _], _, ex, _ => cases ex
  | [.sc _], _, ex, _ => cases ex
  | [.ref _], _, ex, _ => cases ex
  | [.g _], _, ex, _ => cases ex
  | [.dic _ _], _, ex, _ => cases ex
theorem rgV_rd {K : PySem.W.Frag} {H : Hp} {A : Ad} : ∀ (n : Nat) (a : Int), RDs K H A (rngL a n) ((List.range n).map fun i => V.int (a + (i : Nat)))
  | 0, _ => (rfl : _ = _)
  | n + 1, a => by
    rw [List.range_succ_eq_map, List.map_cons, List.map_map]
    refine RDs.cons_iff.mpr ⟨?_, ?_⟩
    · show _ = _
      congr 1
      omega
    · have h := rgV_rd (K := K) (H := H) (A := A) n (a + 1)
      have e : (List.map (fun i : Nat => V.int (a + 1 + (i : Nat))) (List.range n)) = (List.map ((fun i : Nat => V.int (a + (i : Nat))) ∘ Nat.succ) (List.range n)) := by
        refine List.map_congr_left fun i _ => ?_
        show V.int _ = V.int _
        congr 1
        have : ((Nat.succ i : Nat) : Int) = i + 1 := rfl
        omega
      rw [← e]
      exact h
theorem rgOk_of {i j : Int} {md : Nat} {tp : Bool} {w w' : Wd} {d : D} (h1 : rngOk i = true) (h2 : rngOk j = true) (h : (if tp then newT (rngL i (j - i).toNat) w else newL md (rngL i (j - i).toNat) w) = .ok (d, w')) : RgOk i j := by
  have h1 := of_decide_eq_true h1
  have h2 := of_decide_eq_true h2
  refine ⟨h1.1, h1.2, h2.1, h2.2, ?_⟩
  have : (rngL i (j - i).toNat).length ≤ mxLen := by
    cases tp with
    | true =>
      rw [if_pos rfl] at h
      unfold newT at h
      split at h
      · assumption
      · cases h
    | false =>
      rw [if_neg (by decide)] at h
      unfold newL at h
      split at h
      · assumption
      · cases h
  rw [rngL_length] at this
  exact Nat.le_trans this (by decide)
theorem lrg_fin {K : PySem.W.Frag} {A A1 : Ad} {H H1 : Hp} {σ : Sl} {i j : Int} {md : Nat} {tp : Bool} {w1 w' : Wd} {d : D} {Q : VK} (S : Sim K H1 A1 w1 σ) (s : Step A H A1 H1) (q : Aft K A H σ d w' Q) (h1 : rngOk i = true) (h2 : rngOk j = true)
    (h : (if tp then newT (rngL i (j - i).toNat) w1 else newL md (rngL i (j - i).toNat) w1) = .ok (d, w')) : RgOk i j ∧ ∀ p, H1 p = none → Q (.ref p) (upd H1 p (if tp then .tup (rgV i j) else .lst (rgV i j))) := by
  refine ⟨rgOk_of h1 h2 h, ?_⟩
  cases tp with
  | true =>
    rw [if_pos rfl] at h
    exact (Aft.newT h S (rgV_rd _ _) (q.step s)).2
  | false =>
    rw [if_neg (by decide)] at h
    exact (Aft.newL h S (rgV_rd _ _) (q.step s)).2
theorem snd_lrg1 (G : GX T P lv N sc top X) {e : E} {tp : Bool} {md : Nat} {x : Expr} {f : Str} {p p2 pos pos2 : Pos} (h : PE X x (rd X.K (evE P e))) (hf : f = if tp then ("tuple" : Str) else "list") (hg : sc.names.lookup ("range" : Str) = some .globalImplicit) (hg2 : sc.names.lookup f = some .globalImplicit) (hr : ("range" : Str) ∈ T.free) (hr2 : f ∈ T.free) (hx : okX x = true) :
    PE X (.Call (.Name f p2) [.Call (.Name "range" p) [x] [] pos] [] pos2) (rd X.K (evE P (.lrg tp md (.cons e .nil)))) := by
  have gl : Gl X "range" := by show X.env.kindOf _ = _; unfold Env.kindOf; rw [G.sco]; exact hg
  have gl2 : Gl X f := by show X.env.kindOf _ = _; unfold Env.kindOf; rw [G.sco]; exact hg2
  have rg := prg_1 (pos := pos) (p := p) gl (G.free _ hr) h (starEach_cons hx)
  have fin : ∀ σ H Q, rd X.K (evE P (.lrg tp md (.cons e .nil))) σ H Q → tRg1 (rd X.K (evE P e)) σ H (fun a b H1 => RgOk a b ∧ ∀ q, H1 q = none → Q (.ref q) (upd H1 q (if tp then .tup (rgV a b) else .lst (rgV a b)))) := fun σ H Q q => by
    obtain ⟨A, w, S, d, w', e1, q⟩ := q
    obtain ⟨x, ea, e1⟩ := bd_split e1
    obtain ⟨xs, ex, e1⟩ := bd_split e1
    obtain ⟨y, eb, ea⟩ := bd_split (show ((evE P e w).bd fun x => (evEs P .nil x.2).bd fun y => R.ok (x.1 :: y.1, y.2)) = .ok x from ea)
    cases ea
    refine ⟨A, w, S, y.1, y.2, eb, fun A1 v H1 s1 S1 r1 => ?_⟩
    have ex := of_split ex
    obtain ⟨d1, w1⟩ := y
    cases d1 with
    | int j =>
      have ex : (if rngOk j then some (rngL 0 j.toNat) else none) = some xs := ex
      split at ex
      · rename_i hj
        cases ex
        have h0 : (j - 0).toNat = j.toNat := by rw [Int.sub_zero]
        exact ⟨j, r1, lrg_fin S1 s1 q (by decide) hj (by rw [h0]; exact e1)⟩
      · cases ex
    | _ => cases ex
  cases tp with
  | true => subst hf; exact PEimp (pe_tupRg G.calm gl2 (G.free _ hr2) rg rfl) fin
  | false => subst hf; exact PEimp (pe_listRg G.calm gl2 (G.free _ hr2) rg rfl) fin
theorem snd_lrg2 (G : GX T P lv N sc top X) {e e2 : E} {tp : Bool} {md : Nat} {x y : Expr} {f : Str} {p p2 pos pos2 : Pos} (h : PE X x (rd X.K (evE P e))) (h2 : PE X y (rd X.K (evE P e2))) (hf : f = if tp then ("tuple" : Str) else "list") (hg : sc.names.lookup ("range" : Str) = some .globalImplicit) (hg2 : sc.names.lookup f = some .globalImplicit) (hr : ("range" : Str) ∈ T.free) (hr2 : f ∈ T.free) (hx : okX x = true) (hy : okX y = true) :
    PE X (.Call (.Name f p2) [.Call (.Name "range" p) [x, y] [] pos] [] pos2) (rd X.K (evE P (.lrg tp md (.cons e (.cons e2 .nil))))) := by
  have gl : Gl X "range" := by show X.env.kindOf _ = _; unfold Env.kindOf; rw [G.sco]; exact hg
  have gl2 : Gl X f := by show X.env.kindOf _ = _; unfold Env.kindOf; rw [G.sco]; exact hg2
  have rg := prg_2 (pos := pos) (p := p) gl (G.free _ hr) h h2 (starEach_cons hx) (starEach_cons hy) (noStars (by rw [List.all_cons, hy]; rfl))
  have fin : ∀ σ H Q, rd X.K (evE P (.lrg tp md (.cons e (.cons e2 .nil)))) σ H Q → tRg2 (rd X.K (evE P e)) (rd X.K (evE P e2)) σ H (fun a b H1 => RgOk a b ∧ ∀ q, H1 q = none → Q (.ref q) (upd H1 q (if tp then .tup (rgV a b) else .lst (rgV a b)))) := fun σ H Q q => by
    obtain ⟨A, w, S, d, w', e1, q⟩ := q
    obtain ⟨x, ea, e1⟩ := bd_split e1
    obtain ⟨xs, ex, e1⟩ := bd_split e1
    obtain ⟨y, eb, ea⟩ := bd_split (show ((evE P e w).bd fun x => (evEs P (.cons e2 .nil) x.2).bd fun y => R.ok (x.1 :: y.1, y.2)) = .ok x from ea)
    obtain ⟨z, ec, ea⟩ := bd_split ea
    cases ea
    obtain ⟨u, eu, ec⟩ := bd_split (show ((evE P e2 y.2).bd fun x => (evEs P .nil x.2).bd fun y => R.ok (x.1 :: y.1, y.2)) = .ok z from ec)
    cases ec
    refine ⟨A, w, S, y.1, y.2, eb, fun A1 v H1 s1 S1 r1 => ⟨A1, y.2, S1, u.1, u.2, eu, fun A2 v2 H2 s2 S2 r2 => ?_⟩⟩
    have ex := of_split ex
    obtain ⟨d1, w1⟩ := y
    obtain ⟨d2, w2⟩ := u
    cases d1 with
    | int i =>
      cases d2 with
      | int j =>
        have ex : (if rngOk i && rngOk j then some (rngL i (j - i).toNat) else none) = some xs := ex
        split at ex
        · rename_i hj
          cases ex
          obtain ⟨a1, a2⟩ := Bool.and_eq_true_iff.mp hj
          exact ⟨i, j, r1, r2, lrg_fin S2 (s1.trans s2) q a1 a2 e1⟩
        · cases ex
      | _ => cases ex
    | _ => cases d2 <;> cases ex
  cases tp with
  | true => subst hf; exact PEimp (pe_tupRg G.calm gl2 (G.free _ hr2) rg rfl) fin
  | false => subst hf; exact PEimp (pe_listRg G.calm gl2 (G.free _ hr2) rg rfl) fin
theorem three_of {K : PySem.W.Frag} {H : Hp} {A : Ad} {d e f : D} {vs : List V} (h : RDs K H A [d, e, f] vs) : ∃ v u t, vs = [v, u, t] ∧ RD K H A d v ∧ RD K H A e u ∧ RD K H A f t := by
  obtain ⟨v, r, rfl, x, y⟩ := h
  obtain ⟨u, t, rfl, z⟩ := two_of y
  exact ⟨v, u, t, rfl, x, z⟩
theorem snd_rng3 (G : GX T P lv N sc top X) {e e2 e3 : E} {tg x y z : Expr} {p pos : Pos} (h : PE X x (rd X.K (evE P e))) (h2 : PE X y (rd X.K (evE P e2))) (h3 : PE X z (rd X.K (evE P e3))) (hg : sc.names.lookup ("range" : Str) = some .globalImplicit) (hf : ("range" : Str) ∈ T.free) (hx : okX x = true) (hy : okX y = true) (hz : okX z = true) :
    PI X tg (.Call (.Name "range" p) [x, y, z] [] pos) (rdI X.K (evI P (.rng (.cons e (.cons e2 (.cons e3 .nil)))))) := by
  have gl : Gl X "range" := by show X.env.kindOf _ = _; unfold Env.kindOf; rw [G.sco]; exact hg
  refine PIimp (pi_range3 gl (G.free _ hf) (snd_cons h (snd_cons h2 (snd_cons h3 snd_nil hz) hy) hx) (starEach_cons hx) (noStars (by rw [List.all_cons, List.all_cons, hy, hz]; rfl))) fun σ H Rr q => ?_
  obtain ⟨A, w, S, it, w', e1, q⟩ := q
  obtain ⟨x, ea, e1⟩ := bd_split e1
  obtain ⟨xs, ex, e1⟩ := bd_split e1
  cases e1
  refine ⟨A, w, S, x.1, x.2, ea, fun A1 vs H1 s1 S1 r1 => ?_⟩
  have ex := of_split ex
  obtain ⟨ds, w1⟩ := x
  have hl : ds.length = 3 := evEs_len ea
  have hi : ∃ i j c, ds = [.int i, .int j, .int c] := by
    match ds, hl, ex with
    | [a, b, c], _, ex =>
      cases a with
      | int i => cases b with
        | int j => cases c with
          | int c => exact ⟨i, j, c, rfl⟩
          | _ => cases ex
        | _ => cases c <;> cases ex
      | _ => cases b <;> cases c <;> cases ex
  obtain ⟨i, j, c, hd⟩ := hi
  have hd : ds = [.int i, .int j, .int c] := hd
  subst hd
  obtain ⟨v, u, t, rfl, rv, ru, rt⟩ := three_of r1
  have ex : (if decide (c ≠ 0 ∧ c.natAbs < 1073741824) && Builtin.Range.small i j c then some (stepL i c (Builtin.Range.rangeSize i j c).toNat) else none) = some xs := ex
  split at ex
  · rename_i hj
    cases ex
    obtain ⟨a1, a2⟩ := Bool.and_eq_true_iff.mp hj
    have a1 := of_decide_eq_true a1
    exact ⟨i, j, c, _, by rw [show v = .int i from rv, show u = .int j from ru, show t = .int c from rt], ⟨a1.1, a1.2, a2, PyProof.Rows.rangeSize_toNat i j c⟩, q A1 H1 _ s1 S1 rfl walk_c⟩
  · cases ex
theorem snd_rng2 (G : GX T P lv N sc top X) {e e2 : E} {tg x y : Expr} {p pos : Pos} (h : PE X x (rd X.K (evE P e))) (h2 : PE X y (rd X.K (evE P e2))) (hg : sc.names.lookup ("range" : Str) = some .globalImplicit) (hf : ("range" : Str) ∈ T.free) (hx : okX x = true) (hy : okX y = true) :
    PI X tg (.Call (.Name "range" p) [x, y] [] pos) (rdI X.K (evI P (.rng (.cons e (.cons e2 .nil))))) := by
  have gl : Gl X "range" := by show X.env.kindOf _ = _; unfold Env.kindOf; rw [G.sco]; exact hg
  refine PIimp (pi_range2 gl (G.free _ hf) (snd_cons h (snd_cons h2 snd_nil hy) hx) (by rw [starEach_cons hx, starEach_cons hy]; rfl) (starEach_cons hy)) fun σ H Rr q => ?_
  obtain ⟨A, w, S, it, w', e1, q⟩ := q
  obtain ⟨x, ea, e1⟩ := bd_split e1
  obtain ⟨xs, ex, e1⟩ := bd_split e1
  cases e1
  refine ⟨A, w, S, x.1, x.2, ea, fun A1 vs H1 s1 S1 r1 => ?_⟩
  have ex := of_split ex
  obtain ⟨ds, w1⟩ := x
  have hl : ds.length = 2 := evEs_len ea
  have hi : ∃ i j, ds = [.int i, .int j] := by
    match ds, hl, ex with
    | [a, b], _, ex =>
      cases a with
      | int i => cases b with
        | int j => exact ⟨i, j, rfl⟩
        | _ => cases ex
      | _ => cases b <;> cases ex
  obtain ⟨i, j, hd⟩ := hi
  have hd : ds = [.int i, .int j] := hd
  subst hd
  obtain ⟨v, u, rfl, rv, ru⟩ := two_of r1
  have ex : (if rngOk i && rngOk j then some (rngL i (j - i).toNat) else none) = some xs := ex
  split at ex
  · rename_i hj
    cases ex
    obtain ⟨a1, a2⟩ := Bool.and_eq_true_iff.mp hj
    have a1 := of_decide_eq_true a1
    have a2 := of_decide_eq_true a2
    exact ⟨i, j, by rw [show v = .int i from rv, show u = .int j from ru], ⟨a1.1, a1.2, a2.1, a2.2⟩, q A1 H1 _ s1 S1 rfl walk_r⟩
  · cases ex
theorem snd_enu (G : GX T P lv N sc top X) {e : E} {x : Expr} {elts : List Expr} {kk : Nat} {p pos tpos : Pos} (h : PE X x (rd X.K (evE P e))) (hg : sc.names.lookup ("enumerate" : Str) = some .globalImplicit) (hf : ("enumerate" : Str) ∈ T.free) (hx : okX x = true) :
    PI X (.Tuple elts kk tpos) (.Call (.Name "enumerate" p) [x] [] pos) (rdI X.K (evI P (.enu e))) := by
  have gl : Gl X "enumerate" := by show X.env.kindOf _ = _; unfold Env.kindOf; rw [G.sco]; exact hg
  refine PIimp (pi_enu gl (G.free _ hf) (snd_cons h snd_nil hx) (starEach_cons hx)) fun σ H Rr q => ?_
  obtain ⟨A, w, S, it, w', e1, q⟩ := q
  obtain ⟨x, ea, e1⟩ := bd_split e1
  obtain ⟨xs, ex, e1⟩ := bd_split e1
  cases e1
  refine ⟨A, w, S, [x.1], x.2, by show (evE P e w).bd _ = _; rw [ea]; rfl, fun A1 vs H1 s1 S1 r1 => ?_⟩
  obtain ⟨v, rfl, rv⟩ := one_of r1
  obtain ⟨a, vs, rfl, rs, hq⟩ := S1.seq rv (of_split ex)
  refine ⟨a, rfl, ?_⟩
  rcases hq with ⟨ht, hq⟩ | ⟨ht, hq⟩
  · exact .inr ⟨vs, hq, q A1 H1 _ s1 S1 (src_ok (of_split ex)) (walk_et (of_split ex) rv ht)⟩
  · exact .inl ⟨vs, hq, q A1 H1 _ s1 S1 (src_ok (of_split ex)) (walk_e (of_split ex) rv ht)⟩
theorem snd_zip (G : GX T P lv N sc top X) {e e2 : E} {x y : Expr} {elts : List Expr} {kk : Nat} {p pos tpos : Pos} (h : PE X x (rd X.K (evE P e))) (h2 : PE X y (rd X.K (evE P e2))) (hg : sc.names.lookup ("zip" : Str) = some .globalImplicit) (hf : ("zip" : Str) ∈ T.free) (hx : okX x = true) (hy : okX y = true) :
    PI X (.Tuple elts kk tpos) (.Call (.Name "zip" p) [x, y] [] pos) (rdI X.K (evI P (.zip e e2))) := by
  have gl : Gl X "zip" := by show X.env.kindOf _ = _; unfold Env.kindOf; rw [G.sco]; exact hg
  refine PIimp (RZ.pi_zipA gl (G.free _ hf) (snd_cons h (snd_cons h2 snd_nil hy) hx) (starEach_cons hx) (by rw [starEach_cons hy]; rfl)) fun σ H Rr q => ?_
  obtain ⟨A, w, S, it, w', e1, q⟩ := q
  obtain ⟨x, ea, e1⟩ := bd_split e1
  obtain ⟨y, eb, e1⟩ := bd_split e1
  obtain ⟨xs, ex, e1⟩ := bd_split e1
  obtain ⟨ys, ey, e1⟩ := bd_split e1
  split at e1
  case isFalse => cases e1
  rename_i ht
  have ht : isT x.1 = isT y.1 := eq_of_beq ht
  cases e1
  have ex := of_split ex
  have ey := of_split ey
  refine ⟨A, w, S, [x.1, y.1], y.2, by show (evE P e w).bd _ = _; rw [ea]; show ((evE P e2 x.2).bd _).bd _ = _; rw [eb]; rfl, fun A1 vs H1 s1 S1 r1 => ?_⟩
  obtain ⟨v, u, rfl, rv, ru⟩ := two_of r1
  obtain ⟨a, vs, rfl, rs, hq⟩ := S1.seq rv ex
  obtain ⟨b, us, rfl, rs2, hq2⟩ := S1.seq ru ey
  refine ⟨a, b, vs, us, rfl, ?_⟩
  have ok : ((srcOf x.1).ok xs y.2 && (srcOf y.1).ok ys y.2) = true := by rw [src_ok ex, src_ok ey]; rfl
  rcases hq with ⟨t1, hq⟩ | ⟨t1, hq⟩
  · rcases hq2 with ⟨t2, hq2⟩ | ⟨t2, hq2⟩
    · exact .inr ⟨hq, hq2, q A1 H1 _ s1 S1 ok (walk_zt ex ey rv ru t1 t2)⟩
    · rw [t1, t2] at ht; cases ht
  · rcases hq2 with ⟨t2, hq2⟩ | ⟨t2, hq2⟩
    · rw [t1, t2] at ht; cases ht
    · exact .inl ⟨hq, hq2, q A1 H1 _ s1 S1 ok (walk_z ex ey rv ru t1 t2)⟩
end
end Fz

/-! Q13: comprehensions; the checker of expressions and what it gives. -/
namespace Fz
open PySem PySem.Spec PyProof.Rows L2
section
variable {T : Tb} {P : Pg} {lv : Nat} {N : List Str} {sc : Scope} {top : Bool} {X : Cx}
theorem wipe_wipe (σ : Sl) (own : List Nat) : wipe (wipe σ own) own = wipe σ own := by
  apply List.ext_getElem?
  intro j
  rw [wipe_get, wipe_get]
  by_cases h : j ∈ own
  · rw [if_pos h, if_pos h]
    cases σ[j]? <;> rfl
  · rw [if_neg h, if_neg h]
theorem coL_read {t : Tg} {fi : Wd → R (Itd × Wd)} {fc : Wd → R (Bool × Wd)} {fe : Wd → R (D × Wd)} {own : List Nat} {md : Nat} (hs : ∀ i ∈ slotsT t, i ∈ own) (σ : Sl) (H : Hp) (Q : VK)
    (q : rd X.K (fun w => (fi w).bd fun x => (coL (asg t) fc fe x.1.ok own x.2.σ x.1.xs x.2 []).bd fun r => newL md r.1 r.2) σ H Q) : tLc (rdI X.K fi) (gD X.K t) (rdT X.K fc) (rd X.K fe) own σ H Q := by
  obtain ⟨A, w, S, d, w', e1, q⟩ := q
  obtain ⟨x, ex, e1⟩ := bd_split e1
  obtain ⟨r, er, e1⟩ := bd_split e1
  refine ⟨A, w, S, x.1, x.2, ex, fun A1 H1 J st1 S1 ok1 wd D hD => ?_⟩
  have op : Car A1 H1 { A1 with cn := D :: A1.cn } (upd H1 D (.lst [])) := Car.opens hD _
  have hDn : D ∉ A1.cn := (S1.fresh hD).1.2.2
  -- what holds between the turns
  let W : Nat → Hp → Prop := fun i Hh => i ≤ x.1.xs.length ∧ ∃ (A' : Ad) (w1 : Wd) (acc : List Fz.D) (vs : List V), Car { A1 with cn := D :: A1.cn } (upd H1 D (.lst [])) A' Hh ∧ A'.cn = D :: A1.cn ∧ (∀ b ∈ A1.cn, Hh b = H1 b) ∧
    Sim X.K Hh A' w1 σ ∧ w1.σ = x.2.σ ∧ Hh D = some (.lst vs) ∧ RDs X.K Hh A' acc vs ∧ x.1.ok w1 = true ∧ coL (asg t) fc fe x.1.ok own x.2.σ (x.1.xs.drop i) w1 acc = .ok r
  refine ⟨fun i m Hh => m = x.1.xs.length - i ∧ W i Hh, ⟨x.1.xs.length, by simp, Nat.zero_le _, { A1 with cn := D :: A1.cn }, x.2, [], [], Car.refl _ _, rfl, fun b hb => upd_ne (fun z => hDn (z ▸ hb)), S1.opens hD [], rfl, upd_same, rfl, ok1, er⟩, ?_⟩
  rintro i m Hh ⟨rfl, hi, A', w1, acc, vs, c, hcn, hk, S', hσ, hd, hacc, ok', hrun⟩
  have c1 : Car A1 H1 A' Hh := op.trans c
  by_cases hlt : i < x.1.xs.length
  · right
    obtain ⟨g1, g2⟩ := wd.go A' Hh w1 σ i c1 S' ok' hlt
    refine ⟨g1, W (i + 1), fun H' hw => ⟨_, by omega, rfl, hw⟩, fun v H' hy => ?_⟩
    obtain ⟨st2, S2, hv⟩ := g2 v H' hy
    have hxi : x.1.xs[i]? = some (x.1.xs[i]) := List.getElem?_eq_getElem hlt
    rw [List.drop_eq_getElem_cons hlt] at hrun
    obtain ⟨wa, ea, hrun⟩ := bd_split hrun
    obtain ⟨b, eb, hrun⟩ := bd_split hrun
    refine ⟨A', _, _, wa, S2.wiped own, hv _ hxi, by rw [hσ]; exact of_split ea, fun σ2 S3 m3 g3 ho => ⟨(ho own hs).trans (wipe_wipe σ own), A', wa, S3, b.1, b.2, eb, fun A3 H3 st3 S4 => ?_⟩⟩
    have sA : Step A' Hh A3 H3 := st2.trans st3
    cases hb : b.1 with
    | true =>
      rw [hb, if_pos rfl] at hrun
      refine iteT ?_
      obtain ⟨z, ez, hrun⟩ := bd_split hrun
      refine ⟨A3, b.2, S4, z.1, z.2, ez, fun A4 y H4 st4 S5 r5 => ?_⟩
      have sB : Step A' Hh A4 H4 := sA.trans st4
      have hD4 : H4 D = some (.lst vs) := (sB.cnk D (by rw [hcn]; exact List.mem_cons_self)).trans hd
      have hm4 : D ∈ A4.cn := by rw [sB.cn, hcn]; exact List.mem_cons_self
      split at hrun
      · rename_i hok
        obtain ⟨ok5, hz⟩ := Bool.and_eq_true_iff.mp hok
        have cg : Car A4 H4 A4 (upd H4 D (.lst (vs ++ [y]))) := Car.store (.inr (.inr hm4)) hD4
        refine ⟨vs, hD4, Nat.lt_of_lt_of_le (by rw [hacc.length]; exact of_decide_eq_true hz) (by decide), by omega, A4, { z.2 with σ := x.2.σ }, acc ++ [z.1], vs ++ [y], (c.trans sB.toCar).trans cg, by rw [sB.cn]; exact hcn, fun b hb => ?_, ?_, rfl, upd_same, ?_, ?_, ?_⟩
        · rw [upd_ne (show b ≠ D from fun z => hDn (z ▸ hb))]
          exact (sB.cnk b (by rw [hcn]; exact List.mem_cons_of_mem _ hb)).trans (hk b hb)
        · exact (S5.grow hm4 hD4 (vs ++ [y])).back S1 ((c1.trans sB.toCar).trans cg)
        · exact RDs.append ((hacc.step sB.toCar).step cg) (RDs.one (r5.step cg))
        · exact ok5
        · exact hrun
      · cases hrun
    | false =>
      rw [hb, if_neg Bool.false_ne_true] at hrun
      refine iteF ?_
      split at hrun
      · rename_i ok4
        refine ⟨by omega, A3, { b.2 with σ := x.2.σ }, acc, vs, c.trans sA.toCar, by rw [sA.cn]; exact hcn, fun b hb => ?_, ?_, rfl, ?_, hacc.step sA.toCar, ?_, ?_⟩
        · exact (sA.cnk b (by rw [hcn]; exact List.mem_cons_of_mem _ hb)).trans (hk b hb)
        · exact S4.back S1 (c1.trans sA.toCar)
        · exact (sA.cnk D (by rw [hcn]; exact List.mem_cons_self)).trans hd
        · exact ok4
        · exact hrun
      · cases hrun
  · left
    obtain rfl : i = x.1.xs.length := Nat.le_antisymm hi (Nat.le_of_not_lt hlt)
    refine ⟨wd.stop A' Hh w1 σ c1 S' ok', ?_⟩
    rw [List.drop_length] at hrun
    cases hrun
    obtain ⟨A2, c2, hc2, S2, r2⟩ := S'.closes e1 hcn hDn hd hacc
    have call := c1.trans c2
    exact q A2 (.ref D) Hh (st1.trans ⟨call, hc2, hk⟩) S2 r2
end
end Fz

/-! Q14: the checker of expressions and what it gives. -/
namespace Fz
open PySem PySem.Spec PyProof.Rows L2

def visB (sc : Scope) (x : Str) : Bool := match sc.names.lookup x with
  | some .local => true
  | some .cell => true
  | some .free => true
  | _ => false
theorem visB_ok {sc : Scope} {x : Str} (h : visB sc x = true) : Vis sc x := by
  unfold visB at h
  cases q : sc.names.lookup x with
  | none => rw [q] at h; cases h
  | some k =>
    rw [q] at h
    cases k with
    | «local» => exact .inl q
    | cell => exact .inr (.inl q)
    | free => exact .inr (.inr q)
    | _ => cases h
def glB (sc : Scope) (x : Str) : Bool := (match sc.names.lookup x with
  | some .globalImplicit => true
  | _ => false) && !(x == ("__debug__" : Str))
theorem glB_ok {sc : Scope} {x : Str} (h : glB sc x = true) : sc.names.lookup x = some .globalImplicit ∧ (x == ("__debug__" : Str)) = false := by
  obtain ⟨h1, h2⟩ := Bool.and_eq_true_iff.mp h
  refine ⟨?_, by simpa using h2⟩
  cases q : sc.names.lookup x with
  | none => rw [q] at h1; cases h1
  | some k =>
    rw [q] at h1
    cases k <;> first | rfl | cases h1
def ckK : D → Expr → Bool
  | .non, .Constant .none _ _ => true
  | .bl b, .Constant (.bool c) _ _ => b == c
  | .int i, .Constant (.int j) _ _ => decide (i = j)
  | .str s, .Constant (.str z) _ _ => decide (s = z)
  | _, _ => false
def opB : Operator → Operator → Bool
  | .Add, .Add => true
  | .Sub, .Sub => true
  | .Mult, .Mult => true
  | .Mod, .Mod => true
  | .Pow, .Pow => true
  | .LShift, .LShift => true
  | .BitXor, .BitXor => true
  | .BitAnd, .BitAnd => true
  | .FloorDiv, .FloorDiv => true
  | _, _ => false
theorem opB_ok : ∀ {a b : Operator}, opB a b = true → a = b := by
  intro a b h
  cases a <;> cases b <;> first | rfl | cases h
def cmB : CmpOp → CmpOp → Bool
  | .Eq, .Eq => true
  | .NotEq, .NotEq => true
  | .Lt, .Lt => true
  | .LtE, .LtE => true
  | .Gt, .Gt => true
  | .GtE, .GtE => true
  | .Is, .Is => true
  | .IsNot, .IsNot => true
  | .In, .In => true
  | .NotIn, .NotIn => true
  | _, _ => false
theorem cmB_ok : ∀ {a b : CmpOp}, cmB a b = true → a = b := by
  intro a b h
  cases a <;> cases b <;> first | rfl | cases h
def meB : Me → Bool
  | .append => true
  | .extend => true
  | .pop => true
  | _ => false
def ownN (N : List Str) (own : List Nat) : List (Str × Nat) := own.map fun i => (N.getD i "", i)
theorem ownN_slots (N : List Str) (own : List Nat) : (ownN N own).map (·.2) = own := by
  unfold ownN
  rw [List.map_map]
  exact List.map_id _
section
variable (T : Tb) (lv : Nat) (N : List Str)
mutual
def ckE : Scope → Bool → E → Expr → Bool
  | sc, _, .v i, .Name x _ => decide (N[i]? = some x) && (visB sc x && (!(x == ("__debug__" : Str)) && !(x == ("__classdict__" : Str))))
  | _, _, .k d, ex => ckK d ex
  | sc, _, .gl i, .Name x _ => (match T.cons[i]? with
    | some c => decide (c.1 = x)
    | none => false) && glB sc x
  | sc, top, .op o _ a b, .BinOp x o' y _ => opB (oper o) o' && (ckE sc top a x && ckE sc top b y)
  | sc, top, .neg a, .UnaryOp .USub x _ => ckE sc top a x
  | sc, top, .no a, .UnaryOp .Not x _ => ckE sc top a x
  | sc, top, .an a b, .BoolOp .And (x :: y :: r) p => ckE sc top a x && (match r with
    | [] => ckE sc top b y
    | z :: r => (match b with
      | .an _ _ => true
      | _ => false) && ckE sc top b (.BoolOp .And (y :: z :: r) p))
  | sc, top, .or a b, .BoolOp .Or (x :: y :: r) p => ckE sc top a x && (match r with
    | [] => ckE sc top b y
    | z :: r => (match b with
      | .or _ _ => true
      | _ => false) && ckE sc top b (.BoolOp .Or (y :: z :: r) p))
  | sc, top, .cm c a b, .Compare x [o] [y] _ => cmB (cmOp c) o && (okX y && (ckE sc top a x && ckE sc top b y))
  | sc, top, .ch a c b c2 d, .Compare x [o, o2] [y, z] _ => cmB (cmOp c) o && (cmB (cmOp c2) o2 && (okX y && (okX z && (ckE sc top a x && (ckE sc top b y && ckE sc top d z)))))
  | sc, top, .ite c a b, .IfExp x y z _ => ckE sc top c x && (ckE sc top a y && ckE sc top b z)
  | sc, top, .tup es, .Tuple xs _ _ => ckEs sc top es xs
  | sc, top, .lst _ es, .List xs _ => ckEs sc top es xs
  | sc, top, .ix a i, .Subscript x y _ => okX y && (ckE sc top a x && ckE sc top i y)
  | sc, top, .lrg tp _ (.cons e .nil), .Call (.Name f _) [.Call (.Name r _) [x] [] _] [] _ => decide (r = ("range" : Str)) && (decide (f = if tp then ("tuple" : Str) else "list") && (glB sc r && (glB sc f && (decide (r ∈ T.free) && (decide (f ∈ T.free) && (okX x && ckE sc top e x))))))
  | sc, top, .lrg tp _ (.cons e (.cons e2 .nil)), .Call (.Name f _) [.Call (.Name r _) [x, y] [] _] [] _ => decide (r = ("range" : Str)) && (decide (f = if tp then ("tuple" : Str) else "list") && (glB sc r && (glB sc f && (decide (r ∈ T.free) && (decide (f ∈ T.free) && (okX x && (okX y && (ckE sc top e x && ckE sc top e2 y))))))))
  | sc, top, .dis ks es, .Dict keys vals _ => (!keys.isEmpty && Nat.ble keys.length 15) && ckDs sc top ks es keys vals
  | sc, top, .sl _ a lo hi, .Subscript x (.Slice xl xh none _) _ => ckE sc top a x && (ckO sc top lo xl && ckO sc top hi xh)
  | sc, top, .rev _ a, .Subscript x (.Slice none none (some (.UnaryOp .USub (.Constant (.int 1) _ _) _)) _) _ => ckE sc top a x
  | sc, top, .call j pm es ks, .Call (.Name x _) xs kws _ => (match T.defs[j]? with
    | some dd => decide (dd.1 = x) && decide (arity pm (xs.length + kws.length) = dd.2.length)
    | none => false) && (decide (j < lv) && (glB sc x && (ckEs sc top es xs && (ckKs sc top ks kws && (match kwN kws with
      | some kn => decide ((j, xs.length, kn, pm) ∈ T.binds)
      | none => false)))))
  | sc, top, .bi b _ es, .Call (.Name x _) (x0 :: xs) [] _ => decide (x = biName b) && (glB sc x && (decide (x ∈ T.free) && ckEs sc top es (x0 :: xs)))
  | sc, top, .me m o .nil, .Call (.Attribute x nm ap) [] [] cp => meB m && (decide (nm = meName m) && (okA x && ((ap.endLine == cp.line) && ckE sc top o x)))
  | sc, top, .me m o (.cons e .nil), .Call (.Attribute x nm ap) [y] [] cp => meB m && (decide (nm = meName m) && (okA x && ((ap.endLine == cp.line) && (okX y && (ckE sc top o x && ckE sc top e y)))))
  | sc, top, .co _ t it c e own, .ListComp x [⟨tg, iter, ifs, 0⟩] scope _ => ckI sc top it tg iter && (okX iter && (ckT N (relS scope sc) false t tg && (ckC (relS scope sc) false c ifs && (ckE (relS scope sc) false e x && (blkC N sc scope (ownN N own) && (slotsT t).all (fun i => own.contains i))))))
  | _, _, _, _ => false
def ckEs : Scope → Bool → Es → List Expr → Bool
  | _, _, .nil, [] => true
  | sc, top, .cons e r, x :: xs => okX x && (ckE sc top e x && ckEs sc top r xs)
  | _, _, _, _ => false
def ckDs : Scope → Bool → List Str → Es → List (Option Expr) → List Expr → Bool
  | _, _, [], .nil, [], [] => true
  | sc, top, k :: ks, .cons e r, some (.Constant (.str x) _ _) :: keys, v :: vals => decide (k = x) && (ckE sc top e v && ckDs sc top ks r keys vals)
  | _, _, _, _, _, _ => false
def ckKs : Scope → Bool → Es → List Keyword → Bool
  | _, _, .nil, [] => true
  | sc, top, .cons e r, ⟨_, x, _⟩ :: xs => ckE sc top e x && ckKs sc top r xs
  | _, _, _, _ => false
def ckO : Scope → Bool → Oe → Option Expr → Bool
  | _, _, .no, none => true
  | sc, top, .so e, some x => ckE sc top e x
  | _, _, _, _ => false
def ckC : Scope → Bool → Oe → List Expr → Bool
  | _, _, .no, [] => true
  | sc, top, .so e, [x] => ckE sc top e x
  | _, _, _, _ => false
def ckI : Scope → Bool → It → Expr → Expr → Bool
  | sc, top, .seq e, _, x => ckE sc top e x
  | sc, top, .rng (.cons e .nil), _, .Call (.Name x _) [y] [] _ => decide (x = ("range" : Str)) && (glB sc x && (decide (x ∈ T.free) && (okX y && ckE sc top e y)))
  | sc, top, .rng (.cons e (.cons e2 .nil)), _, .Call (.Name x _) [y, z] [] _ => decide (x = ("range" : Str)) && (glB sc x && (decide (x ∈ T.free) && (okX y && (okX z && (ckE sc top e y && ckE sc top e2 z)))))
  | sc, top, .rng (.cons e (.cons e2 (.cons e3 .nil))), _, .Call (.Name x _) [y, z, z2] [] _ => decide (x = ("range" : Str)) && (glB sc x && (decide (x ∈ T.free) && (okX y && (okX z && (okX z2 && (ckE sc top e y && (ckE sc top e2 z && ckE sc top e3 z2)))))))
  | sc, top, .enu e, .Tuple _ _ _, .Call (.Name x _) [y] [] _ => decide (x = ("enumerate" : Str)) && (glB sc x && (decide (x ∈ T.free) && (okX y && ckE sc top e y)))
  | sc, top, .zip e e2, .Tuple _ _ _, .Call (.Name x _) [y, z] [] _ => decide (x = ("zip" : Str)) && (glB sc x && (decide (x ∈ T.free) && (okX y && (okX z && (ckE sc top e y && ckE sc top e2 z)))))
  | _, _, _, _, _ => false
end
end
section
variable {T : Tb} {P : Pg} {lv : Nat} {N : List Str}
theorem and1 {a b : Bool} (h : (a && b) = true) : a = true ∧ b = true := Bool.and_eq_true_iff.mp h
theorem ckEs_ok {sc : Scope} {top : Bool} : ∀ {es : Es} {xs : List Expr}, ckEs T lv N sc top es xs = true → xs.all okX = true ∧ es.len = xs.length
  | .nil, [], _ => ⟨rfl, rfl⟩
  | .nil, _ :: _, h => nomatch h
  | .cons _ _, [], h => nomatch h
  | .cons e r, x :: xs, h => by
    obtain ⟨h1, h2⟩ := and1 h
    obtain ⟨h3, h4⟩ := and1 h2
    obtain ⟨i1, i2⟩ := ckEs_ok h4
    exact ⟨by rw [List.all_cons, h1, i1]; rfl, by show r.len + 1 = xs.length + 1; rw [i2]⟩
theorem ckKs_ok {sc : Scope} {top : Bool} : ∀ {es : Es} {xs : List Keyword}, ckKs T lv N sc top es xs = true → es.len = xs.length
  | .nil, [], _ => rfl
  | .nil, _ :: _, h => nomatch h
  | .cons _ _, [], h => nomatch h
  | .cons e r, ⟨nm, x, kp⟩ :: xs, h => by
    obtain ⟨h1, h2⟩ := and1 h
    show r.len + 1 = xs.length + 1
    rw [ckKs_ok h2]
theorem snd_k {X : Cx} {d : D} {ex : Expr} (h : ckK d ex = true) : Snd X P (.k d) ex := by
  cases ex with
  | Constant c k pos =>
    refine Snd.plain ?_ rfl
    cases d with
    | non =>
      cases c with
      | none => exact snd_const pe_non fun _ _ => rfl
      | _ => cases h
    | bl b =>
      cases c with
      | bool c =>
        obtain rfl : b = c := eq_of_beq h
        exact snd_const pe_bl fun _ _ => rfl
      | _ => cases h
    | int i =>
      cases c with
      | int j =>
        obtain rfl : i = j := of_decide_eq_true h
        exact snd_const pe_int fun _ _ => rfl
      | _ => cases h
    | str s =>
      cases c with
      | str z =>
        obtain rfl : s = z := of_decide_eq_true h
        exact snd_const pe_str fun _ _ => rfl
      | _ => cases h
    | _ => cases h
  | _ => cases d <;> cases h
mutual
theorem sndE : ∀ (e : E) (sc : Scope) (top : Bool) (X : Cx) (ex : Expr), GX T P lv N sc top X → ckE T lv N sc top e ex = true → Snd X P e ex
  | .v i, sc, top, X, ex, G, h => by
    cases ex with
    | Name x pos =>
      obtain ⟨h1, h2⟩ := and1 h
      obtain ⟨h2, h3⟩ := and1 h2
      obtain ⟨h3, h4⟩ := and1 h3
      exact Snd.plain (snd_var G (of_decide_eq_true h1) (visB_ok h2) (by simpa using h3) (by simpa using h4)) rfl
    | _ => cases h
  | .k d, sc, top, X, ex, G, h => snd_k h
  | .gl i, sc, top, X, ex, G, h => by
    cases ex with
    | Name x pos =>
      obtain ⟨h1, h2⟩ := and1 h
      obtain ⟨h2, h3⟩ := glB_ok h2
      cases q : T.cons[i]? with
      | none => rw [q] at h1; cases h1
      | some c =>
        rw [q] at h1
        obtain rfl : c.1 = x := of_decide_eq_true h1
        exact Snd.plain (snd_glob G q h2 h3) rfl
    | _ => cases h
  | .op o md a b, sc, top, X, ex, G, h => by
    cases ex with
    | BinOp x o' y pos =>
      obtain ⟨h1, h2⟩ := and1 h
      obtain ⟨h2, h3⟩ := and1 h2
      obtain rfl := opB_ok h1
      exact Snd.plain (snd_op G (sndE a sc top X x G h2) (sndE b sc top X y G h3)) rfl
    | _ => cases h
  | .neg a, sc, top, X, ex, G, h => by
    cases ex with
    | UnaryOp op x pos =>
      cases op with
      | USub => exact Snd.plain (snd_neg G (sndE a sc top X x G h)) rfl
      | _ => cases h
    | _ => cases h
  | .no a, sc, top, X, ex, G, h => by
    cases ex with
    | UnaryOp op x pos =>
      cases op with
      | Not => exact snd_not G (sndE a sc top X x G h)
      | _ => cases h
    | _ => cases h
  | .an a b, sc, top, X, ex, G, h => by
    cases ex with
    | BoolOp op vs pos =>
      cases op with
      | Or => cases h
      | And =>
        match vs, h with
        | [], h => cases h
        | [_], h => cases h
        | [x, y], h =>
          obtain ⟨h1, h2⟩ := and1 h
          obtain ⟨p1, p2⟩ := snd_one (pos := pos) .And (sndE b sc top X y G h2)
          exact snd_and G (sndE a sc top X x G h1) p1 p2
        | x :: y :: z :: r, h =>
          obtain ⟨h1, h2⟩ := and1 h
          obtain ⟨h2, h3⟩ := and1 h2
          have s := sndE b sc top X (.BoolOp .And (y :: z :: r) pos) G h3
          exact snd_and G (sndE a sc top X x G h1) s.pe (s.pw _ _ _ rfl)
    | _ => cases h
  | .or a b, sc, top, X, ex, G, h => by
    cases ex with
    | BoolOp op vs pos =>
      cases op with
      | And => cases h
      | Or =>
        match vs, h with
        | [], h => cases h
        | [_], h => cases h
        | [x, y], h =>
          obtain ⟨h1, h2⟩ := and1 h
          obtain ⟨p1, p2⟩ := snd_one (pos := pos) .Or (sndE b sc top X y G h2)
          exact snd_or G (sndE a sc top X x G h1) p1 p2
        | x :: y :: z :: r, h =>
          obtain ⟨h1, h2⟩ := and1 h
          obtain ⟨h2, h3⟩ := and1 h2
          have s := sndE b sc top X (.BoolOp .Or (y :: z :: r) pos) G h3
          exact snd_or G (sndE a sc top X x G h1) s.pe (s.pw _ _ _ rfl)
    | _ => cases h
  | .cm c a b, sc, top, X, ex, G, h => by
    cases ex with
    | Compare x os ys pos =>
      match os, ys, h with
      | [o], [y], h =>
        obtain ⟨h1, h2⟩ := and1 h
        obtain ⟨h2, h3⟩ := and1 h2
        obtain ⟨h3, h4⟩ := and1 h3
        obtain rfl := cmB_ok h1
        exact snd_cm G (sndE a sc top X x G h3) (sndE b sc top X y G h4) h2
      | [], _, h => cases h
      | [_], [], h => cases h
      | [_], _ :: _ :: _, h => cases h
      | _ :: _ :: _, _, h => cases h
    | _ => cases h
  | .ch a c b c2 d, sc, top, X, ex, G, h => by
    cases ex with
    | Compare x os ys pos =>
      match os, ys, h with
      | [o, o2], [y, z], h =>
        obtain ⟨h1, h2⟩ := and1 h
        obtain ⟨h2, h3⟩ := and1 h2
        obtain ⟨h3, h4⟩ := and1 h3
        obtain ⟨h4, h5⟩ := and1 h4
        obtain ⟨h5, h6⟩ := and1 h5
        obtain ⟨h6, h7⟩ := and1 h6
        obtain rfl := cmB_ok h1
        obtain rfl := cmB_ok h2
        exact snd_ch G (sndE a sc top X x G h5) (sndE b sc top X y G h6) (sndE d sc top X z G h7) h3 h4
      | [], _, h => cases h
      | [_], _, h => cases h
      | [_, _], [], h => cases h
      | [_, _], [_], h => cases h
      | [_, _], _ :: _ :: _ :: _, h => cases h
      | _ :: _ :: _ :: _, _, h => cases h
    | _ => cases h
  | .ite c a b, sc, top, X, ex, G, h => by
    cases ex with
    | IfExp x y z pos =>
      obtain ⟨h1, h2⟩ := and1 h
      obtain ⟨h2, h3⟩ := and1 h2
      exact snd_ite G (sndE c sc top X x G h1) (sndE a sc top X y G h2) (sndE b sc top X z G h3)
    | _ => cases h
  | .tup es, sc, top, X, ex, G, h => by
    cases ex with
    | Tuple xs k pos => exact Snd.plain (snd_tup (sndEs es sc top X xs G h)) rfl
    | _ => cases h
  | .lst md es, sc, top, X, ex, G, h => by
    cases ex with
    | List xs pos => exact Snd.plain (snd_lst (sndEs es sc top X xs G h)) rfl
    | _ => cases h
  | .ix a i, sc, top, X, ex, G, h => by
    cases ex with
    | Subscript x y pos =>
      obtain ⟨h1, h2⟩ := and1 h
      obtain ⟨h2, h3⟩ := and1 h2
      exact Snd.plain (snd_ix G.hu1 (sndE a sc top X x G h2) (sndE i sc top X y G h3) h1) rfl
    | _ => cases h
  | .lrg tp md es, sc, top, X, ex, G, h => by
    match es, ex, h with
    | .cons e .nil, .Call (.Name f p2) [.Call (.Name r p) [x] [] pos] [] pos2, h =>
      obtain ⟨h1, k1⟩ := and1 h
      obtain ⟨h2, k2⟩ := and1 k1
      obtain ⟨h3, k3⟩ := and1 k2
      obtain ⟨h4, k4⟩ := and1 k3
      obtain ⟨h5, k5⟩ := and1 k4
      obtain ⟨h6, k6⟩ := and1 k5
      obtain ⟨h7, k7⟩ := and1 k6
      obtain rfl : r = "range" := of_decide_eq_true h1
      exact Snd.plain (snd_lrg1 G (sndE e sc top X x G k7).pe (of_decide_eq_true h2) (glB_ok h3).1 (glB_ok h4).1 (of_decide_eq_true h5) (of_decide_eq_true h6) h7) rfl
    | .cons e (.cons e2 .nil), .Call (.Name f p2) [.Call (.Name r p) [x, y] [] pos] [] pos2, h =>
      obtain ⟨h1, k1⟩ := and1 h
      obtain ⟨h2, k2⟩ := and1 k1
      obtain ⟨h3, k3⟩ := and1 k2
      obtain ⟨h4, k4⟩ := and1 k3
      obtain ⟨h5, k5⟩ := and1 k4
      obtain ⟨h6, k6⟩ := and1 k5
      obtain ⟨h7, k7⟩ := and1 k6
      obtain ⟨h8, k8⟩ := and1 k7
      obtain ⟨h9, k9⟩ := and1 k8
      obtain rfl : r = "range" := of_decide_eq_true h1
      exact Snd.plain (snd_lrg2 G (sndE e sc top X x G h9).pe (sndE e2 sc top X y G k9).pe (of_decide_eq_true h2) (glB_ok h3).1 (glB_ok h4).1 (of_decide_eq_true h5) (of_decide_eq_true h6) h7 h8) rfl
  | .dis ks es, sc, top, X, ex, G, h => by
    cases ex with
    | Dict keys vals pos =>
      obtain ⟨h1, h2⟩ := and1 h
      obtain ⟨h3, h4⟩ := and1 h1
      exact Snd.plain (snd_dis (sndDs es ks sc top X keys vals G h2) (by intro z; subst z; cases h3) (Nat.le_of_ble_eq_true h4)) rfl
    | _ => cases h
  | .sl md a lo hi, sc, top, X, ex, G, h => by
    cases ex with
    | Subscript x y pos =>
      cases y with
      | Slice xl xh st p2 =>
        cases st with
        | none =>
          obtain ⟨h1, h2⟩ := and1 h
          obtain ⟨h2, h3⟩ := and1 h2
          exact Snd.plain (snd_sl (sndE a sc top X x G h1).pe (sndO lo sc top X xl G h2) (sndO hi sc top X xh G h3)) rfl
        | some _ => cases h
      | _ => cases h
    | _ => cases h
  | .rev md a, sc, top, X, ex, G, h => by
    have hx : ∃ x k p1 p2 p3 pos, ex = .Subscript x (.Slice none none (some (.UnaryOp .USub (.Constant (.int 1) k p1) p2)) p3) pos ∧ ckE T lv N sc top a x = true := by
      unfold ckE at h
      split at h <;> first | (cases h; done) | skip
      all_goals (try rename_i heq; try cases heq)
      all_goals first
        | exact ⟨_, _, _, _, _, _, rfl, h⟩
        | contradiction
    obtain ⟨x, k, p1, p2, p3, pos, rfl, h⟩ := hx
    exact Snd.plain (snd_rev (sndE a sc top X x G h).pe) rfl
  | .call j pm es ks, sc, top, X, ex, G, h => by
    cases ex with
    | Call f xs kws pos =>
      cases f with
      | Name x p =>
        obtain ⟨h1, k2⟩ := and1 h
        obtain ⟨h2, k3⟩ := and1 k2
        obtain ⟨h3, k4⟩ := and1 k3
        obtain ⟨h4, k5⟩ := and1 k4
        obtain ⟨h5, h6⟩ := and1 k5
        obtain ⟨g1, g2⟩ := glB_ok h3
        cases q : T.defs[j]? with
        | none => rw [q] at h1; cases h1
        | some dd =>
          rw [q] at h1
          obtain ⟨h7, h8⟩ := and1 h1
          obtain rfl : dd.1 = x := of_decide_eq_true h7
          cases q2 : kwN kws with
          | none => rw [q2] at h6; cases h6
          | some kn =>
            rw [q2] at h6
            obtain ⟨o1, o2⟩ := ckEs_ok h4
            exact Snd.plain (snd_call G q (of_decide_eq_true h2) g1 g2 (sndEs es sc top X xs G h4) (sndKs ks sc top X kws G h5) o1 q2 (of_decide_eq_true h6) o2 (ckKs_ok h5) (of_decide_eq_true h8)) rfl
      | _ => cases h
    | _ => cases h
  | .bi b md es, sc, top, X, ex, G, h => by
    cases ex with
    | Call f xs kws pos =>
      cases f with
      | Name x p =>
        cases xs with
        | nil => cases h
        | cons x0 xs =>
          cases kws with
          | cons _ _ => cases h
          | nil =>
            obtain ⟨h1, h2⟩ := and1 h
            obtain ⟨h2, h3⟩ := and1 h2
            obtain ⟨h3, h4⟩ := and1 h3
            obtain rfl : x = biName b := of_decide_eq_true h1
            obtain ⟨g1, g2⟩ := glB_ok h2
            exact Snd.plain (snd_bi G (sndEs es sc top X (x0 :: xs) G h4) g1 (of_decide_eq_true h3) (ckEs_ok h4).1) rfl
      | _ => cases xs <;> cases h
    | _ => cases h
  | .me m o es, sc, top, X, ex, G, h => by
    cases ex with
    | Call f xs kws pos =>
      cases f with
      | Attribute x nm ap =>
        match es, xs, kws, h with
        | .nil, [], [], h =>
          obtain ⟨h1, h2⟩ := and1 h
          obtain ⟨h2, h3⟩ := and1 h2
          obtain ⟨h3, h4⟩ := and1 h3
          obtain ⟨h4, h5⟩ := and1 h4
          obtain rfl : nm = meName m := of_decide_eq_true h2
          exact Snd.plain (snd_me0 m (by cases m <;> first | rfl | cases h1) (sndE o sc top X x G h5).pe h3 h4) rfl
        | .cons e .nil, [y], [], h =>
          obtain ⟨h1, h2⟩ := and1 h
          obtain ⟨h2, h3⟩ := and1 h2
          obtain ⟨h3, h4⟩ := and1 h3
          obtain ⟨h4, h5⟩ := and1 h4
          obtain ⟨h5, h6⟩ := and1 h5
          obtain ⟨h6, h7⟩ := and1 h6
          obtain rfl : nm = meName m := of_decide_eq_true h2
          exact Snd.plain (snd_me1 m (by cases m <;> first | rfl | cases h1) (sndE o sc top X x G h6).pe (sndE e sc top X y G h7).pe h3 h4 h5) rfl
        | .nil, _ :: _, _, h => cases h
        | .nil, [], _ :: _, h => cases h
        | .cons _ .nil, [], _, h => cases h
        | .cons _ .nil, [_], _ :: _, h => cases h
        | .cons _ .nil, _ :: _ :: _, _, h => cases h
        | .cons _ (.cons _ _), _, _, h => cases h
      | _ => cases es with
        | nil => cases h
        | cons _ r => cases r <;> cases h
    | _ => cases es with
      | nil => cases h
      | cons _ r => cases r <;> cases h
  | .co md t it c e own, sc, top, X, ex, G, h => by
    have hx : ∃ x tg iter ifs scope pos, ex = .ListComp x [⟨tg, iter, ifs, 0⟩] scope pos ∧ (ckI T lv N sc top it tg iter && (okX iter && (ckT N (relS scope sc) false t tg && (ckC T lv N (relS scope sc) false c ifs && (ckE T lv N (relS scope sc) false e x && (blkC N sc scope (ownN N own) && (slotsT t).all (fun i => own.contains i))))))) = true := by
      unfold ckE at h
      split at h <;> first | (cases h; done) | skip
      all_goals (try rename_i heq; try cases heq)
      all_goals first
        | exact ⟨_, _, _, _, _, _, rfl, h⟩
        | contradiction
    obtain ⟨x, tg, iter, ifs, scope, pos, rfl, h⟩ := hx
    obtain ⟨h1, h2⟩ := and1 h
    obtain ⟨h2, h3⟩ := and1 h2
    obtain ⟨h3, h4⟩ := and1 h3
    obtain ⟨h4, h5⟩ := and1 h4
    obtain ⟨h5, h6⟩ := and1 h5
    obtain ⟨h6, h7⟩ := and1 h6
    have ok := blkOk_by h6
    have hs : ∀ i ∈ slotsT t, i ∈ own := fun i hi => by simpa using List.all_eq_true.mp h7 i hi
    refine Snd.plain (PEimp (pe_lc (own := ownN N own) (wi := rdI X.K (evI P it)) (g := gD X.K t) (tt := rdT X.K (evC P c)) (te := rd X.K (evE P e)) G.calm (by rw [G.hN]; exact G.nd) (sndI it sc top X tg iter G h1) (by rw [G.hN, G.sco]; exact ok)
      (fun s H C cl fp => sndT (G.blk ok.kind s H C cl fp) t tg h3) (fun s H C cl fp => sndC c _ false _ ifs (G.blk ok.kind s H C cl fp) h4)
      (fun s H C cl fp => (sndE e _ false _ x (G.blk ok.kind s H C cl fp) h5).pe) (folded_ok h2)) fun σ H Q q => ?_) rfl
    rw [ownN_slots]
    exact coL_read hs σ H Q q
theorem sndEs : ∀ (es : Es) (sc : Scope) (top : Bool) (X : Cx) (xs : List Expr), GX T P lv N sc top X → ckEs T lv N sc top es xs = true → PA X xs (rdA X.K (evEs P es))
  | .nil, sc, top, X, xs, G, h => by
    cases xs with
    | nil => exact snd_nil
    | cons _ _ => cases h
  | .cons e r, sc, top, X, xs, G, h => by
    cases xs with
    | nil => cases h
    | cons x xs =>
      obtain ⟨h1, h2⟩ := and1 h
      obtain ⟨h2, h3⟩ := and1 h2
      exact snd_cons (sndE e sc top X x G h2).pe (sndEs r sc top X xs G h3) h1
theorem sndKs : ∀ (es : Es) (sc : Scope) (top : Bool) (X : Cx) (xs : List Keyword), GX T P lv N sc top X → ckKs T lv N sc top es xs = true → PK X xs (rdA X.K (evEs P es))
  | .nil, sc, top, X, xs, G, h => by
    cases xs with
    | nil => exact snd_knil
    | cons _ _ => cases h
  | .cons e r, sc, top, X, xs, G, h => by
    cases xs with
    | nil => cases h
    | cons x xs =>
      obtain ⟨nm, x, kp⟩ := x
      obtain ⟨h2, h3⟩ := and1 h
      exact snd_kcons (sndE e sc top X x G h2).pe (sndKs r sc top X xs G h3)
theorem sndO : ∀ (o : Oe) (sc : Scope) (top : Bool) (X : Cx) (x : Option Expr), GX T P lv N sc top X → ckO T lv N sc top o x = true → PO X x (rdO X.K (evO P o))
  | .no, sc, top, X, x, G, h => by
    cases x with
    | none => exact snd_ono
    | some _ => cases h
  | .so e, sc, top, X, x, G, h => by
    cases x with
    | none => cases h
    | some x => exact snd_oso (sndE e sc top X x G h).pe
theorem sndC : ∀ (o : Oe) (sc : Scope) (top : Bool) (X : Cx) (xs : List Expr), GX T P lv N sc top X → ckC T lv N sc top o xs = true → PTs X xs (rdT X.K (evC P o))
  | .no, sc, top, X, xs, G, h => by
    cases xs with
    | nil =>
      refine ⟨fun pins s σ H Q I q => pts_nil.run pins s σ H Q I ?_⟩
      obtain ⟨A, w, S, b, w', e, q⟩ := q
      cases e
      exact q A H (Step.refl A H) S
    | cons _ _ => cases h
  | .so e, sc, top, X, xs, G, h => by
    match xs, h with
    | [], h => cases h
    | [x], h => exact pts_one (sndE e sc top X x G h).pt
    | _ :: _ :: _, h => cases h
theorem sndDs : ∀ (es : Es) (ks : List Str) (sc : Scope) (top : Bool) (X : Cx) (keys : List (Option Expr)) (vals : List Expr), GX T P lv N sc top X → ckDs T lv N sc top ks es keys vals = true → PrOk X P ks es keys vals
  | .nil, ks, sc, top, X, keys, vals, G, h => by
    match ks, keys, vals, h with
    | [], [], [], h => exact .nil
    | [], [], _ :: _, h => cases h
    | [], _ :: _, _, h => cases h
    | _ :: _, [], _, h => cases h
    | _ :: _, none :: _, _, h => cases h
    | _ :: _, some k :: _, vals, h => cases k <;> first | (cases h; done) | (rename_i c _ _; cases c <;> first | (cases h; done) | (cases vals <;> cases h))
  | .cons e r, ks, sc, top, X, keys, vals, G, h => by
    match ks, keys, vals, h with
    | k :: ks, some (.Constant (.str x) _ _) :: keys, v :: vals, h =>
      obtain ⟨h1, h2⟩ := and1 h
      obtain ⟨h2, h3⟩ := and1 h2
      have e1 := of_decide_eq_true h1
      subst e1
      exact .cons (sndE e sc top X _ G h2).pe (sndDs r _ sc top X _ _ G h3)
theorem sndI : ∀ (it : It) (sc : Scope) (top : Bool) (X : Cx) (tg iter : Expr), GX T P lv N sc top X → ckI T lv N sc top it tg iter = true → PI X tg iter (rdI X.K (evI P it))
  | .seq e, sc, top, X, tg, iter, G, h => snd_iseq (sndE e sc top X iter G h).pe
  | .rng es, sc, top, X, tg, iter, G, h => by
    cases iter with
    | Call f xs kws pos =>
      cases f with
      | Name x p =>
        match es, xs, kws, h with
        | .cons e .nil, [y], [], h =>
          obtain ⟨h1, h2⟩ := and1 h
          obtain ⟨h2, h3⟩ := and1 h2
          obtain ⟨h3, h4⟩ := and1 h3
          obtain ⟨h4, h5⟩ := and1 h4
          obtain rfl : x = "range" := of_decide_eq_true h1
          exact snd_rng1 G (sndE e sc top X y G h5).pe (glB_ok h2).1 (of_decide_eq_true h3) h4
        | .cons e (.cons e2 .nil), [y, z], [], h =>
          obtain ⟨h1, h2⟩ := and1 h
          obtain ⟨h2, h3⟩ := and1 h2
          obtain ⟨h3, h4⟩ := and1 h3
          obtain ⟨h4, h5⟩ := and1 h4
          obtain ⟨h5, h6⟩ := and1 h5
          obtain ⟨h6, h7⟩ := and1 h6
          obtain rfl : x = "range" := of_decide_eq_true h1
          exact snd_rng2 G (sndE e sc top X y G h6).pe (sndE e2 sc top X z G h7).pe (glB_ok h2).1 (of_decide_eq_true h3) h4 h5
        | .cons e (.cons e2 (.cons e3 .nil)), [y, z, z2], [], h =>
          obtain ⟨h1, h2⟩ := and1 h
          obtain ⟨h2, h3⟩ := and1 h2
          obtain ⟨h3, h4⟩ := and1 h3
          obtain ⟨h4, h5⟩ := and1 h4
          obtain ⟨h5, h6⟩ := and1 h5
          obtain ⟨h6, h7⟩ := and1 h6
          obtain ⟨h7, h8⟩ := and1 h7
          obtain ⟨h8, h9⟩ := and1 h8
          obtain rfl : x = "range" := of_decide_eq_true h1
          exact snd_rng3 G (sndE e sc top X y G h7).pe (sndE e2 sc top X z G h8).pe (sndE e3 sc top X z2 G h9).pe (glB_ok h2).1 (of_decide_eq_true h3) h4 h5 h6
        | .nil, _, _, h => cases h
        | .cons _ .nil, [], _, h => cases h
        | .cons _ .nil, [_], _ :: _, h => cases h
        | .cons _ .nil, _ :: _ :: _, _, h => cases h
        | .cons _ (.cons _ .nil), [], _, h => cases h
        | .cons _ (.cons _ .nil), [_], _, h => cases h
        | .cons _ (.cons _ .nil), [_, _], _ :: _, h => cases h
        | .cons _ (.cons _ .nil), _ :: _ :: _ :: _, _, h => cases h
        | .cons _ (.cons _ (.cons _ .nil)), [], _, h => cases h
        | .cons _ (.cons _ (.cons _ .nil)), [_], _, h => cases h
        | .cons _ (.cons _ (.cons _ .nil)), [_, _], _, h => cases h
        | .cons _ (.cons _ (.cons _ .nil)), [_, _, _], _ :: _, h => cases h
        | .cons _ (.cons _ (.cons _ .nil)), _ :: _ :: _ :: _ :: _, _, h => cases h
        | .cons _ (.cons _ (.cons _ (.cons _ _))), _, _, h => cases h
      | _ => 
        exfalso
        unfold ckI at h
        split at h <;> first | (cases h; done) | (rename_i heq; cases heq)
    | _ => 
      exfalso
      unfold ckI at h
      split at h <;> first | (cases h; done) | (rename_i heq; cases heq)
  | .enu e, sc, top, X, tg, iter, G, h => by
    have hx : ∃ elts kk tp x p y pos, tg = .Tuple elts kk tp ∧ iter = .Call (.Name x p) [y] [] pos ∧ (decide (x = ("enumerate" : Str)) && (glB sc x && (decide (x ∈ T.free) && (okX y && ckE T lv N sc top e y)))) = true := by
      unfold ckI at h
      split at h
      all_goals (try (rename_i heq; cases heq; done))
      all_goals first
        | (cases h; done)
        | (rename_i heq _; cases heq; exact ⟨_, _, _, _, _, _, _, rfl, rfl, h⟩)
        | (rename_i heq; cases heq; exact ⟨_, _, _, _, _, _, _, rfl, rfl, h⟩)
    obtain ⟨elts, kk, tp, x, p, y, pos, rfl, rfl, h⟩ := hx
    obtain ⟨h1, h2⟩ := and1 h
    obtain ⟨h2, h3⟩ := and1 h2
    obtain ⟨h3, h4⟩ := and1 h3
    obtain ⟨h4, h5⟩ := and1 h4
    obtain rfl : x = "enumerate" := of_decide_eq_true h1
    exact snd_enu G (sndE e sc top X y G h5).pe (glB_ok h2).1 (of_decide_eq_true h3) h4
  | .zip e e2, sc, top, X, tg, iter, G, h => by
    have hx : ∃ elts kk tp x p y z pos, tg = .Tuple elts kk tp ∧ iter = .Call (.Name x p) [y, z] [] pos ∧ (decide (x = ("zip" : Str)) && (glB sc x && (decide (x ∈ T.free) && (okX y && (okX z && (ckE T lv N sc top e y && ckE T lv N sc top e2 z)))))) = true := by
      unfold ckI at h
      split at h
      all_goals (try (rename_i heq; cases heq; done))
      all_goals first
        | (cases h; done)
        | (rename_i heq _; cases heq; exact ⟨_, _, _, _, _, _, _, _, rfl, rfl, h⟩)
        | (rename_i heq; cases heq; exact ⟨_, _, _, _, _, _, _, _, rfl, rfl, h⟩)
    obtain ⟨elts, kk, tp, x, p, y, z, pos, rfl, rfl, h⟩ := hx
    obtain ⟨h1, h2⟩ := and1 h
    obtain ⟨h2, h3⟩ := and1 h2
    obtain ⟨h3, h4⟩ := and1 h3
    obtain ⟨h4, h5⟩ := and1 h4
    obtain ⟨h5, h6⟩ := and1 h5
    obtain ⟨h6, h7⟩ := and1 h6
    obtain rfl : x = "zip" := of_decide_eq_true h1
    exact snd_zip G (sndE e sc top X y G h6).pe (sndE e2 sc top X z G h7).pe (glB_ok h2).1 (of_decide_eq_true h3) h4 h5
end
end
end Fz

/-! Q15: statements. -/
namespace Fz
open PySem PySem.Spec PyProof.Rows L2

/-- what is wanted behind a statement's run -/
def EndD (K : PySem.W.Frag) (A : Ad) (H : Hp) (fl : Fl) (w' : Wd) (D : Ends) : Prop := match fl with
  | .nx => ∀ A' σ' H', Step A H A' H' → Sim K H' A' w' σ' → D.nx σ' H'
  | .bk => ∀ A' σ' H', Step A H A' H' → Sim K H' A' w' σ' → D.bk σ' H'
  | .ct => ∀ A' σ' H', Step A H A' H' → Sim K H' A' w' σ' → D.ct σ' H'
  | .rt d => ∀ A' v σ' H', Step A H A' H' → Sim K H' A' w' σ' → RD K H' A' d v → D.rt v H'
def rdS (K : PySem.W.Frag) (f : Wd → R (Fl × Wd)) : TS := fun D σ H => ∃ A w, Sim K H A w σ ∧ ∃ fl w', f w = .ok (fl, w') ∧ EndD K A H fl w' D
theorem PSimp {X : Cx} {e : Stmt} {t t' : TS} (h : PS X e t) (i : ∀ D σ H, t' D σ H → t D σ H) : PS X e t' := ⟨fun pins s σ H D I q => h.run pins s σ H D I (i D σ H q)⟩
theorem PSsimp {X : Cx} {e : List Stmt} {t t' : TS} (h : PSs X e t) (i : ∀ D σ H, t' D σ H → t D σ H) : PSs X e t' := ⟨fun pins s σ H D I q => h.run pins s σ H D I (i D σ H q)⟩
theorem EndD.step {K : PySem.W.Frag} {A A1 : Ad} {H H1 : Hp} {fl : Fl} {w' : Wd} {D : Ends} (q : EndD K A H fl w' D) (s : Step A H A1 H1) : EndD K A1 H1 fl w' D := by
  cases fl with
  | nx => exact fun A' σ' H' s' S => q A' σ' H' (s.trans s') S
  | bk => exact fun A' σ' H' s' S => q A' σ' H' (s.trans s') S
  | ct => exact fun A' σ' H' s' S => q A' σ' H' (s.trans s') S
  | rt d => exact fun A' v σ' H' s' S r => q A' v σ' H' (s.trans s') S r

/-! ### a loop's turn ends: names forgotten, own lists frozen -/
section
variable {K : PySem.W.Frag} {H : Hp} {A : Ad} {w : Wd} {σ : Sl}
theorem nodupA {l : List Addr} (h : l.Nodup) {i j : Nat} {x : Addr} (a : l[i]? = some x) (b : l[j]? = some x) : i = j := by
  obtain ⟨h1, e1⟩ := List.getElem?_eq_some_iff.mp a
  obtain ⟨h2, e2⟩ := List.getElem?_eq_some_iff.mp b
  exact (List.getElem_inj h).mp (e1.trans e2.symm)
theorem Sim.kill (S : Sim K H A w σ) (vs : List Nat) : Sim K H A { w with σ := wipeD w.σ vs } σ := by
  refine ⟨fun i d e => ?_, (wipeD_length _ _).trans S.len, S.mu, S.ga, S.nd, S.ndg, S.dj, S.djg, S.bt, S.cnt, S.cnd, S.gk⟩
  have e : (wipeD w.σ vs)[i]? = some (some d) := e
  rw [wipeD_get] at e
  by_cases h : i ∈ vs
  · rw [if_pos h] at e
    cases q : w.σ[i]? <;> rw [q] at e <;> cases e
  · rw [if_neg h] at e
    exact S.loc i d e
theorem keepO_ok {L : Nat} {m : List (List D)} : ∀ {σ σ' : List (Option D)}, keepO L m σ = some σ' → σ'.length = σ.length ∧ ∀ (i : Nat) d, σ'[i]? = some (some d) → ∃ d0, σ[i]? = some (some d0) ∧ rs (keep L m) true d0 = some d
  | [], _, e => by cases e; exact ⟨rfl, fun i d e => by simp at e⟩
  | none :: r, _, e => by
    obtain ⟨xs, e1, rfl⟩ := Option.map_eq_some_iff.mp (show (keepO L m r).map (fun xs => none :: xs) = some _ from e)
    obtain ⟨h1, h2⟩ := keepO_ok e1
    refine ⟨by rw [List.length_cons, List.length_cons, h1], fun i d e => ?_⟩
    cases i with
    | zero => simp at e
    | succ i => exact h2 i d (by simpa using e)
  | some x :: r, _, e => by
    obtain ⟨y, e0, e⟩ := Option.bind_eq_some_iff.mp (show (rs (keep L m) true x).bind (fun y => (keepO L m r).map fun xs => some y :: xs) = some _ from e)
    obtain ⟨xs, e1, rfl⟩ := Option.map_eq_some_iff.mp e
    obtain ⟨h1, h2⟩ := keepO_ok e1
    refine ⟨by rw [List.length_cons, List.length_cons, h1], fun i d e => ?_⟩
    cases i with
    | zero =>
      have ed : y = d := by simpa using e
      subst ed
      exact ⟨x, rfl, e0⟩
    | succ i => exact h2 i d (by simpa using e)
theorem Sim.gc {L : Nat} {w' : Wd} (S : Sim K H A w σ) (e : w.gc L = some w') : Sim K H { A with mu := A.mu.take L } w' σ ∧ w'.g = w.g := by
  unfold Wd.gc at e
  simp only [Option.bind_eq_some_iff, Option.map_eq_some_iff] at e
  obtain ⟨σ1, e1, m1, e2, rfl⟩ := e
  have ho : ∀ a, A.out a → ({ A with mu := A.mu.take L } : Ad).out a := fun a h => ⟨fun z => h.1 (List.mem_of_mem_take z), h.2.1, h.2.2⟩
  have hk : ∀ (k : Nat) a d', keep L w.m k = some d' → A.mu[k]? = some a → RD K H { A with mu := A.mu.take L } d' (.ref a) := fun k a d' h1 h2 => by
    refine up_rd S ho (fun a _ h => h) rfl (fun k a hl h => ?_) (fun k a ys vs hl h1 h2 h3 => ?_) 4 k a d' h1 h2
    · rw [List.getElem?_take_of_lt hl]
      exact h
    · refine ⟨a, vs, rfl, h2, ⟨fun z => ?_, (S.dj a (List.mem_of_getElem? h1)).1, fun z => (S.cnd a z).1 (List.mem_of_getElem? h1)⟩, (S.dj a (List.mem_of_getElem? h1)).2, h3⟩
      obtain ⟨j, hj⟩ := List.getElem?_of_mem z
      have hj2 : j < L := by
        obtain ⟨l, _⟩ := List.getElem?_eq_some_iff.mp hj
        rw [List.length_take] at l
        omega
      rw [List.getElem?_take_of_lt hj2] at hj
      have := nodupA S.nd hj h1
      omega
  have hL : ∀ (ds es : List D) (vs : List V), rsL (keep L w.m) true ds = some es → RDs K H A ds vs → RDs K H { A with mu := A.mu.take L } es vs := fun ds es vs e r => rsL_rd hk ho (fun a _ h => h) rfl ds vs es e r
  refine ⟨⟨fun i d e => ?_, (keepO_ok e1).1.trans S.len, ?_, ?_, S.nd.sublist (List.take_sublist _ _), S.ndg, fun a h => S.dj a (List.mem_of_mem_take h), S.djg, S.bt, S.cnt, fun a h => ⟨fun z => (S.cnd a h).1 (List.mem_of_mem_take z), (S.cnd a h).2⟩, S.gk⟩, rfl⟩
  · obtain ⟨d0, h1, h2⟩ := (keepO_ok e1).2 i d e
    obtain ⟨v, h3, r⟩ := S.loc i d0 h1
    exact ⟨v, h3, rs_rd hk ho (fun a _ h => h) rfl d0 v d h2 r⟩
  · -- the own lists that stay
    have go : ∀ {as : List Addr} {ms ms' : List (List D)} (n : Nat), RL K H A as ms → keepM L w.m (ms.take n) = some ms' → RL K H { A with mu := A.mu.take L } (as.take n) ms' := fun {as} => by
      induction as with
      | nil =>
        intro ms ms' n h e
        rw [show ms = [] from h, List.take_nil] at e
        cases e
        rw [List.take_nil]
        exact rfl
      | cons a as ih =>
        intro ms ms' n h e
        obtain ⟨xs, r, vs, rfl, h1, h2, h3⟩ := h
        cases n with
        | zero => cases e; exact rfl
        | succ n =>
          rw [List.take_succ_cons] at e ⊢
          obtain ⟨ys, e3, e⟩ := Option.bind_eq_some_iff.mp (show (rsL (keep L w.m) true xs).bind (fun y => (keepM L w.m (r.take n)).map fun zs => y :: zs) = some ms' from e)
          obtain ⟨zs, e4, rfl⟩ := Option.map_eq_some_iff.mp e
          exact ⟨ys, zs, vs, rfl, h1, hL xs ys vs e3 h2, ih n h3 e4⟩
    exact go L S.mu e2
  · exact RL.gok (A := A) (A' := { A with mu := A.mu.take L }) (fun _ _ h _ => h) (.inl rfl) (fun _ h => h) S.gk S.ga
theorem post_ok {A0 : Ad} {H0 : Hp} {kill : List Nat} {gc : Bool} {L : Nat} {w' : Wd} (s : Step A0 H0 A H) (S : Sim K H A w σ) (e : postF kill gc L w = some w') (hL : L = A0.mu.length) : ∃ A', Step A0 H0 A' H ∧ Sim K H A' w' σ ∧ w'.g = w.g := by
  unfold postF at e
  have S1 := S.kill kill
  cases gc with
  | false =>
    cases e
    exact ⟨A, s, S1, rfl⟩
  | true =>
    obtain ⟨S2, hg⟩ := S1.gc (show (Wd.gc { w with σ := wipeD w.σ kill } L) = some w' from e)
    refine ⟨{ A with mu := A.mu.take L }, ⟨⟨fun a o h x => ?_, s.tup, s.frz, fun k a h => ?_, s.ga, s.bad⟩, s.cn, s.cnk⟩, S2, hg⟩
    · obtain ⟨q, y⟩ := s.kept a o h x
      exact ⟨q, fun z => y.1 (List.mem_of_mem_take z), y.2⟩
    · have hk : k < L := by
        rw [hL]
        exact (List.getElem?_eq_some_iff.mp h).1
      show (A.mu.take L)[k]? = some a
      rw [List.getElem?_take_of_lt hk]
      exact s.mu k a h
end
section
variable {T : Tb} {P : Pg} {lv : Nat} {N : List Str} {sc : Scope} {X : Cx}
/-! ### simple statements -/
def noComp : Expr → Bool
  | .ListComp _ _ _ _ => false
  | .SetComp _ _ _ _ => false
  | .DictComp _ _ _ _ _ => false
  | _ => true
theorem swaps_no {e : Expr} {t : Option Expr} {l : Nat} {env : Env} (h : noComp e = true) : swapsWith e t l env = pure false := by
  cases e <;> first | rfl | cases h
theorem snd_ex {e : E} {x : Expr} {pos : Pos} (h : PE X x (rd X.K (evE P e))) (hc : noComp x = true) : PS X (.Expr x pos) (rdS X.K (exS P (.ex e))) := by
  refine PSimp (ps_expr h (swaps_no hc)) fun D σ H q => ?_
  obtain ⟨A, w, S, fl, w', e1, q⟩ := q
  obtain ⟨x, ea, e1⟩ := bd_split e1
  cases e1
  exact ⟨A, w, S, x.1, x.2, ea, fun A1 v H1 s1 S1 r1 => q A1 σ H1 s1 S1⟩
theorem snd_ret {e : E} {x : Expr} {pos : Pos} (h : PE X x (rd X.K (evE P e))) : PS X (.Return (some x) pos) (rdS X.K (exS P (.ret e))) := by
  refine PSimp (ps_ret h) fun D σ H q => ?_
  obtain ⟨A, w, S, fl, w', e1, q⟩ := q
  obtain ⟨x, ea, e1⟩ := bd_split e1
  cases e1
  exact ⟨A, w, S, x.1, x.2, ea, fun A1 v H1 s1 S1 r1 => q A1 v σ H1 s1 S1 r1⟩
theorem snd_retn {pos : Pos} : PS X (.Return none pos) (rdS X.K (exS P .retn)) := by
  refine PSimp ps_retN fun D σ H q => ?_
  obtain ⟨A, w, S, fl, w', e1, q⟩ := q
  cases e1
  exact q A .non σ H (Step.refl A H) S rfl
theorem snd_brk {pos : Pos} : PS X (.Break pos) (rdS X.K (exS P .brk)) := by
  refine PSimp ps_break fun D σ H q => ?_
  obtain ⟨A, w, S, fl, w', e1, q⟩ := q
  cases e1
  exact q A σ H (Step.refl A H) S
theorem snd_cnt {pos : Pos} : PS X (.Continue pos) (rdS X.K (exS P .cnt)) := by
  refine PSimp ps_continue fun D σ H q => ?_
  obtain ⟨A, w, S, fl, w', e1, q⟩ := q
  cases e1
  exact q A σ H (Step.refl A H) S
theorem snd_pas {pos : Pos} : PS X (.Pass pos) (rdS X.K (exS P .pas)) := by
  refine PSimp ps_pass fun D σ H q => ?_
  obtain ⟨A, w, S, fl, w', e1, q⟩ := q
  cases e1
  exact q A σ H (Step.refl A H) S
theorem snd_dead {st : Stmt} : PS X st (rdS X.K (exS P .dead)) := by
  refine PSimp ps_never fun D σ H q => ?_
  obtain ⟨A, w, S, fl, w', e1, q⟩ := q
  cases e1
theorem snd_if {c : E} {a b : List S} {x : Expr} {xs ys : List Stmt} {pos : Pos} (hc : PT X x (rdT X.K (evT P c))) (ha : PSs X xs (rdS X.K (exB P a))) (hb : PSs X ys (rdS X.K (exB P b))) : PS X (.If x xs ys pos) (rdS X.K (exS P (.ite c a b))) := by
  refine PSimp (ps_if hc ha hb) fun D σ H q => ?_
  obtain ⟨A, w, S, fl, w', e1, q⟩ := q
  obtain ⟨x, ea, e1⟩ := bd_split e1
  refine ⟨A, w, S, x.1, x.2, ea, fun A1 H1 s1 S1 => ?_⟩
  cases hx : x.1 with
  | true =>
    rw [hx, if_pos rfl] at e1
    rw [if_pos rfl]
    exact ⟨A1, x.2, S1, fl, w', e1, q.step s1⟩
  | false =>
    rw [hx, if_neg Bool.false_ne_true] at e1
    rw [if_neg Bool.false_ne_true]
    exact ⟨A1, x.2, S1, fl, w', e1, q.step s1⟩
/-- target = value, plainly -/
theorem set_read {t : Tg} {f : Wd → R (D × Wd)} (D : Ends) (σ : Sl) (H : Hp) (q : rdS X.K (fun w => (f w).bd fun x => (R.of (asg t x.1 x.2)).bd fun w' => .ok (.nx, w')) D σ H) : tAsg (rd X.K f) (gD X.K t) D σ H := by
  obtain ⟨A, w, S, fl, w', e1, q⟩ := q
  obtain ⟨x, ea, e1⟩ := bd_split e1
  obtain ⟨w2, eb, e1⟩ := bd_split e1
  cases e1
  exact ⟨A, w, S, x.1, x.2, ea, fun A1 v H1 s1 S1 r1 => ⟨A1, x.2, x.1, w', S1, r1, of_split eb, fun σ' S' _ _ _ => q A1 σ' H1 s1 S'⟩⟩
theorem snd_set {t : Tg} {e : E} {tg x : Expr} {pos : Pos} (h : PE X x (rd X.K (evE P e))) (ht : PG X tg (gD X.K t)) (hc : noComp x = true) (hs : noStar tg = true) (hw : swappedStores [tg] x X.env = pure none) : PS X (.Assign [tg] x pos) (rdS X.K (exS P (.set t e))) :=
  PSimp (ps_asg h ht (swaps_no hc) hw (by rw [assignEach_cons hs]; rfl)) set_read
/-- a comprehension stored to a name -/
theorem snd_setc (G : GX T P lv N sc true X) {i : Nat} {md : Nat} {t : Tg} {it : It} {c : Oe} {e : E} {own : List Nat} {y : Str} {x tg iter : Expr} {ifs : List Expr} {scope : Scope} {pos py spos : Pos} (hy : N[i]? = some y) (hl : sc.names.lookup y = some .local)
    (hline : (py.line == pos.line) = true) (ha : (scope.names.any fun (n, k) => n == y && (k == .local || k == .cell)) = false) (h1 : ckI T lv N sc true it tg iter = true) (h2 : okX iter = true) (h3 : ckT N (relS scope sc) false t tg = true) (h4 : ckC T lv N (relS scope sc) false c ifs = true)
    (h5 : ckE T lv N (relS scope sc) false e x = true) (h6 : blkC N sc scope (ownN N own) = true) (h7 : (slotsT t).all (fun i => own.contains i) = true) :
    PS X (.Assign [.Name y py] (.ListComp x [⟨tg, iter, ifs, 0⟩] scope pos) spos) (rdS X.K (exS P (.set (.nm i) (.co md t it c e own)))) := by
  have ok := blkOk_by h6
  have hs : ∀ i ∈ slotsT t, i ∈ own := fun i hi => by simpa using List.all_eq_true.mp h7 i hi
  have kd : X.env.scope.kind = .function := by rw [G.sco]; exact G.kind
  have hl' : X.env.scope.names.lookup y = some .local := by rw [G.sco]; exact hl
  refine PSimp (ps_setLc (own := ownN N own) (i := i) (wi := rdI X.K (evI P it)) (g := gD X.K t) (tt := rdT X.K (evC P c)) (te := rd X.K (evE P e)) G.calm (by rw [G.hN]; exact G.nd) (by rw [G.hN]; exact hy) hl' (sw_true kd hl' hline ha)
    (sndI it sc true X tg iter G h1) (by rw [G.hN, G.sco]; exact ok)
    (fun s H C cl fp => sndT (G.blk ok.kind s H C cl fp) t tg h3) (fun s H C cl fp => sndC c _ false _ ifs (G.blk ok.kind s H C cl fp) h4)
    (fun s H C cl fp => (sndE e _ false _ x (G.blk ok.kind s H C cl fp) h5).pe) (folded_ok h2)) fun D σ H q => ?_
  rw [ownN_slots]
  obtain ⟨A, w, S, fl, w', e1, q⟩ := q
  obtain ⟨z, ea, e1⟩ := bd_split e1
  cases e1
  exact coL_read (md := md) hs σ H _ ⟨A, w, S, z.1, z.2, ea, fun A1 v H1 s1 S1 r1 => q A1 _ H1 s1 (S1.set i r1)⟩
/-- a, b = x, y: stored from the right -/
theorem snd_par2 (G : GX T P lv N sc true X) {i j : Nat} {ea eb : E} {xa xb : Expr} {x y : Str} {px py pt pt2 pos : Pos} {kt k2 : Nat} (hi : N[i]? = some x) (hj : N[j]? = some y) (hij : i ≠ j) (lx : sc.names.lookup x = some .local) (ly : sc.names.lookup y = some .local)
    (ha : PA X [xa, xb] (rdA X.K (evEs P (.cons ea (.cons eb .nil))))) (hw : swappedStores [.Tuple [.Name x px, .Name y py] kt pt] (.Tuple [xa, xb] k2 pt2) X.env = pure (some [x, y])) :
    PS X (.Assign [.Tuple [.Name x px, .Name y py] kt pt] (.Tuple [xa, xb] k2 pt2) pos) (rdS X.K (exS P (.set (.tu [.nm i, .nm j]) (.tup (.cons ea (.cons eb .nil)))))) := by
  refine PSimp (ps_par (i := i) (j := j) G.calm (by rw [G.hN]; exact G.nd) (by rw [G.hN]; exact hi) (by rw [G.hN]; exact hj) hij (by rw [G.sco]; exact lx) (by rw [G.sco]; exact ly) ha hw) fun D σ H q => ?_
  obtain ⟨A, w, S, fl, w', e1, q⟩ := q
  obtain ⟨z, e2, e1⟩ := bd_split e1
  obtain ⟨w2, e3, e1⟩ := bd_split e1
  cases e1
  obtain ⟨t, e4, e2⟩ := bd_split e2
  refine ⟨A, w, S, t.1, t.2, e4, fun A1 vs H1 s1 S1 r1 => ?_⟩
  have hl := evEs_len e4
  obtain ⟨ez, ed, _⟩ := newT_ok e2 r1
  match ht : t.1, hl with
  | [d1, d2], _ =>
    rw [ht] at r1
    obtain ⟨v, u, rfl, rv, ru⟩ := two_of r1
    refine ⟨v, u, rfl, ?_⟩
    have e5 := of_split e3
    rw [ed, ez, ht] at e5
    cases e5
    exact q A1 _ H1 s1 ((S1.set i rv).set j ru)
theorem snd_par3 (G : GX T P lv N sc true X) {i j l : Nat} {ea eb ec : E} {xa xb xc : Expr} {x y z : Str} {px py pz pt pt2 pos : Pos} {kt k2 : Nat} (hi : N[i]? = some x) (hj : N[j]? = some y) (hl : N[l]? = some z) (hij : i ≠ j) (hil : i ≠ l) (hjl : j ≠ l)
    (lx : sc.names.lookup x = some .local) (ly : sc.names.lookup y = some .local) (lz : sc.names.lookup z = some .local)
    (ha : PA X [xa, xb, xc] (rdA X.K (evEs P (.cons ea (.cons eb (.cons ec .nil)))))) (hw : swappedStores [.Tuple [.Name x px, .Name y py, .Name z pz] kt pt] (.Tuple [xa, xb, xc] k2 pt2) X.env = pure (some [x, y, z])) :
    PS X (.Assign [.Tuple [.Name x px, .Name y py, .Name z pz] kt pt] (.Tuple [xa, xb, xc] k2 pt2) pos) (rdS X.K (exS P (.set (.tu [.nm i, .nm j, .nm l]) (.tup (.cons ea (.cons eb (.cons ec .nil))))))) := by
  refine PSimp (ps_par3 (i := i) (j := j) (l := l) G.calm (by rw [G.hN]; exact G.nd) (by rw [G.hN]; exact hi) (by rw [G.hN]; exact hj) (by rw [G.hN]; exact hl) hij hil hjl (by rw [G.sco]; exact lx) (by rw [G.sco]; exact ly) (by rw [G.sco]; exact lz) ha hw) fun D σ H q => ?_
  obtain ⟨A, w, S, fl, w', e1, q⟩ := q
  obtain ⟨z, e2, e1⟩ := bd_split e1
  obtain ⟨w2, e3, e1⟩ := bd_split e1
  cases e1
  obtain ⟨t, e4, e2⟩ := bd_split e2
  refine ⟨A, w, S, t.1, t.2, e4, fun A1 vs H1 s1 S1 r1 => ?_⟩
  have hl := evEs_len e4
  obtain ⟨ez, ed, _⟩ := newT_ok e2 r1
  match ht : t.1, hl with
  | [d1, d2, d3], _ =>
    rw [ht] at r1
    obtain ⟨v, r, rfl, rv, r2⟩ := r1
    obtain ⟨u, t3, rfl, ru, rt⟩ := two_of r2
    refine ⟨v, u, t3, rfl, ?_⟩
    have e5 := of_split e3
    rw [ed, ez, ht] at e5
    cases e5
    exact q A1 _ H1 s1 (((S1.set i rv).set j ru).set l rt)
theorem swaps_sub {e o i : Expr} {p : Pos} {l : Nat} {env : Env} : swapsWith e (some (.Subscript o i p)) l env = pure false := by
  cases e <;> rfl
theorem snd_put (G : GX T P lv N sc true X) {o i e : E} {x y z : Expr} {p pos : Pos} (he : PE X z (rd X.K (evE P e))) (ho : PE X x (rd X.K (evE P o))) (hi : PE X y (rd X.K (evE P i))) (hy : okX y = true) : PS X (.Assign [.Subscript x y p] z pos) (rdS X.K (exS P (.put o i e))) := by
  refine PSimp (ps_asg he (pg_sub ho hi set_list (by intro v; cases y <;> first | rfl | cases hy)) (show swapsWithSole [.Subscript x y p] z pos.line X.env = pure false from swaps_sub (o := x) (i := y) (p := p) (l := pos.line) (env := X.env)) rfl rfl) fun D σ H q => ?_
  obtain ⟨A, w, S, fl, w', e1, q⟩ := q
  obtain ⟨z, ea, e1⟩ := bd_split e1
  obtain ⟨x, eb, e1⟩ := bd_split e1
  obtain ⟨y, ec, e1⟩ := bd_split e1
  refine ⟨A, w, S, z.1, z.2, ea, fun A1 v H1 s1 S1 r1 => ⟨A1, z.2, S1, x.1, x.2, eb, fun A2 u H2 s2 S2 r2 => ⟨A2, x.2, S2, y.1, y.2, ec, fun A3 t H3 s3 S3 r3 => ?_⟩⟩⟩
  obtain ⟨d3, w3⟩ := y
  cases d3 with
  | int k =>
    obtain ⟨xs, ed, e1⟩ := bd_split e1
    obtain ⟨j, ef, e1⟩ := bd_split e1
    obtain ⟨w4, eg, e1⟩ := bd_split e1
    cases e1
    obtain ⟨a, us, ys, rfl, h1, h2, h3, h4⟩ := put_ok (of_split eg) S3 (r2.step s3.toCar)
    have e5 := of_split ed
    rw [h2] at e5
    cases e5
    obtain ⟨s4, S4⟩ := h4 _ (h3.set j ((r1.step s2.toCar).step s3.toCar))
    refine ⟨a, us, k, j, rfl, r3, h1, by rw [h3.length]; exact of_split ef, q A3 σ _ (((s1.trans s2).trans s3).trans s4) S4⟩
  | _ => cases e1

/-! ### blocks, loops -/
theorem snd_bnil : PSs X [] (rdS X.K (exB P [])) := by
  refine PSsimp pss_nil fun D σ H q => ?_
  obtain ⟨A, w, S, fl, w', e1, q⟩ := q
  cases e1
  exact q A σ H (Step.refl A H) S
theorem snd_bcons {s : S} {r : List S} {st : Stmt} {sts : List Stmt} (h1 : PS X st (rdS X.K (exS P s))) (h2 : PSs X sts (rdS X.K (exB P r))) : PSs X (st :: sts) (rdS X.K (exB P (s :: r))) := by
  refine PSsimp (pss_cons h1 h2) fun D σ H q => ?_
  obtain ⟨A, w, S, fl, w', e1, q⟩ := q
  obtain ⟨x, ea, e1⟩ := bd_split (show ((exS P s w).bd fun x => match x.1 with
    | .nx => exB P r x.2
    | f => .ok (f, x.2)) = .ok (fl, w') from e1)
  obtain ⟨f1, w1⟩ := x
  refine ⟨A, w, S, f1, w1, ea, ?_⟩
  cases f1 with
  | nx => exact fun A1 σ1 H1 s1 S1 => ⟨A1, w1, S1, fl, w', e1, q.step s1⟩
  | bk => cases e1; exact q
  | ct => cases e1; exact q
  | rt d => cases e1; exact q
theorem snd_for (G : GX T P lv N sc true X) {t : Tg} {it : It} {body : List S} {kill : List Nat} {gc : Bool} {tg iter : Expr} {sts : List Stmt} {pos : Pos} (hi : PI X tg iter (rdI X.K (evI P it))) (hx : okX iter = true) (ht : PG X tg (gD X.K t)) (hb : PSs X sts (rdS X.K (exB P body))) :
    PS X (.For tg iter sts [] pos) (rdS X.K (exS P (.for t it body kill gc))) := by
  refine PSimp (ps_for (by rw [G.xe]; exact PassesOwn.never) G.calm hi ht hb (folded_ok hx)) fun D σ H q => ?_
  obtain ⟨A, w, S, fl, w', e1, q⟩ := q
  obtain ⟨x, ea, e1⟩ := bd_split e1
  refine ⟨A, w, S, x.1, x.2, ea, fun A1 H1 J s1 S1 ok1 wd => ?_⟩
  have hL : x.2.m.length = A1.mu.length := S1.mu.length
  let W : Nat → Sl → Hp → Prop := fun i σ' Hh => i ≤ x.1.xs.length ∧ ∃ (A' : Ad) (w1 : Wd), Step A1 H1 A' Hh ∧ Sim X.K Hh A' w1 σ' ∧ x.1.ok w1 = true ∧
    forL (asg t) (exB P body) (postF kill gc x.2.m.length) x.1.ok (x.1.xs.drop i) w1 = .ok (fl, w')
  refine ⟨fun i m σ' Hh => m = x.1.xs.length - i ∧ W i σ' Hh, ⟨x.1.xs.length, by simp, Nat.zero_le _, A1, x.2, Step.refl A1 H1, S1, ok1, e1⟩, ?_⟩
  rintro i m σ' Hh ⟨rfl, hile, A', w1, st, S', ok', hrun⟩
  by_cases hlt : i < x.1.xs.length
  · right
    obtain ⟨g1, g2⟩ := wd.go A' Hh w1 σ' i st.toCar S' ok' hlt
    refine ⟨g1, W (i + 1), fun σ2 H2 hw => ⟨_, by omega, rfl, hw⟩, fun v H2 hy => ?_⟩
    obtain ⟨st2, S2, hv⟩ := g2 v H2 hy
    rw [List.drop_eq_getElem_cons hlt] at hrun
    obtain ⟨wa, eb, hrun⟩ := bd_split hrun
    obtain ⟨r, ec, hrun⟩ := bd_split hrun
    refine ⟨A', w1, _, wa, S2, hv _ (List.getElem?_eq_getElem hlt), of_split eb, fun σ3 S3 _ _ _ => ⟨A', wa, S3, r.1, r.2, ec, ?_⟩⟩
    have s12 : Step A1 H1 A' H2 := st.trans st2
    have next : ∀ {z}, (R.of (postF kill gc x.2.m.length r.2)).bd (fun w3 => if x.1.ok w3 then forL (asg t) (exB P body) (postF kill gc x.2.m.length) x.1.ok (x.1.xs.drop (i + 1)) w3 else .err) = .ok z → z = (fl, w') →
        ∀ A4 σ4 H4, Step A' H2 A4 H4 → Sim X.K H4 A4 r.2 σ4 → W (i + 1) σ4 H4 := fun {z} h hz A4 σ4 H4 s4 S4 => by
      subst hz
      obtain ⟨w3, e3, h⟩ := bd_split h
      obtain ⟨A5, s5, S5, _⟩ := post_ok (s12.trans s4) S4 (of_split e3) hL
      split at h
      · rename_i ok3
        exact ⟨hlt, A5, w3, s5, S5, ok3, h⟩
      · cases h
    cases hr : r.1 with
    | bk =>
      rw [hr] at hrun
      cases hrun
      exact fun A4 σ4 H4 s4 S4 => q A4 σ4 H4 (s1.trans (s12.trans s4)) S4
    | rt d =>
      rw [hr] at hrun
      cases hrun
      exact fun A4 v4 σ4 H4 s4 S4 r4 => q A4 v4 σ4 H4 (s1.trans (s12.trans s4)) S4 r4
    | nx =>
      rw [hr] at hrun
      exact next hrun rfl
    | ct =>
      rw [hr] at hrun
      exact next hrun rfl
  · left
    obtain rfl : i = x.1.xs.length := Nat.le_antisymm hile (Nat.le_of_not_lt hlt)
    refine ⟨wd.stop A' Hh w1 σ' st.toCar S' ok', ?_⟩
    rw [List.drop_length] at hrun
    cases hrun
    exact q A' σ' Hh (s1.trans st) S'
theorem snd_whl (G : GX T P lv N sc true X) {c : E} {body : List S} {kill : List Nat} {gc : Bool} {x : Expr} {sts : List Stmt} {pos : Pos} (hc : PT X x (rdT X.K (evT P c))) (hb : PSs X sts (rdS X.K (exB P body))) :
    PS X (.While x sts [] pos) (rdS X.K (exS P (.whl c body kill gc))) := by
  refine PSimp (ps_while (by rw [G.xe]; exact PassesOwn.never) hc hb) fun D σ H q => ?_
  obtain ⟨A, w, S, fl, w', e1, q⟩ := q
  have hL : w.m.length = A.mu.length := S.mu.length
  have e1 : whlL (evT P c) (exB P body) (postF kill gc w.m.length) fuel w = .ok (fl, w') := e1
  let W : Nat → Sl → Hp → Prop := fun m σ' Hh => ∃ (A' : Ad) (w1 : Wd), Step A H A' Hh ∧ Sim X.K Hh A' w1 σ' ∧ whlL (evT P c) (exB P body) (postF kill gc w.m.length) m w1 = .ok (fl, w')
  refine ⟨W, ⟨fuel, A, w, Step.refl A H, S, e1⟩, ?_⟩
  rintro m σ' Hh ⟨A', w1, st, S', hrun⟩
  cases m with
  | zero => cases hrun
  | succ m =>
    obtain ⟨r, ea, hrun⟩ := bd_split hrun
    refine ⟨A', w1, S', r.1, r.2, ea, fun A2 H2 s2 S2 => ?_⟩
    cases hr : r.1 with
    | false =>
      rw [hr, if_neg Bool.false_ne_true] at hrun
      rw [if_neg Bool.false_ne_true]
      cases hrun
      exact q A2 σ' H2 (st.trans s2) S2
    | true =>
      rw [hr, if_pos rfl] at hrun
      rw [if_pos rfl]
      obtain ⟨z, eb, hrun⟩ := bd_split hrun
      refine ⟨W m, fun σ3 H3 hw => ⟨m, Nat.lt_succ_self m, hw⟩, A2, r.2, S2, z.1, z.2, eb, ?_⟩
      have s12 : Step A H A2 H2 := st.trans s2
      have next : (R.of (postF kill gc w.m.length z.2)).bd (fun w3 => whlL (evT P c) (exB P body) (postF kill gc w.m.length) m w3) = .ok (fl, w') → ∀ A4 σ4 H4, Step A2 H2 A4 H4 → Sim X.K H4 A4 z.2 σ4 → W m σ4 H4 := fun h A4 σ4 H4 s4 S4 => by
        obtain ⟨w3, e3, h⟩ := bd_split h
        obtain ⟨A5, s5, S5, _⟩ := post_ok (s12.trans s4) S4 (of_split e3) hL
        exact ⟨A5, w3, s5, S5, h⟩
      cases hz : z.1 with
      | bk =>
        rw [hz] at hrun
        cases hrun
        exact fun A4 σ4 H4 s4 S4 => q A4 σ4 H4 (s12.trans s4) S4
      | rt d =>
        rw [hz] at hrun
        cases hrun
        exact fun A4 v4 σ4 H4 s4 S4 r4 => q A4 v4 σ4 H4 (s12.trans s4) S4 r4
      | nx =>
        rw [hz] at hrun
        exact next hrun
      | ct =>
        rw [hz] at hrun
        exact next hrun
end
end Fz

/-! Q16: the checker of statements; defs. -/
namespace Fz
open PySem PySem.Spec PyProof.Rows L2

/-- which names a = b of tuples stores from the right: none: the model does not say -/
def swS (sc : Scope) (t v : Expr) : Option (Option (List Str)) := match t, v with
  | .Tuple ts _ _, .Tuple vs _ _ =>
    if (!(ts.length == 2 || ts.length == 3) || vs.length != ts.length) = true then some none else
    if (vs.any fun | .Starred .. => true | _ => false) = true then some none else
    let line := (ts.head?.map (·.pos.line)).getD 0
    let names := ts.filterMap fun
      | .Name id pos => if sc.names.lookup id == some .local && pos.line == line then some id else none
      | _ => none
    if (names.length != ts.length || names.eraseDups.length != names.length) = true then some none else
    if vs.all (foldedForSure 8) = true then some none else
    if vs.all (constantsAlone 8) = true then none else some (some names)
  | .List _ _, .Tuple _ _ _ => none
  | _, _ => some none
theorem swS_ok {sc : Scope} {t v : Expr} {env : Env} {o : Option (List Str)} (hs : env.scope = sc) (hk : sc.kind = .function) (h : swS sc t v = some o) : swappedStores [t] v env = pure o := by
  have bk : (env.blockKind != .function) = false := by
    unfold Env.blockKind
    rw [hs, hk]
    rfl
  have ko : ∀ x, env.kindOf x = sc.names.lookup x := fun x => by unfold Env.kindOf; rw [hs]
  cases t with
  | Tuple ts k pos =>
    cases v with
    | Tuple vs k2 pos2 =>
      unfold swappedStores
      simp only [swS] at h
      simp only [bk, Bool.or_false, ko, pure_bind]
      split at h
      · rename_i h1
        cases h
        exact (if_pos h1)
      · rename_i h1
        refine (if_neg h1).trans ?_
        split at h
        · rename_i h2
          cases h
          try simp only [pure_bind]
          exact (if_pos h2)
        · rename_i h2
          try simp only [pure_bind]
          refine (if_neg h2).trans ?_
          split at h
          · rename_i h3
            cases h
            try simp only [pure_bind]
            exact (if_pos h3)
          · rename_i h3
            try simp only [pure_bind]
            refine (if_neg h3).trans ?_
            split at h
            · rename_i h4
              cases h
              try simp only [pure_bind]
              exact (if_pos h4)
            · rename_i h4
              try simp only [pure_bind]
              refine (if_neg h4).trans ?_
              split at h
              · cases h
              · rename_i h5
                cases h
                try simp only [pure_bind]
                exact (if_neg h5)
    | _ => cases h; rfl
  | List ts pos =>
    cases v with
    | Tuple vs k2 pos2 => cases h
    | _ => cases h; rfl
  | _ => cases h; rfl

section
variable (T : Tb) (lv : Nat) (N : List Str) (sc : Scope)
def locB (i : Nat) (x : Str) : Bool := decide (N[i]? = some x) && (match sc.names.lookup x with
  | some .local => true
  | _ => false)
def ckPar (t : Tg) (e : E) (tg x : Expr) (names : List Str) : Bool := match t, e, tg, x with
  | .tu [.nm i, .nm j], .tup (.cons ea (.cons eb .nil)), .Tuple [.Name a _, .Name b _] _ _, .Tuple [xa, xb] _ _ =>
    locB N sc i a && (locB N sc j b && (!(i == j) && (decide (names = [a, b]) && ckEs T lv N sc true (.cons ea (.cons eb .nil)) [xa, xb])))
  | .tu [.nm i, .nm j, .nm l], .tup (.cons ea (.cons eb (.cons ec .nil))), .Tuple [.Name a _, .Name b _, .Name c _] _ _, .Tuple [xa, xb, xc] _ _ =>
    locB N sc i a && (locB N sc j b && (locB N sc l c && (!(i == j) && (!(i == l) && (!(j == l) && (decide (names = [a, b, c]) && ckEs T lv N sc true (.cons ea (.cons eb (.cons ec .nil))) [xa, xb, xc]))))))
  | _, _, _, _ => false
def ckCo (t : Tg) (e : E) (tg x : Expr) : Bool := match t, e, tg, x with
  | .nm i, .co _ t it c e own, .Name y py, .ListComp x [⟨tg, iter, ifs, 0⟩] scope pos =>
    locB N sc i y && ((py.line == pos.line) && (!(scope.names.any fun (n, k) => n == y && (k == .local || k == .cell)) && (ckI T lv N sc true it tg iter && (okX iter && (ckT N (relS scope sc) false t tg && (ckC T lv N (relS scope sc) false c ifs &&
      (ckE T lv N (relS scope sc) false e x && (blkC N sc scope (ownN N own) && (slotsT t).all (fun i => own.contains i)))))))))
  | _, _, _, _ => false
def ckSet (t : Tg) (e : E) (tg x : Expr) : Bool :=
  if noComp x then noStar tg && (match swS sc tg x with
    | some none => ckT N sc true t tg && ckE T lv N sc true e x
    | some (some names) => ckPar T lv N sc t e tg x names
    | none => false)
  else ckCo T lv N sc t e tg x
mutual
def ckS : S → Stmt → Bool
  | .set t e, .Assign [tg] x _ => ckSet T lv N sc t e tg x
  | .put o i e, .Assign [.Subscript x y _] z _ => okX y && (ckE T lv N sc true e z && (ckE T lv N sc true o x && ckE T lv N sc true i y))
  | .ex e, .Expr x _ => noComp x && ckE T lv N sc true e x
  | .ret e, .Return (some x) _ => ckE T lv N sc true e x
  | .retn, .Return none _ => true
  | .brk, .Break _ => true
  | .cnt, .Continue _ => true
  | .pas, .Pass _ => true
  | .dead, _ => true
  | .ite c a b, .If x xs ys _ => ckE T lv N sc true c x && (ckB a xs && ckB b ys)
  | .for t it body _ _, .For tg iter sts [] _ => okX iter && (ckI T lv N sc true it tg iter && (ckT N sc true t tg && ckB body sts))
  | .whl c body _ _, .While x sts [] _ => ckE T lv N sc true c x && ckB body sts
  | _, _ => false
def ckB : List S → List Stmt → Bool
  | [], [] => true
  | s :: r, st :: sts => ckS s st && ckB r sts
  | _, _ => false
end
end
section
variable {T : Tb} {P : Pg} {lv : Nat} {N : List Str} {sc : Scope} {X : Cx}
theorem locB_ok {i : Nat} {x : Str} (h : locB N sc i x = true) : N[i]? = some x ∧ sc.names.lookup x = some .local := by
  obtain ⟨h1, h2⟩ := and1 h
  refine ⟨of_decide_eq_true h1, ?_⟩
  cases q : sc.names.lookup x with
  | none => rw [q] at h2; cases h2
  | some k =>
    rw [q] at h2
    cases k <;> first | rfl | cases h2
theorem ne_ok {i j : Nat} (h : (!(i == j)) = true) : i ≠ j := by simpa using h
theorem sndSet (G : GX T P lv N sc true X) {t : Tg} {e : E} {tg x : Expr} {pos : Pos} (h : ckSet T lv N sc t e tg x = true) : PS X (.Assign [tg] x pos) (rdS X.K (exS P (.set t e))) := by
  unfold ckSet at h
  split at h
  · rename_i hc
    obtain ⟨h1, h2⟩ := and1 h
    cases q : swS sc tg x with
    | none => rw [q] at h2; cases h2
    | some o =>
      rw [q] at h2
      have hw := swS_ok G.sco G.kind q
      cases o with
      | none =>
        obtain ⟨h3, h4⟩ := and1 h2
        exact snd_set (sndE e sc true X x G h4).pe (sndT G t tg h3) hc h1 hw
      | some names =>
        have h2 : ckPar T lv N sc t e tg x names = true := h2
        unfold ckPar at h2
        split at h2
        · obtain ⟨h3, k⟩ := and1 h2
          obtain ⟨h4, k⟩ := and1 k
          obtain ⟨h5, k⟩ := and1 k
          obtain ⟨h6, kz⟩ := and1 k
          have h6 := of_decide_eq_true h6
          subst h6
          obtain ⟨a1, a2⟩ := locB_ok h3
          obtain ⟨b1, b2⟩ := locB_ok h4
          exact snd_par2 G a1 b1 (ne_ok h5) a2 b2 (sndEs _ sc true X _ G kz) hw
        · obtain ⟨h3, k⟩ := and1 h2
          obtain ⟨h4, k⟩ := and1 k
          obtain ⟨h5, k⟩ := and1 k
          obtain ⟨h6, k⟩ := and1 k
          obtain ⟨h7, k⟩ := and1 k
          obtain ⟨h8, k⟩ := and1 k
          obtain ⟨h9, kz⟩ := and1 k
          have h9 := of_decide_eq_true h9
          subst h9
          obtain ⟨a1, a2⟩ := locB_ok h3
          obtain ⟨b1, b2⟩ := locB_ok h4
          obtain ⟨c1, c2⟩ := locB_ok h5
          exact snd_par3 G a1 b1 c1 (ne_ok h6) (ne_ok h7) (ne_ok h8) a2 b2 c2 (sndEs _ sc true X _ G kz) hw
        · cases h2
  · unfold ckCo at h
    split at h
    · obtain ⟨h1, k⟩ := and1 h
      obtain ⟨h2, k⟩ := and1 k
      obtain ⟨h3, k⟩ := and1 k
      obtain ⟨h4, k⟩ := and1 k
      obtain ⟨h5, k⟩ := and1 k
      obtain ⟨h6, k⟩ := and1 k
      obtain ⟨h7, k⟩ := and1 k
      obtain ⟨h8, k⟩ := and1 k
      obtain ⟨h9, h10⟩ := and1 k
      obtain ⟨a1, a2⟩ := locB_ok h1
      exact snd_setc G a1 a2 h2 (by simpa using h3) h4 h5 h6 h7 h8 h9 h10
    · cases h
mutual
theorem sndS (G : GX T P lv N sc true X) : ∀ (s : S) (st : Stmt), ckS T lv N sc s st = true → PS X st (rdS X.K (exS P s))
  | .set t e, st, h => by
    cases st with
    | Assign tgs x pos =>
      match tgs, h with
      | [], h => cases h
      | [tg], h => exact sndSet G h
      | _ :: _ :: _, h => cases h
    | _ => cases h
  | .put o i e, st, h => by
    cases st with
    | Assign tgs z pos =>
      match tgs, h with
      | [], h => cases h
      | [tg], h =>
        cases tg with
        | Subscript x y p =>
          obtain ⟨h1, k⟩ := and1 h
          obtain ⟨h2, k⟩ := and1 k
          obtain ⟨h3, h4⟩ := and1 k
          exact snd_put G (sndE e sc true X z G h2).pe (sndE o sc true X x G h3).pe (sndE i sc true X y G h4).pe h1
        | _ => cases h
      | t1 :: _ :: _, h => cases t1 <;> cases h
    | _ => cases h
  | .ex e, st, h => by
    cases st with
    | Expr x pos =>
      obtain ⟨h1, h2⟩ := and1 h
      exact snd_ex (sndE e sc true X x G h2).pe h1
    | _ => cases h
  | .ret e, st, h => by
    cases st with
    | Return x pos =>
      cases x with
      | none => cases h
      | some x => exact snd_ret (sndE e sc true X x G h).pe
    | _ => cases h
  | .retn, st, h => by
    cases st with
    | Return x pos =>
      cases x with
      | none => exact snd_retn
      | some x => cases h
    | _ => cases h
  | .brk, st, h => by
    cases st with
    | Break pos => exact snd_brk
    | _ => cases h
  | .cnt, st, h => by
    cases st with
    | Continue pos => exact snd_cnt
    | _ => cases h
  | .pas, st, h => by
    cases st with
    | Pass pos => exact snd_pas
    | _ => cases h
  | .dead, st, h => snd_dead
  | .ite c a b, st, h => by
    cases st with
    | If x xs ys pos =>
      obtain ⟨h1, k⟩ := and1 h
      obtain ⟨h2, h3⟩ := and1 k
      exact snd_if (sndE c sc true X x G h1).pt (sndB G a xs h2) (sndB G b ys h3)
    | _ => cases h
  | .for t it body kill gc, st, h => by
    cases st with
    | For tg iter sts el pos =>
      cases el with
      | nil =>
        obtain ⟨h1, k⟩ := and1 h
        obtain ⟨h2, k⟩ := and1 k
        obtain ⟨h3, h4⟩ := and1 k
        exact snd_for G (sndI it sc true X tg iter G h2) h1 (sndT G t tg h3) (sndB G body sts h4)
      | cons _ _ => cases h
    | _ => cases h
  | .whl c body kill gc, st, h => by
    cases st with
    | While x sts el pos =>
      cases el with
      | nil =>
        obtain ⟨h1, h2⟩ := and1 h
        exact snd_whl G (sndE c sc true X x G h1).pt (sndB G body sts h2)
      | cons _ _ => cases h
    | _ => cases h
theorem sndB (G : GX T P lv N sc true X) : ∀ (b : List S) (sts : List Stmt), ckB T lv N sc b sts = true → PSs X sts (rdS X.K (exB P b))
  | [], sts, h => by
    cases sts with
    | nil => exact snd_bnil
    | cons _ _ => cases h
  | s :: r, sts, h => by
    cases sts with
    | nil => cases h
    | cons st sts =>
      obtain ⟨h1, h2⟩ := and1 h
      exact snd_bcons (sndS G s st h1) (sndB G r sts h2)
end
end

/-! ### defs -/
structure DefC where
  name : Str
  ps : List Str
  N : List Str
  body : List S
/-- the defs below n -/
def Fn (C : List D) (ds : List DefC) : Nat → Nat → List D → List (List D) → R (D × List (List D))
  | 0 => fun _ _ _ => .err
  | n + 1 => fun j => if j = n then (match ds[n]? with
    | some d => exD ⟨Fn C ds n, C⟩ d.N.length d.body
    | none => fun _ _ => .err) else Fn C ds n j
theorem Fn_lt {C : List D} {ds : List DefC} {j : Nat} : ∀ {n : Nat}, j < n → Fn C ds n j = Fn C ds (j + 1) j
  | 0, h => absurd h (Nat.not_lt_zero _)
  | n + 1, h => by
    by_cases e : j = n
    · subst e
      rfl
    · show (if j = n then _ else Fn C ds n j) = _
      rw [if_neg e]
      exact Fn_lt (by omega)
theorem Fn_at {C : List D} {ds : List DefC} {j : Nat} {d : DefC} (h : ds[j]? = some d) : Fn C ds (j + 1) j = exD ⟨Fn C ds j, C⟩ d.N.length d.body := by
  show (if j = j then _ else _) = _
  rw [if_pos rfl, h]
mutual
theorem give_ok {m : List (List D)} (n : Nat) (hn : ∀ k d', up D.lst 0 m false n k = some d' → okRet d' = true) : ∀ (d d' : D), rs (up D.lst 0 m false n) false d = some d' → okRet d' = true
  | .non, _, e => by cases e; rfl
  | .bl _, _, e => by cases e; rfl
  | .int _, _, e => by cases e; rfl
  | .str _, _, e => by cases e; rfl
  | .tup ds, _, e => by
    obtain ⟨es, e1, rfl⟩ := Option.map_eq_some_iff.mp (show (rsL (up D.lst 0 m false n) false ds).map D.tup = some _ from e)
    exact gives_ok n hn ds es e1
  | .lst ds, _, e => by
    obtain ⟨es, e1, rfl⟩ := Option.map_eq_some_iff.mp (show (rsL (up D.lst 0 m false n) false ds).map D.lst = some _ from e)
    exact gives_ok n hn ds es e1
  | .fl ds, _, e => by cases e
  | .sc ds, _, e => by cases e
  | .ref k, d', e => hn k d' e
  | .g k, _, e => by cases e; rfl
  | .dic ks ds, _, e => by
    obtain ⟨es, e1, rfl⟩ := Option.map_eq_some_iff.mp (show (rsL (up D.lst 0 m false n) false ds).map (D.dic ks) = some _ from e)
    exact gives_ok n hn ds es e1
theorem gives_ok {m : List (List D)} (n : Nat) (hn : ∀ k d', up D.lst 0 m false n k = some d' → okRet d' = true) : ∀ (ds ds' : List D), rsL (up D.lst 0 m false n) false ds = some ds' → okRets ds' = true
  | [], _, e => by cases e; rfl
  | d :: ds, _, e => by
    simp only [rsL, Option.bind_eq_some_iff, Option.map_eq_some_iff] at e
    obtain ⟨y, e1, ys, e2, rfl⟩ := e
    show (okRet y && okRets ys) = true
    rw [give_ok n hn d y e1, gives_ok n hn ds ys e2]
    rfl
end
theorem up_ok {m : List (List D)} : ∀ (n k : Nat) (d' : D), up D.lst 0 m false n k = some d' → okRet d' = true
  | 0, k, d', e => by cases e
  | n + 1, k, d', e => by
    have e : ((m[k]?).bind fun ds => (rsL (up D.lst 0 m false n) false ds).map D.lst) = some d' := e
    simp only [Option.bind_eq_some_iff, Option.map_eq_some_iff] at e
    obtain ⟨ds, _, ys, e2, rfl⟩ := e
    exact gives_ok n (up_ok n) ds ys e2
theorem exD_ret {P : Pg} {n : Nat} {body : List S} {ds : List D} {g : List (List D)} {r : D} {g' : List (List D)} (e : exD P n body ds g = .ok (r, g')) : okRet r = true := by
  unfold exD at e
  obtain ⟨x, _, e⟩ := bd_split e
  split at e
  · obtain ⟨d', e1, e⟩ := bd_split e
    cases e
    exact give_ok 4 (up_ok 4) _ _ (of_split e1)
  · cases e; rfl
  · cases e
def scopeB (N ps : List Str) (sc : Scope) : Bool := (match sc.kind with
  | .function => true
  | _ => false) && (!sc.isCoroutine && (!sc.isGenerator && (decide N.Nodup && (decide (N.take ps.length = ps) && (ps.all (fun x => match sc.names.lookup x with
    | some .local => true
    | some .cell => true
    | _ => false) && sc.names.all fun y => match y.2 with
    | .free => false
    | _ => true)))))
theorem scopeB_ok {N ps : List Str} {sc : Scope} (h : scopeB N ps sc = true) : FnScope N ps sc := by
  obtain ⟨h1, k⟩ := and1 h
  obtain ⟨h2, k⟩ := and1 k
  obtain ⟨h3, k⟩ := and1 k
  obtain ⟨h4, k⟩ := and1 k
  obtain ⟨h5, k⟩ := and1 k
  obtain ⟨h6, h7⟩ := and1 k
  refine ⟨?_, by simpa using h2, by simpa using h3, of_decide_eq_true h4, of_decide_eq_true h5, fun x hx => ?_, fun y hy z => ?_⟩
  · cases q : sc.kind <;> first | rfl | (rw [q] at h1; cases h1)
  · have q := List.all_eq_true.mp h6 x hx
    cases e : sc.names.lookup x with
    | none => rw [e] at q; cases q
    | some k => 
      rw [e] at q
      cases k with
      | «local» => exact .inl rfl
      | cell => exact .inr rfl
      | _ => cases q
  · have q := List.all_eq_true.mp h7 y hy
    rw [z] at q
    cases q
section
variable {P : Program} {w : World} {K : PySem.W.Frag} {mg : Str → Option Value} {base : Heap}
theorem Room.guards {A : Around} {qual : Str} {scope : Scope} {n f : Nat} {cd : Value} (h : A.guards = some []) : (A.deeper (envOfC qual scope n f cd)).guards = some [] := by
  first
    | exact h
    | (unfold Around.deeper; simp [h])
/-- a def keeps its promise -/
theorem def_ok {T : Tb} {Pr : Pg} {j : Nat} {dc : DefC} {fd : FuncData} {f : Addr} {params : Arguments} {stmts : List Stmt} {scope : Scope} {dvs : List V} {kws : List (Str × V)} {nm : Str} (F : FunD K nm dc.name params stmts scope dvs kws f fd)
    (hs : scopeB dc.N dc.ps scope = true) (hb : ckB T j dc.N scope dc.body stmts = true) (dig : base.NoDigits)
    (free : ∀ x ∈ T.free, mg x = none)
    (defs : ∀ (i : Nat) d, T.defs[i]? = some d → i < j → ∃ f fd, mg d.1 = some (.ref f) ∧ PySem.W.keepIn K (.ref f) = true ∧ FnG P w K mg base j f fd d.2 (spD K (Pr.F i) d.2.length) ∧
      (∀ n ks p, (i, n, ks, p) ∈ T.binds → BindOk fd d.2 n ks p) ∧ ∀ ds g r g', Pr.F i ds g = .ok (r, g') → okRet r = true)
    (cons : ∀ (i : Nat) c, T.cons[i]? = some c → Pr.C[i]? = some c.2 ∧ ∃ u v, mg c.1 = some u ∧ RelV v u ∧ ∀ H A, RD K H A c.2 v) :
    FnG P w K mg base (j + 1) f fd dc.ps (spD K (exD Pr dc.N.length dc.body) dc.ps.length) := by
  have S := scopeB_ok hs
  obtain ⟨oc, od, dV, kV, doc, pm, an, cdv, ct, osl, rfl, lk, hcd, _, _⟩ := F.ex
  refine ⟨fun A outer s H args us vs Q E hr hg e0 hbd rv hsp => ?_⟩
  obtain ⟨Ad0, g, ds, d, g', m0, c0, S0, r0, l0, e1, q⟩ := hsp
  have hl : vs.length = dc.ps.length := r0.length.trans l0
  have kx : K.In s.heap := e0.mod.kin.keeps fun b o e => (e0.bs b o e).1
  have lim : s.heap.NoLimit := e0.mod.nolimit.keeps fun b o e => (e0.bs b o e).1
  have kinds : ∀ y ∈ dc.ps.zip us, scope.names.lookup y.1 = some .local ∨ (scope.names.lookup y.1 = some .cell ∧ ((cellsFrom (s.heap.objs.size + 1) scope.names []).lookup y.1).isSome = true) := by
    rintro ⟨n, v⟩ hy
    rcases S.par n (List.of_mem_zip hy).1 with q | q
    · exact .inl q
    · exact .inr ⟨q, PySem.W.cellsFrom_some _ _ _ (.inl q)⟩
  refine codeAny_call_function hr.depth (kx _ _ lk) rfl S.co S.gen rfl (PySem.W.codeRec_of kx hcd) (hbd _ _ _ _ ?_)
  refine wpAny_newFunctionEnv_cells S.kind kinds fun env he s1 x => ?_
  subst he
  refine ⟨lim.keeps x.toInCall.keep, codeAny_func ?_⟩
  have I : Inv (cxOf CX0 P w K mg base dc.N dc.name scope f cdv A outer s H E) [] (L2.start dc.N vs) H s1 := inv_start S hr.hd e0 hl rv x
  have G : GX T Pr j dc.N scope true ((cxOf CX0 P w K mg base dc.N dc.name scope f cdv A outer s H E).nox) :=
    ⟨rfl, S.nd, rfl, S.kind, rfl, rfl, hr.deeper _, Room.guards hg, dig, fun _ _ => rfl, free, defs, cons⟩
  have body := (sndB G dc.body stmts hb).nox
  obtain ⟨z, e2, e3⟩ := bd_split (show ((exB Pr dc.body ⟨ds.map some ++ List.replicate (dc.N.length - ds.length) none, [], g⟩).bd fun x => match x.1 with
    | .rt d => (R.of (give x.2 d)).bd fun d' => R.ok (d', x.2.g)
    | .nx => R.ok (D.non, x.2.g)
    | _ => R.err) = .ok (d, g') from e1)
  have hpl : dc.ps.length ≤ dc.N.length := by
    have := congrArg List.length S.pre
    rw [List.length_take] at this
    omega
  -- the slots at the entry
  have St : Sim K H Ad0 ⟨ds.map some ++ List.replicate (dc.N.length - ds.length) none, [], g⟩ (L2.start dc.N vs) := by
    refine ⟨fun i d e => ?_, ?_, S0.mu, S0.ga, S0.nd, S0.ndg, S0.dj, S0.djg, S0.bt, S0.cnt, S0.cnd, S0.gk⟩
    · have hi : i < ds.length := by
        by_cases hi : i < ds.length
        · exact hi
        · have e : (ds.map some ++ List.replicate (dc.N.length - ds.length) none)[i]? = some (some d) := e
          rw [List.getElem?_append_right (by simpa using hi), List.getElem?_replicate] at e
          split at e <;> cases e
      have e : (ds.map some ++ List.replicate (dc.N.length - ds.length) none)[i]? = some (some d) := e
      rw [List.getElem?_append_left (by simpa using hi), List.getElem?_map] at e
      cases e4 : ds[i]? with
      | none => rw [e4] at e; cases e
      | some d2 =>
        rw [e4] at e
        cases e
        obtain ⟨v, h1, h2⟩ := r0.get e4
        refine ⟨v, ?_, h2⟩
        unfold L2.start
        rw [List.getElem?_append_left (by rw [List.length_map, r0.length]; exact hi), List.getElem?_map, h1]
        rfl
    · show (ds.map some ++ List.replicate (dc.N.length - ds.length) none).length = (L2.start dc.N vs).length
      unfold L2.start
      rw [List.length_append, List.length_append, List.length_map, List.length_map, List.length_replicate, List.length_replicate, r0.length]
  have back : ∀ {A' : Ad} {w' : Wd} {σ' : Sl} {H' : Hp}, Step Ad0 H A' H' → Sim K H' A' w' σ' → Step Ad0 H ⟨[], A'.ga, A'.bad, []⟩ H' ∧ Sim K H' ⟨[], A'.ga, A'.bad, []⟩ ⟨[], [], w'.g⟩ [] := fun {A' w' σ' H'} st S' => by
    have hc : A'.cn = [] := st.cn.trans c0
    refine ⟨⟨⟨fun a o h x => ?_, st.tup, st.frz, fun k a h => ?_, st.ga, st.bad⟩, c0.symm, st.cnk⟩, fun i d e => by simp at e, rfl, rfl, ?_, List.nodup_nil, S'.ndg, (fun a h => nomatch h), S'.djg, S'.bt, (fun a h => nomatch h), (fun a h => nomatch h), S'.gk⟩
    · obtain ⟨h1, h2⟩ := st.kept a o h x
      exact ⟨h1, List.not_mem_nil, h2.2.1, List.not_mem_nil⟩
    · rw [m0] at h
      simp at h
    · exact RL.gok (A := A') (A' := ⟨[], A'.ga, A'.bad, []⟩) (fun _ _ h _ => h) (.inl rfl) (fun _ h => h) S'.gk S'.ga
  have fin : ∀ {σ' : Sl} {H' : Hp} {v : V} {u : Value} {s' : Shared}, Inv (cxOf CX0 P w K mg base dc.N dc.name scope f cdv A outer s H E) [] σ' H' s' → RelV v u → Q v H' → CE outer P w H s Q u s' :=
    fun {σ' H' v u s'} J r q => ⟨v, H', J.os, J.bare, J.base, J.hok, r, q⟩
  refine wpAny_mono (body.run [] s1 (L2.start dc.N vs) H { nx := fun _ H' => Q .non H', rt := Q } I ⟨Ad0, _, St, z.1, z.2, e2, ?_⟩) (fun fl s' hs => ?_) fun e s' hs => hs
  · cases hz : z.1 with
    | nx =>
      rw [hz] at e3
      cases e3
      exact fun A' σ' H' st S' => let ⟨a, b⟩ := back st S'; q _ .non H' a rfl b rfl
    | rt d1 =>
      rw [hz] at e3
      obtain ⟨d2, e4, e3⟩ := bd_split e3
      cases e3
      refine fun A' v σ' H' st S' r => ?_
      obtain ⟨a, b⟩ := back st S'
      have hc : A'.cn = [] := st.cn.trans c0
      refine q _ v H' a rfl b ?_
      refine rs_rd (A := A') (A' := ⟨[], A'.ga, A'.bad, []⟩) (fun k a d' e h => up_rd (K := K) (A' := ⟨[], A'.ga, A'.bad, []⟩) S' (fun a h => ⟨List.not_mem_nil, h.2.1, List.not_mem_nil⟩) (fun a _ h => h) rfl (fun k a h => absurd h (Nat.not_lt_zero _)) (fun k a ys vs _ h1 h2 h3 => ?_) 4 k a d' e h) (fun a h => ⟨List.not_mem_nil, h.2.1, List.not_mem_nil⟩) (fun a _ h => h) rfl d1 v d (of_split e4) r
      obtain ⟨d3, d4⟩ := S'.dj a (List.mem_of_getElem? h1)
      exact ⟨a, vs, rfl, h2, ⟨List.not_mem_nil, d3, List.not_mem_nil⟩, d4, h3⟩
    | bk => rw [hz] at e3; cases e3
    | ct => rw [hz] at e3; cases e3
  · cases fl with
    | ret u =>
      obtain ⟨v, σ', H', J, r, q⟩ := hs
      exact fin J r q
    | next =>
      obtain ⟨σ', H', J, q⟩ := hs
      exact fin (v := V.non) (u := Value.none) J rfl q
    | brk =>
      obtain ⟨_, _, _, q⟩ := hs
      exact False.elim q
    | cont =>
      obtain ⟨_, _, _, q⟩ := hs
      exact False.elim q
end
end Fz

/-! Q17: the program's end: all defs keep their promises; the law's call. -/
namespace Fz
open PySem PySem.Spec PyProof.Rows L2

/-! ### the law's call -/
theorem law_callG {P : Program} {w : World} {K : PySem.W.Frag} {mg mb : Str → Option Value} {k : Nat} {fa a : Addr} {fd : FuncData} {x : Str} {sp : Sp} {s1 : Shared} {vs : List Value} {ns : List Int}
    (KX : K.In s1.heap) (hns : s1.heap.Ns mainGlobals mg) (hb : s1.heap.Ns builtinsNs mb) (hbb : ∀ x : Str, x ≠ "__name__" → mb x = bootBuiltins x) (hlim : s1.heap.NoLimit) (hdig : s1.heap.NoDigits) (hg : s1.gens = #[])
    (ha : s1.heap.get? a = some { cls := .type "list", data := .seq vs.toArray }) (hi : IntsAre vs ns) (hl : ns.length ≤ sizeLine) (hr : Room k callerA)
    (F : ∀ base : Heap, K.In base → base.Ns mainGlobals mg → base.NoDigits → FnG P w K mg base k fa fd [x] sp) (hbind : ∀ (s : Shared) (u : Value), BindsTo s fd ⟨[u], []⟩ [(x, u)])
    (hsp : ∀ H : Hp, SqF K H a (ns.map V.int) → sp [.ref a] H (fun v _ => v = .bl true) fun _ _ _ => False) :
    codeAny (model P w) callerA (.call (.ref fa) ⟨[.ref a], []⟩) (fun r s' => r = .ok (.ret (.bool true)) ∧ OldK s1.heap s'.heap ∧ s'.os = s1.os ∧ AllBare s'.gens) s1 := by
  have rv := vals_ints hi
  have lv := hi.length
  -- with an abstract heap that holds the script alone, or nothing
  have core : ∀ H : Hp, SqF K H a (ns.map V.int) → HOk P w H s1.heap → (∀ b u, H b = some u → b = a ∧ ∃ o ys, u = .frz o (.lst ys)) → (H a ≠ none → K.lookup a = none) →
      codeAny (model P w) callerA (.call (.ref fa) ⟨[.ref a], []⟩) (fun r s' => r = .ok (.ret (.bool true)) ∧ OldK s1.heap s'.heap ∧ s'.os = s1.os ∧ AllBare s'.gens) s1 := by
    intro H hS hok hA hK
    have dictH : ∀ {b : Addr} {o : Obj} {es : Array DictEntry} {ep : Nat}, s1.heap.get? b = some o → o.data = .dict es ep → H b = none := fun {b o es ep} e d => by
      cases q : H b with
      | none => rfl
      | some u =>
        obtain ⟨rfl, _⟩ := hA b u q
        rw [ha] at e
        cases e
        cases (show Data.seq vs.toArray _ = Data.dict es ep from d)
    have nsH : ∀ {b : Addr} {m : Str → Option Value}, s1.heap.Ns b m → (hidT s1.heap H).Ns b m := fun {b m} ⟨o, es, ep, e, d, r⟩ => ⟨o, es, ep, hidT_get e (dictH e d), d, r⟩
    have kIn : K.In (hidT s1.heap H) := fun b o e => hidT_get (KX b o e) (by
      cases q : H b with
      | none => rfl
      | some u =>
        obtain ⟨rfl, _⟩ := hA b u q
        rw [hK (by rw [q]; exact fun z => nomatch z)] at e
        cases e)
    have mod : Mod K mg (hidT s1.heap H) := ⟨kIn, nsH hns, ⟨mb, nsH hb, hbb⟩, let ⟨mc, h1, h2⟩ := hlim; ⟨mc, nsH h1, h2⟩⟩
    have dig : (hidT s1.heap H).NoDigits := let ⟨mc, h1, h2⟩ := hdig; ⟨mc, nsH h1, h2⟩
    have e0 : Env0 P w K mg (hidT s1.heap H) callerA [] s1 H := ⟨rfl, mod, fun b o e => of_hidT e, Nat.le_of_eq (hidT_size _ _), trivial, (fun b hb => nomatch hb), hok, .of_eq hg⟩
    refine codeAny_mono ((F _ kIn (nsH hns) dig).run callerA [] s1 H ⟨[.ref a], []⟩ [.ref a] [.ref a] _ _ hr rfl e0 (hbind s1 (.ref a)) (.cons rfl .nil) (hsp H hS)) fun r s' h => ?_
    cases r with
    | error e => exact False.elim h
    | ok fl =>
      cases fl with
      | next => exact False.elim h
      | brk => exact False.elim h
      | cont => exact False.elim h
      | ret u =>
        obtain ⟨v, H', os, bare, un, hok', r', q⟩ := h
        obtain rfl : v = .bl true := q
        obtain rfl : u = Value.bool true := r'
        refine ⟨rfl, OldK.of_keep fun b o e => ?_, os, bare⟩
        cases q : H b with
        | none => exact un.keep b o e q (fun z => nomatch z) (fun z => nomatch z)
        | some u =>
          obtain ⟨_, ob, ys, rfl⟩ := hA b u q
          have e1 := (hok b _ q).1
          have e2 := (hok' b _ (un.frzs b ob _ q)).1
          rw [e] at e1
          cases e1
          exact e2
  cases hk : K.lookup a with
  | some o =>
    have e := KX a o hk
    rw [ha] at e
    cases e
    exact core (fun _ => none) (.inr (.inr ⟨_, vs.toArray, _, hk, rfl, rfl, rfl, by rw [List.size_toArray, lv]; exact hl, rv⟩)) (fun b u z => nomatch z) (fun b u z => nomatch z) fun z => absurd rfl z
  | none =>
    let o : Obj := { cls := .type "list", data := .seq vs.toArray }
    have at_ : ∀ b u, (if b = a then some (HO.frz o (.lst (ns.map V.int))) else none) = some u → b = a ∧ u = .frz o (.lst (ns.map V.int)) := fun b u z => by
      by_cases hb : b = a
      · rw [if_pos hb] at z
        cases z
        exact ⟨hb, rfl⟩
      · rw [if_neg hb] at z
        cases z
    refine core (fun b => if b = a then some (.frz o (.lst (ns.map V.int))) else none) (.inl ⟨o, if_pos rfl⟩) (fun b u z => ?_) (fun b u z => ?_) fun _ => hk
    · obtain ⟨rfl, rfl⟩ := at_ b u z
      exact ⟨ha, by rw [List.length_map]; exact hl, vs, _, rv, ha⟩
    · obtain ⟨e1, e2⟩ := at_ b u z
      exact ⟨e1, _, _, e2⟩
theorem intD_rds {K : PySem.W.Frag} {H : Hp} {A : Ad} : ∀ ns : List Int, RDs K H A (ns.map D.int) (ns.map V.int)
  | [] => rfl
  | n :: ns => ⟨_, _, rfl, rfl, intD_rds ns⟩
/-- the end of a law's row -/
theorem walk_ofG {l : PySem.W.OpenLaw} {n k : Nat} {q : Program} {loose : List Str} {XP : (Str → Option Value) → Heap → Prop} {YP : World → Heap → Prop} {d : DefRec} {x : Str} {Fl : List D → List (List D) → R (D × List (List D))}
    (hn : l.most = some n) (hn2 : n ≤ sizeLine) (hdf : d.params.defaults = []) (hr : Room k callerA)
    (F : ∀ (w : World) (mg : Str → Option Value) (fa : Addr) (h : Heap), YP w h → h.Ns mainGlobals mg → mg d.name = some (.ref fa) →
      ∃ (K : PySem.W.Frag) (fd : FuncData), K.In h ∧ (∀ (s : Shared) (u : Value), BindsTo s fd ⟨[u], []⟩ [(x, u)]) ∧
        ∀ base : Heap, K.In base → base.Ns mainGlobals mg → base.NoDigits → FnG l.prog w K mg base k fa fd [x] (spD K Fl 1))
    (hrun : ∀ ns : List Int, ns.length ≤ n → ∃ g', Fl [.sc (ns.map D.int)] [] = .ok (.bl true, g')) :
    PySem.W.WalkO q loose XP YP l.row.toRowW d [] (fun f vs => PySem.call f vs) := by
  refine Att.attach_call hn hdf fun w s0 s1 mg mb fa o pm cd doc a vs ns G Y ho hd hcd hmg hobj hints hlen hg => ?_
  obtain ⟨K, fd, KX, hb, hF⟩ := F w mg fa _ Y G.T.g hmg
  obtain ⟨g', hrun⟩ := hrun ns hlen
  refine law_callG KX G.T.g G.T.b G.T.builtins G.T.nolimit G.T.nodigits hg hobj hints (Nat.le_trans hlen hn2) hr hF hb fun H hS => ?_
  refine ⟨⟨[], [], [], []⟩, [], [.sc (ns.map D.int)], .bl true, g', rfl, rfl, ⟨fun i d e => by simp at e, rfl, rfl, rfl, List.nodup_nil, List.nodup_nil, (fun a h => nomatch h), (fun a h => nomatch h), (fun a h => nomatch h), (fun a h => nomatch h), (fun a h => nomatch h), fun xs h => nomatch h⟩, ?_, rfl, hrun, fun A' v H' _ _ _ r => r⟩
  exact ⟨_, [], rfl, ⟨a, _, rfl, hS, intD_rds ns⟩, rfl⟩

/-! ### all defs -/
/-- a def of the text: its row's statement -/
def stName : Stmt → Str
  | .FunctionDef n _ _ _ _ _ _ _ _ _ => n
  | _ => ""
def dOf (st : Stmt) : He.DefD := ⟨(stName st, none), stName st, stName st, defArgs st, defBody st, defScope st, [], []⟩
def faOf (ds : List DefC) (free : List Str) (nums : List (Str × Int)) : List He.Fa := ds.map (fun d => He.Fa.glo d.name) ++ (free.map He.Fa.free ++ nums.map fun p => He.Fa.int p.1 p.2)
theorem says_all {fa : List He.Fa} {fn : List He.DefD} {K : PySem.W.Frag} (c : He.SaysD fa fn K) {f : He.Fa} (h : f ∈ fa) : f.ok K = true := by
  obtain ⟨i, hi⟩ := List.getElem?_of_mem h
  exact c.fact i hi
def ckAll (T : Tb) : Nat → List DefC → List Stmt → Bool
  | _, [], [] => true
  | j, d :: ds, st :: sts => decide (stName st = d.name) && (scopeB d.N d.ps (defScope st) && (ckB T j d.N (defScope st) d.body (defBody st) && ckAll T (j + 1) ds sts))
  | _, _, _ => false
theorem ckAll_at {T : Tb} : ∀ {j : Nat} {ds : List DefC} {sts : List Stmt}, ckAll T j ds sts = true → ∀ (i : Nat) d, ds[i]? = some d → ∃ st, sts[i]? = some st ∧ stName st = d.name ∧ scopeB d.N d.ps (defScope st) = true ∧ ckB T (j + i) d.N (defScope st) d.body (defBody st) = true
  | _, [], _, _, i, d, e => by simp at e
  | _, _ :: _, [], h, _, _, _ => nomatch h
  | j, d :: ds, st :: sts, h, i, d', e => by
    obtain ⟨h1, k⟩ := and1 h
    obtain ⟨h2, k⟩ := and1 k
    obtain ⟨h3, h4⟩ := and1 k
    cases i with
    | zero =>
      cases e
      exact ⟨st, rfl, of_decide_eq_true h1, h2, h3⟩
    | succ i =>
      obtain ⟨st', a, b, c, d2⟩ := ckAll_at h4 i d' e
      exact ⟨st', a, b, c, by rw [show j + (i + 1) = j + 1 + i by omega]; exact d2⟩
def tbOf (ds : List DefC) (free : List Str) (nums : List (Str × Int)) (binds : List (Nat × Nat × List Str × Option (List Nat))) : Tb := ⟨free, ds.map fun d => (d.name, d.ps), nums.map fun p => (p.1, D.int p.2), binds⟩
def cOf (nums : List (Str × Int)) : List D := nums.map fun p => D.int p.2
/-- how the calls bind, by the defs' heads -/
def BindsAll (ds : List DefC) (sts : List Stmt) (binds : List (Nat × Nat × List Str × Option (List Nat))) : Prop :=
  ∀ b ∈ binds, ∀ d st, ds[b.1]? = some d → sts[b.1]? = some st → ∀ (kV doc pm : Value) (an : Option Addr) (cdv ct : Value) (us ws zs : List Value), us.length = b.2.1 → ws.length = b.2.2.1.length → arrD b.2.2.2 (us ++ ws) = some zs →
    bindArgs (PySem.W.fnOf (stName st) (stName st) (defArgs st) (defBody st) (defScope st) .none kV doc pm an cdv ct) ⟨us, b.2.2.1.zip ws⟩ = pure (d.ps.zip zs)
theorem all_ok {P : Program} {w : World} {K : PySem.W.Frag} {h : Heap} {mg : Str → Option Value} {ds : List DefC} {sts : List Stmt} {free : List Str} {nums : List (Str × Int)} {binds : List (Nat × Nat × List Str × Option (List Nat))}
    (X : K.In h) (G : h.Ns mainGlobals mg) (c : He.SaysD (faOf ds free nums) (sts.map dOf) K) (ck : ckAll (tbOf ds free nums binds) 0 ds sts = true) (hb : BindsAll ds sts binds) :
    ∀ (j : Nat) d, ds[j]? = some d → ∃ fd, FunD K d.name d.name (defArgs (sts.getD j (.Pass ⟨0, 0, 0, 0⟩))) (defBody (sts.getD j (.Pass ⟨0, 0, 0, 0⟩))) (defScope (sts.getD j (.Pass ⟨0, 0, 0, 0⟩))) [] [] (He.fAd K (d.name, none)) fd ∧ mg d.name = some (.ref (He.fAd K (d.name, none))) ∧
      (∀ base : Heap, base.NoDigits → FnG P w K mg base (j + 1) (He.fAd K (d.name, none)) fd d.ps (spD K (Fn (cOf nums) ds (j + 1) j) d.ps.length)) ∧ ∀ n ks p, (j, n, ks, p) ∈ binds → BindOk fd d.ps n ks p := by
  intro j
  induction j using Nat.strongRecOn with
  | ind j ih =>
    intro d hd
    obtain ⟨st, hst, hn, hs, hbody⟩ := ckAll_at ck j d hd
    have hgd : sts.getD j (.Pass ⟨0, 0, 0, 0⟩) = st := by rw [List.getD_eq_getElem?_getD, hst]; rfl
    obtain ⟨fd, F⟩ := c.def_ j (d := dOf st) (by rw [List.getElem?_map, hst]; rfl)
    have F : FunD K (stName st) (stName st) (defArgs st) (defBody st) (defScope st) [] [] (He.fAd K (stName st, none)) fd := F
    rw [hn] at F
    have glo : ∀ (i : Nat) d, ds[i]? = some d → mg d.name = some (.ref (He.fAd K (d.name, none))) := fun i d hi =>
      He.glo_ok X G (says_all c (List.mem_append_left _ (List.mem_map.mpr ⟨d, List.mem_of_getElem? hi, rfl⟩)))
    refine ⟨fd, by rw [hgd]; exact F, glo j d hd, ?_, fun n ks p hm => ?_⟩
    · intro base dig
      rw [Fn_at hd]
      rw [Nat.zero_add] at hbody
      refine def_ok (T := tbOf ds free nums binds) F hs hbody dig (fun x hx => ?_) (fun i e hi hij => ?_) (fun i e hi => ?_)
      · exact He.free_ok X G (says_all c (List.mem_append_right _ (List.mem_append_left _ (List.mem_map.mpr ⟨x, hx, rfl⟩))))
      · have hi : (ds.map fun d => (d.name, d.ps))[i]? = some e := hi
        rw [List.getElem?_map] at hi
        cases hdi : ds[i]? with
        | none => rw [hdi] at hi; cases hi
        | some di =>
          rw [hdi] at hi
          cases hi
          obtain ⟨fdi, Fi, gi, fi, bi⟩ := ih i hij di hdi
          refine ⟨_, fdi, gi, Fi.kp, ?_, bi, fun ds' g r g' e => ?_⟩
          · show FnG P w K mg base j _ fdi di.ps (spD K (Fn (cOf nums) ds j i) di.ps.length)
            rw [Fn_lt hij]
            exact (fi base dig).mono hij
          · have e : Fn (cOf nums) ds j i ds' g = .ok (r, g') := e
            rw [Fn_lt hij, Fn_at hdi] at e
            exact exD_ret e
      · have hi : (nums.map fun p => (p.1, D.int p.2))[i]? = some e := hi
        rw [List.getElem?_map] at hi
        cases hdi : nums[i]? with
        | none => rw [hdi] at hi; cases hi
        | some p =>
          rw [hdi] at hi
          cases hi
          obtain ⟨t, ht⟩ := He.int_ok X G (says_all c (List.mem_append_right _ (List.mem_append_right _ (List.mem_map.mpr ⟨p, List.mem_of_getElem? hdi, rfl⟩))))
          refine ⟨?_, _, .int p.2, ht, ⟨t, rfl⟩, fun _ _ => rfl⟩
          show (nums.map fun p => D.int p.2)[i]? = _
          rw [List.getElem?_map, hdi]
          rfl
    · obtain ⟨oc, od, dV, kV, doc, pm, an, cdv, ct, osl, rfl, lk, hcd, hD, hK⟩ := F.ex
      rcases hD with ⟨_, rfl⟩ | ⟨e, _⟩
      · intro s us ws zs l1 l2 e
        have := hb _ hm d st hd hst kV doc pm an cdv ct us ws zs l1 l2 e
        rw [hn] at this
        exact .of_eq this
      · exact absurd rfl e
/-- the end's last step -/
theorem end_ok {P : Program} {w : World} {K : PySem.W.Frag} {h : Heap} {mg : Str → Option Value} {fa : Addr} {nums : List (Str × Int)} {ds : List DefC} {j : Nat} {d : DefC} {pa : Arguments} {bo : List Stmt} {sc : Scope} {x : Str}
    (A : ∃ fd, FunD K d.name d.name pa bo sc [] [] (He.fAd K (d.name, none)) fd ∧ mg d.name = some (.ref (He.fAd K (d.name, none))) ∧ (∀ base : Heap, base.NoDigits → FnG P w K mg base (j + 1) (He.fAd K (d.name, none)) fd d.ps (spD K (Fn (cOf nums) ds (j + 1) j) d.ps.length)) ∧ ∀ n ks p, (j, n, ks, p) ∈ ([] : List (Nat × Nat × List Str × Option (List Nat))) → True)
    (hps : d.ps = [x]) (B : ∀ f fd, FunD K d.name d.name pa bo sc [] [] f fd → ∀ (s : Shared) (u : Value), BindsTo s fd ⟨[u], []⟩ [(x, u)]) (X : K.In h) (hmg : mg d.name = some (.ref fa)) :
    ∃ (fd : FuncData), K.In h ∧ (∀ (s : Shared) (u : Value), BindsTo s fd ⟨[u], []⟩ [(x, u)]) ∧ ∀ base : Heap, K.In base → base.Ns mainGlobals mg → base.NoDigits → FnG P w K mg base (j + 1) fa fd [x] (spD K (Fn (cOf nums) ds (j + 1) j) 1) := by
  obtain ⟨fd, F, g, G, _⟩ := A
  rw [hmg] at g
  cases g
  rw [hps] at G
  exact ⟨fd, X, B _ _ F, fun base _ _ dig => G base dig⟩
end Fz

/-! Q18: reasoning about the evaluator. -/
namespace Fz
open PySem
section
variable {P : Pg} {w : Wd}
theorem bd_congr {α β : Type} {x x' : R α} {f : α → R β} (h : x = x') : x.bd f = x'.bd f := by rw [h]
@[simp] theorem bd_ite {α β : Type} {c : Prop} [Decidable c] (a b : R α) (f : α → R β) : (if c then a else b).bd f = if c then a.bd f else b.bd f := by split <;> rfl
@[simp] theorem evE_v {i : Nat} : evE P (.v i) w = (match w.σ[i]? with
    | some (some d) => .ok (d, w)
    | _ => .err) := .trans rfl rfl
@[simp] theorem evE_k {d : D} : evE P (.k d) w = .ok (d, w) := .trans rfl rfl
@[simp] theorem evE_gl {i : Nat} : evE P (.gl i) w = (R.of P.C[i]?).bd fun d => .ok (d, w) := .trans rfl rfl
@[simp] theorem evE_op {o : Op} {md : Nat} {a b : E} : evE P (.op o md a b) w = (evE P a w).bd fun x => (evE P b x.2).bd fun y => opF o md x.1 y.1 y.2 := .trans rfl rfl
@[simp] theorem evE_neg {a : E} : evE P (.neg a) w = (evE P a w).bd fun x => match x.1 with
    | .int i => .ok (.int (-i), x.2)
    | _ => .err := .trans rfl rfl
@[simp] theorem evE_no {a : E} : evE P (.no a) w = (evE P a w).bd fun x => (R.of (x.2.tru x.1)).bd fun b => .ok (.bl (!b), x.2) := .trans rfl rfl
@[simp] theorem evE_an {a b : E} : evE P (.an a b) w = (evE P a w).bd fun x => (R.of (x.2.tru x.1)).bd fun c => if c then evE P b x.2 else .ok x := .trans rfl rfl
@[simp] theorem evE_or {a b : E} : evE P (.or a b) w = (evE P a w).bd fun x => (R.of (x.2.tru x.1)).bd fun c => if c then .ok x else evE P b x.2 := .trans rfl rfl
@[simp] theorem evE_cm {c : Cm} {a b : E} : evE P (.cm c a b) w = (evE P a w).bd fun x => (evE P b x.2).bd fun y => (R.of (cmF c x.1 y.1 y.2)).bd fun r => .ok (.bl r, y.2) := .trans rfl rfl
@[simp] theorem evE_ch {c c2 : Cm} {a b d : E} : evE P (.ch a c b c2 d) w = (evE P a w).bd fun x => (evE P b x.2).bd fun y => (R.of (cmF c x.1 y.1 y.2)).bd fun r => if r then
      (evE P d y.2).bd fun z => (R.of (cmF c2 y.1 z.1 z.2)).bd fun q => .ok (.bl q, z.2) else .ok (.bl false, y.2) := .trans rfl rfl
@[simp] theorem evE_ite {c a b : E} : evE P (.ite c a b) w = (evE P c w).bd fun x => (R.of (x.2.tru x.1)).bd fun r => if r then evE P a x.2 else evE P b x.2 := .trans rfl rfl
@[simp] theorem evE_tup {es : Es} : evE P (.tup es) w = (evEs P es w).bd fun x => newT x.1 x.2 := .trans rfl rfl
@[simp] theorem evE_lst {md : Nat} {es : Es} : evE P (.lst md es) w = (evEs P es w).bd fun x => newL md x.1 x.2 := .trans rfl rfl
@[simp] theorem evE_ix {a i : E} : evE P (.ix a i) w = (evE P a w).bd fun x => (evE P i x.2).bd fun y => match y.1 with
    | .int k => (R.of (y.2.seq x.1)).bd fun xs => (R.of ((ixI xs.length k).bind fun j => xs[j]?)).bd fun d => .ok (d, y.2)
    | .str k => (R.of (dicL x.1 k)).bd fun d => .ok (d, y.2)
    | _ => .err := .trans rfl rfl
@[simp] theorem evE_lrg {tp : Bool} {md : Nat} {es : Es} : evE P (.lrg tp md es) w = (evEs P es w).bd fun x => (R.of (rngF x.1)).bd fun xs => if tp then newT xs x.2 else newL md xs x.2 := .trans rfl rfl
@[simp] theorem evE_dis {ks : List Str} {es : Es} : evE P (.dis ks es) w = (evEs P es w).bd fun x => if ks.Nodup ∧ ks ≠ [] ∧ ks.length ≤ 15 ∧ ks.length = x.1.length then .ok (.dic ks x.1, x.2) else .err := .trans rfl rfl
@[simp] theorem dicL_dic {ks : List Str} {ds : List D} {k : Str} : dicL (.dic ks ds) k = lkp ks ds k := .trans rfl rfl
@[simp] theorem lkp_cons {k x : Str} {ks : List Str} {d : D} {ds : List D} : lkp (k :: ks) (d :: ds) x = if k = x then some d else lkp ks ds x := .trans rfl rfl
@[simp] theorem evE_sl {md : Nat} {a : E} {lo hi : Oe} : evE P (.sl md a lo hi) w = (evE P a w).bd fun x => (evO P lo x.2).bd fun l => (evO P hi l.2).bd fun h => (R.of (h.2.seq x.1)).bd fun xs =>
      if isT x.1 then newT (cut xs l.1 h.1) h.2 else newL md (cut xs l.1 h.1) h.2 := .trans rfl rfl
@[simp] theorem evE_rev {md : Nat} {a : E} : evE P (.rev md a) w = (evE P a w).bd fun x => (R.of (x.2.seq x.1)).bd fun xs => if isT x.1 then .err else newL md xs.reverse x.2 := .trans rfl rfl
@[simp] theorem evE_call {f : Nat} {perm : Option (List Nat)} {es ks : Es} : evE P (.call f perm es ks) w = (evEs P es w).bd fun x => (evEs P ks x.2).bd fun y => (R.of (lendL y.2 (x.1 ++ y.1))).bd fun ds => (R.of (arrD perm ds)).bd fun ds =>
      (P.F f ds y.2.g).bd fun r => .ok (r.1, { y.2 with g := r.2 }) := .trans rfl rfl
@[simp] theorem evE_bi {b : Bi} {md : Nat} {es : Es} : evE P (.bi b md es) w = (evEs P es w).bd fun x => biF b md x.1 x.2 := .trans rfl rfl
@[simp] theorem evE_me {m : Me} {o : E} {es : Es} : evE P (.me m o es) w = (evE P o w).bd fun x => (evEs P es x.2).bd fun y => meF m x.1 y.1 y.2 := .trans rfl rfl
@[simp] theorem evE_co {md : Nat} {t : Tg} {it : It} {c : Oe} {e : E} {own : List Nat} : evE P (.co md t it c e own) w = (evI P it w).bd fun x => (coL (asg t) (evC P c) (evE P e) x.1.ok own x.2.σ x.1.xs x.2 []).bd fun r => newL md r.1 r.2 := .trans rfl rfl
@[simp] theorem evEs_nil : evEs P .nil w = .ok ([], w) := .trans rfl rfl
@[simp] theorem evEs_cons {e : E} {r : Es} : evEs P (.cons e r) w = (evE P e w).bd fun x => (evEs P r x.2).bd fun y => .ok (x.1 :: y.1, y.2) := .trans rfl rfl
@[simp] theorem evO_no : evO P .no w = .ok (none, w) := .trans rfl rfl
@[simp] theorem evO_so {e : E} : evO P (.so e) w = (evE P e w).bd fun x => match x.1 with
    | .int i => .ok (some i, x.2)
    | _ => .err := .trans rfl rfl
@[simp] theorem evC_no : evC P .no w = .ok (true, w) := .trans rfl rfl
@[simp] theorem evC_so {e : E} : evC P (.so e) w = (evE P e w).bd fun x => (R.of (x.2.tru x.1)).bd fun b => .ok (b, x.2) := .trans rfl rfl
@[simp] theorem evI_seq {e : E} : evI P (.seq e) w = (evE P e w).bd fun x => (R.of (x.2.seq x.1)).bd fun xs => .ok (⟨xs, (srcOf x.1).ok xs⟩, x.2) := .trans rfl rfl
@[simp] theorem evI_rng {es : Es} : evI P (.rng es) w = (evEs P es w).bd fun x => (R.of (rngF x.1)).bd fun xs => .ok (⟨xs, fun _ => true⟩, x.2) := .trans rfl rfl
@[simp] theorem evI_enu {e : E} : evI P (.enu e) w = (evE P e w).bd fun x => (R.of (x.2.seq x.1)).bd fun xs => .ok (⟨enuL 0 xs, (srcOf x.1).ok xs⟩, x.2) := .trans rfl rfl
@[simp] theorem evI_zip {a b : E} : evI P (.zip a b) w = (evE P a w).bd fun x => (evE P b x.2).bd fun y => (R.of (y.2.seq x.1)).bd fun xs => (R.of (y.2.seq y.1)).bd fun ys =>
      if isT x.1 == isT y.1 then .ok (⟨zipD xs ys, fun w => (srcOf x.1).ok xs w && (srcOf y.1).ok ys w⟩, y.2) else .err := .trans rfl rfl
@[simp] theorem exS_set {t : Tg} {e : E} : exS P (.set t e) w = (evE P e w).bd fun x => (R.of (asg t x.1 x.2)).bd fun w' => .ok (.nx, w') := .trans rfl rfl
@[simp] theorem exS_put {o i e : E} : exS P (.put o i e) w = (evE P e w).bd fun z => (evE P o z.2).bd fun x => (evE P i x.2).bd fun y => match y.1 with
    | .int k => (R.of (y.2.seq x.1)).bd fun xs => (R.of (ixI xs.length k)).bd fun j => (R.of (y.2.put x.1 (xs.set j z.1))).bd fun w' => .ok (.nx, w')
    | _ => .err := .trans rfl rfl
@[simp] theorem exS_ex {e : E} : exS P (.ex e) w = (evE P e w).bd fun x => .ok (.nx, x.2) := .trans rfl rfl
@[simp] theorem exS_ret {e : E} : exS P (.ret e) w = (evE P e w).bd fun x => .ok (.rt x.1, x.2) := .trans rfl rfl
@[simp] theorem exS_retn : exS P .retn w = .ok (.rt .non, w) := .trans rfl rfl
@[simp] theorem exS_brk : exS P .brk w = .ok (.bk, w) := .trans rfl rfl
@[simp] theorem exS_cnt : exS P .cnt w = .ok (.ct, w) := .trans rfl rfl
@[simp] theorem exS_pas : exS P .pas w = .ok (.nx, w) := .trans rfl rfl
@[simp] theorem exS_dead : exS P .dead w = .err := .trans rfl rfl
@[simp] theorem exS_ite {c : E} {a b : List S} : exS P (.ite c a b) w = (evT P c w).bd fun x => if x.1 then exB P a x.2 else exB P b x.2 := .trans rfl rfl
@[simp] theorem exS_for {t : Tg} {it : It} {body : List S} {kill : List Nat} {gc : Bool} : exS P (.for t it body kill gc) w = (evI P it w).bd fun x => forL (asg t) (exB P body) (postF kill gc x.2.m.length) x.1.ok x.1.xs x.2 := .trans rfl rfl
@[simp] theorem exS_whl {c : E} {body : List S} {kill : List Nat} {gc : Bool} : exS P (.whl c body kill gc) w = whlL (evT P c) (exB P body) (postF kill gc w.m.length) fuel w := .trans rfl rfl
@[simp] theorem evT_eq {e : E} : evT P e w = (evE P e w).bd fun x => (R.of (x.2.tru x.1)).bd fun b => .ok (b, x.2) := .trans rfl rfl
@[simp] theorem exB_nil : exB P [] w = .ok (.nx, w) := .trans rfl rfl
@[simp] theorem exB_cons {s : S} {r : List S} : exB P (s :: r) w = (exS P s w).bd fun x => match x.1 with
    | .nx => exB P r x.2
    | f => .ok (f, x.2) := .trans rfl rfl
@[simp] theorem asg_nm {i : Nat} {d : D} : asg (.nm i) d w = some { w with σ := w.σ.set i (some d) } := .trans rfl rfl
@[simp] theorem asg_tu {ts : List Tg} {ds : List D} : asg (.tu ts) (.tup ds) w = asgL ts ds w := .trans rfl rfl
@[simp] theorem asgL_nil : asgL [] [] w = some w := .trans rfl rfl
@[simp] theorem asgL_cons {t : Tg} {ts : List Tg} {d : D} {ds : List D} : asgL (t :: ts) (d :: ds) w = (asg t d w).bind fun w' => asgL ts ds w' := .trans rfl rfl
@[simp] theorem wipeD_nil {σ : List (Option D)} : wipeD σ [] = σ := .trans rfl rfl
@[simp] theorem wipeD_cons {σ : List (Option D)} {v : Nat} {vs : List Nat} : wipeD σ (v :: vs) = (wipeD σ vs).set v none := .trans rfl rfl
@[simp] theorem tru_bl {b : Bool} : w.tru (.bl b) = some b := .trans rfl rfl
@[simp] theorem tru_int {i : Int} : w.tru (.int i) = some (i != 0) := .trans rfl rfl
@[simp] theorem tru_non : w.tru .non = some false := .trans rfl rfl
@[simp] theorem seq_tup {ds : List D} : w.seq (.tup ds) = some ds := .trans rfl rfl
@[simp] theorem seq_lst {ds : List D} : w.seq (.lst ds) = some ds := .trans rfl rfl
@[simp] theorem seq_fl {ds : List D} : w.seq (.fl ds) = some ds := .trans rfl rfl
@[simp] theorem seq_sc {ds : List D} : w.seq (.sc ds) = some ds := .trans rfl rfl
@[simp] theorem seq_ref {k : Nat} : w.seq (.ref k) = w.m[k]? := .trans rfl rfl
@[simp] theorem seq_g {k : Nat} : w.seq (.g k) = w.g[k]? := .trans rfl rfl
@[simp] theorem op_add {md : Nat} {i j : Int} : opF .add md (.int i) (.int j) w = .ok (.int (i + j), w) := .trans rfl rfl
@[simp] theorem op_sub {md : Nat} {i j : Int} : opF .sub md (.int i) (.int j) w = .ok (.int (i - j), w) := .trans rfl rfl
@[simp] theorem op_mul {md : Nat} {i j : Int} : opF .mul md (.int i) (.int j) w = if mulOk i j then .ok (.int (i * j), w) else .err := .trans rfl rfl
@[simp] theorem op_fdiv {md : Nat} {i j : Int} : opF .fdiv md (.int i) (.int j) w = if divOk i j then .ok (.int (i.fdiv j), w) else .err := .trans rfl rfl
@[simp] theorem op_mod {md : Nat} {i j : Int} : opF .mod md (.int i) (.int j) w = if j = 0 then .err else .ok (.int (i.fmod j), w) := .trans rfl rfl
@[simp] theorem op_pow {md : Nat} {i j : Int} : opF .pow md (.int i) (.int j) w = if powOk i j then .ok (.int (i ^ j.toNat), w) else .err := .trans rfl rfl
@[simp] theorem op_band {md : Nat} {i j : Int} : opF .band md (.int i) (.int j) w = .ok (.int (Builtin.bitAnd i j), w) := .trans rfl rfl
@[simp] theorem op_bxor {md : Nat} {i j : Int} : opF .bxor md (.int i) (.int j) w = .ok (.int (Builtin.bitXor i j), w) := .trans rfl rfl
@[simp] theorem op_shl {md : Nat} {i j : Int} : opF .shl md (.int i) (.int j) w = if powOk i j then .ok (.int (i * 2 ^ j.toNat), w) else .err := .trans rfl rfl
@[simp] theorem op_addS {md : Nat} {a b : Str} : opF .add md (.str a) (.str b) w = if a.length + b.length ≤ mxLen then .ok (.str (a ++ b), w) else .err := .trans rfl rfl
@[simp] theorem op_addT {md : Nat} {a b : List D} : opF .add md (.tup a) (.tup b) w = newT (a ++ b) w := .trans rfl rfl
@[simp] theorem cm_eqI {i j : Int} : cmF .eq (.int i) (.int j) w = some (decide (i = j)) := .trans rfl rfl
@[simp] theorem cm_neI {i j : Int} : cmF .ne (.int i) (.int j) w = some (!decide (i = j)) := .trans rfl rfl
@[simp] theorem cm_eqS {i j : Str} : cmF .eq (.str i) (.str j) w = some (decide (i = j)) := .trans rfl rfl
@[simp] theorem cm_neS {i j : Str} : cmF .ne (.str i) (.str j) w = some (!decide (i = j)) := .trans rfl rfl
@[simp] theorem cm_lt {i j : Int} : cmF .lt (.int i) (.int j) w = some (decide (i < j)) := .trans rfl rfl
@[simp] theorem cm_le {i j : Int} : cmF .le (.int i) (.int j) w = some (decide (i ≤ j)) := .trans rfl rfl
@[simp] theorem cm_gt {i j : Int} : cmF .gt (.int i) (.int j) w = some (decide (j < i)) := .trans rfl rfl
@[simp] theorem cm_ge {i j : Int} : cmF .ge (.int i) (.int j) w = some (decide (j ≤ i)) := .trans rfl rfl
theorem newL_0 {xs : List D} (h : xs.length ≤ mxLen) : newL 0 xs w = .ok (.lst xs, w) := by
  unfold newL; rw [if_pos h]; rfl
theorem newL_1 {xs : List D} (h : xs.length ≤ mxLen) : newL 1 xs w = .ok (.ref w.m.length, { w with m := w.m ++ [xs] }) := by
  unfold newL; rw [if_pos h]; rfl
theorem newL_2 {xs : List D} (h : xs.length ≤ mxLen) (h2 : xs.all gOk = true) : newL 2 xs w = .ok (.g w.g.length, { w with g := w.g ++ [xs] }) := by
  unfold newL; rw [if_pos h]; simp [h2]
theorem newT_ok' {xs : List D} (h : xs.length ≤ mxLen) : newT xs w = .ok (.tup xs, w) := by
  unfold newT; rw [if_pos h]
theorem le_mx {n : Nat} (h : n ≤ 100000) : n ≤ mxLen := Nat.le_trans h (by decide)

/-! ### loops -/
section
variable {bind : D → Wd → Option Wd} {body : Wd → R (Fl × Wd)} {post : Wd → Option Wd} {ok : Wd → Bool} {test : Wd → R (Bool × Wd)}
@[simp] theorem forL_nil : forL bind body post ok [] w = .ok (.nx, w) := .trans rfl rfl
theorem forL_cons {x : D} {xs : List D} : forL bind body post ok (x :: xs) w = (R.of (bind x w)).bd fun w1 => (body w1).bd fun r => match r.1 with
    | .bk => .ok (.nx, r.2)
    | .rt d => .ok (.rt d, r.2)
    | _ => (R.of (post r.2)).bd fun w3 => if ok w3 then forL bind body post ok xs w3 else .err := rfl
/-- a loop whose turns are known -/
theorem forL_run {f : Nat → D} (st : Nat → Wd) : ∀ (xs : List D) (k : Nat), (∀ i (h : i < xs.length), xs[i] = f (k + i)) → (∀ i r, i < k + xs.length → k ≤ i → forL bind body post ok (f i :: r) (st i) = forL bind body post ok r (st (i + 1))) → forL bind body post ok xs (st k) = .ok (.nx, st (k + xs.length))
  | [], k, _, _ => rfl
  | x :: xs, k, hf, h => by
    have e : x = f k := hf 0 (Nat.zero_lt_succ _)
    rw [e, h k xs (by simp) (Nat.le_refl _), forL_run st xs (k + 1) (fun i hi => by have := hf (i + 1) (Nat.succ_lt_succ hi); rw [show k + (i + 1) = k + 1 + i by omega] at this; exact this) (fun i r h1 h2 => h i r (by rw [List.length_cons]; omega) (by omega))]
    rw [List.length_cons, show k + 1 + xs.length = k + (xs.length + 1) by omega]
/-- a loop with an invariant -/
theorem forL_inv (I : Nat → Wd → Prop) {f : Nat → D} : ∀ (xs : List D) (k : Nat) (w : Wd), (∀ i (h : i < xs.length), xs[i] = f (k + i)) → (∀ i w r, i < k + xs.length → k ≤ i → I i w → ∃ w', I (i + 1) w' ∧ forL bind body post ok (f i :: r) w = forL bind body post ok r w') → I k w → ∃ w', I (k + xs.length) w' ∧ forL bind body post ok xs w = .ok (.nx, w')
  | [], k, w, _, _, hI => ⟨w, hI, rfl⟩
  | x :: xs, k, w, hf, h, hI => by
    have e : x = f k := hf 0 (Nat.zero_lt_succ _)
    obtain ⟨w', h1, h2⟩ := h k w xs (by simp) (Nat.le_refl _) hI
    obtain ⟨w2, h3, h4⟩ := forL_inv I xs (k + 1) w' (fun i hi => by have := hf (i + 1) (Nat.succ_lt_succ hi); rw [show k + (i + 1) = k + 1 + i by omega] at this; exact this) (fun i w r h1 h2 => h i w r (by rw [List.length_cons]; omega) (by omega)) h1
    exact ⟨w2, by rw [List.length_cons, show k + (xs.length + 1) = k + 1 + xs.length by omega]; exact h3, by rw [e, h2, h4]⟩
theorem rngL_ln : ∀ (n : Nat) (lo : Int), (rngL lo n).length = n
  | 0, _ => rfl
  | n + 1, lo => by show (rngL (lo + 1) n).length + 1 = n + 1; rw [rngL_ln n]
theorem rngL_at : ∀ (n : Nat) (lo : Int) (i : Nat) (h : i < (rngL lo n).length), (rngL lo n)[i] = .int (lo + i)
  | 0, _, i, h => absurd h (Nat.not_lt_zero _)
  | n + 1, lo, 0, h => by simp [rngL]
  | n + 1, lo, i + 1, h => by
    have h' : i < (rngL (lo + 1) n).length := by simp [rngL] at h; exact h
    show (rngL (lo + 1) n)[i] = _
    rw [rngL_at n (lo + 1) i h']
    congr 1
    push_cast
    omega
/-- over a range -/
theorem forL_rng (st : Nat → Wd) (lo : Int) (n : Nat) (h : ∀ i r, i < n → forL bind body post ok (.int (lo + i) :: r) (st i) = forL bind body post ok r (st (i + 1))) : forL bind body post ok (rngL lo n) (st 0) = .ok (.nx, st n) := by
  have := forL_run (bind := bind) (body := body) (post := post) (ok := ok) (f := fun i => .int (lo + (i : Int))) st (rngL lo n) 0 (fun i hi => by rw [rngL_at, Nat.zero_add]) (fun i r h1 _ => h i r (by rw [rngL_ln] at h1; omega))
  rw [rngL_ln, Nat.zero_add] at this
  exact this
theorem forL_rngI (I : Nat → Wd → Prop) (lo : Int) (n : Nat) (w : Wd) (h : ∀ i w r, i < n → I i w → ∃ w', I (i + 1) w' ∧ forL bind body post ok (.int (lo + i) :: r) w = forL bind body post ok r w') (h0 : I 0 w) : ∃ w', I n w' ∧ forL bind body post ok (rngL lo n) w = .ok (.nx, w') := by
  have := forL_inv (bind := bind) (body := body) (post := post) (ok := ok) (f := fun i => .int (lo + (i : Int))) I (rngL lo n) 0 w (fun i hi => by rw [rngL_at, Nat.zero_add]) (fun i w r h1 _ h2 => h i w r (by rw [rngL_ln] at h1; omega) h2) h0
  rw [rngL_ln, Nat.zero_add] at this
  exact this
end
/-! ### comprehensions -/
section
variable {bind : D → Wd → Option Wd} {elt : Wd → R (D × Wd)} {ok : Wd → Bool} {own : List Nat} {σ : List (Option D)} {test : Wd → R (Bool × Wd)}
@[simp] theorem coL_nil {acc : List D} : coL bind test elt ok own σ [] w acc = .ok (acc, w) := .trans rfl rfl
theorem coL_cons {x : D} {xs acc : List D} : coL bind test elt ok own σ (x :: xs) w acc = (R.of (bind x { w with σ := wipeD σ own })).bd fun w1 => (test w1).bd fun r => if r.1 then
      (elt r.2).bd fun q => if ok { q.2 with σ := σ } && decide (acc.length < mxLen) then coL bind test elt ok own σ xs { q.2 with σ := σ } (acc ++ [q.1]) else .err
    else if ok { r.2 with σ := σ } then coL bind test elt ok own σ xs { r.2 with σ := σ } acc else .err := rfl
/-- items worked out one by one, the world as it was -/
theorem coL_map {m g : List (List D)} (f : D → D) : ∀ (xs acc : List D), acc.length + xs.length ≤ mxLen → (∀ x ∈ xs, ∀ r acc, acc.length < mxLen → coL bind test elt ok own σ (x :: r) ⟨σ, m, g⟩ acc = coL bind test elt ok own σ r ⟨σ, m, g⟩ (acc ++ [f x])) →
    coL bind test elt ok own σ xs ⟨σ, m, g⟩ acc = .ok (acc ++ xs.map f, ⟨σ, m, g⟩)
  | [], acc, _, _ => by simp
  | x :: xs, acc, h, hx => by
    rw [List.length_cons] at h
    rw [hx x List.mem_cons_self xs acc (by omega), coL_map f xs (acc ++ [f x]) (by simp; omega) fun y hy => hx y (List.mem_cons_of_mem _ hy)]
    simp
theorem coL_filter {m g : List (List D)} (p : D → Bool) (f : D → D) : ∀ (xs acc : List D), acc.length + xs.length ≤ mxLen → (∀ x ∈ xs, ∀ r acc, acc.length < mxLen → coL bind test elt ok own σ (x :: r) ⟨σ, m, g⟩ acc = coL bind test elt ok own σ r ⟨σ, m, g⟩ (if p x then acc ++ [f x] else acc)) →
    coL bind test elt ok own σ xs ⟨σ, m, g⟩ acc = .ok (acc ++ (xs.filter p).map f, ⟨σ, m, g⟩)
  | [], acc, _, _ => by simp
  | x :: xs, acc, h, hx => by
    rw [List.length_cons] at h
    rw [hx x List.mem_cons_self xs acc (by omega), coL_filter p f xs (if p x then acc ++ [f x] else acc) (by split <;> (try rw [List.length_append]) <;> (try rw [List.length_singleton]) <;> omega) fun y hy => hx y (List.mem_cons_of_mem _ hy)]
    cases q : p x <;> simp [List.filter_cons, q]
end
/-! ### sums of size -/
theorem mulOk_l {i j : Int} (h : -(2 ^ 64) < i ∧ i < 2 ^ 64) : mulOk i j = true := decide_eq_true (.inl h)
theorem mulOk_r {i j : Int} (h : -(2 ^ 64) < j ∧ j < 2 ^ 64) : mulOk i j = true := decide_eq_true (.inr (.inl h))
theorem mulOk_b {i j : Int} {a b : Nat} (hi : i.natAbs < 2 ^ a) (hj : j.natAbs < 2 ^ b) (ha : a ≤ 400000) (hb : b ≤ 400000) : mulOk i j = true :=
  decide_eq_true (.inr (.inr ⟨Nat.lt_of_lt_of_le hi (Nat.pow_le_pow_right (by decide) ha), Nat.lt_of_lt_of_le hj (Nat.pow_le_pow_right (by decide) hb)⟩))
end
end Fz
namespace Fz
theorem rngOk_of {j : Int} (h : -4611686018427387904 ≤ j ∧ j < 4611686018427387904) : rngOk j = true := decide_eq_true (p := -(2 ^ 62) ≤ j ∧ j < 2 ^ 62) (by omega)
theorem rng_1 {j : Int} {n : Nat} (h : j.toNat = n) (h2 : -4611686018427387904 ≤ j ∧ j < 4611686018427387904) : rngF [.int j] = some (rngL 0 n) := by
  show (if rngOk j = true then _ else _) = _
  rw [if_pos (rngOk_of h2), h]
theorem rng_2 {i j : Int} {n : Nat} (h : (j - i).toNat = n) (h1 : -4611686018427387904 ≤ i ∧ i < 4611686018427387904) (h2 : -4611686018427387904 ≤ j ∧ j < 4611686018427387904) : rngF [.int i, .int j] = some (rngL i n) := by
  show (if (rngOk i && rngOk j) = true then _ else _) = _
  rw [rngOk_of h1, rngOk_of h2, h]
  rfl
end Fz

/-! Q19: more simp rules; the pot. -/
namespace Fz
open PySem
/-! ### data without own lists -/
mutual
theorem rs_ok {ρ : Nat → Option D} {φ : Bool} : ∀ d : D, okRet d = true → rs ρ φ d = some d
  | .non, _ => rfl
  | .bl _, _ => rfl
  | .int _, _ => rfl
  | .str _, _ => rfl
  | .tup ds, h => by show (rsL ρ φ ds).map D.tup = _; rw [rsL_ok ds h]; rfl
  | .lst ds, h => by show (rsL ρ φ ds).map D.lst = _; rw [rsL_ok ds h]; rfl
  | .fl _, h => nomatch h
  | .sc _, h => nomatch h
  | .ref _, h => nomatch h
  | .g _, _ => rfl
  | .dic ks ds, h => by show (rsL ρ φ ds).map (D.dic ks) = _; rw [rsL_ok ds h]; rfl
theorem rsL_ok {ρ : Nat → Option D} {φ : Bool} : ∀ ds : List D, okRets ds = true → rsL ρ φ ds = some ds
  | [], _ => rfl
  | d :: ds, h => by
    obtain ⟨h1, h2⟩ := and1 (show (okRet d && okRets ds) = true from h)
    show (rs ρ φ d).bind (fun y => (rsL ρ φ ds).map fun ys => y :: ys) = _
    rw [rs_ok d h1, rsL_ok ds h2]
    rfl
end
theorem okRets_all {ds : List D} (h : ∀ d ∈ ds, okRet d = true) : okRets ds = true := by
  induction ds with
  | nil => rfl
  | cons d ds ih =>
    show (okRet d && okRets ds) = true
    rw [h d List.mem_cons_self, ih fun e he => h e (List.mem_cons_of_mem _ he)]
    rfl
theorem okRets_mem {ds : List D} (h : okRets ds = true) : ∀ d ∈ ds, okRet d = true := by
  induction ds with
  | nil => exact fun d hd => nomatch hd
  | cons e ds ih =>
    obtain ⟨h1, h2⟩ := and1 (show (okRet e && okRets ds) = true from h)
    intro d hd
    rcases List.mem_cons.mp hd with rfl | hd
    · exact h1
    · exact ih h2 d hd
@[simp] theorem okRets_int (ns : List Int) : okRets (ns.map D.int) = true := okRets_all fun d hd => by
  obtain ⟨n, _, rfl⟩ := List.mem_map.mp hd
  rfl
@[simp] theorem okRets_nil : okRets [] = true := rfl
@[simp] theorem okRets_cons {d : D} {ds : List D} : okRets (d :: ds) = (okRet d && okRets ds) := .trans rfl rfl
@[simp] theorem okRet_int {i : Int} : okRet (.int i) = true := rfl
@[simp] theorem okRet_bl {i : Bool} : okRet (.bl i) = true := rfl
@[simp] theorem okRet_str {i : Str} : okRet (.str i) = true := rfl
@[simp] theorem okRet_non : okRet .non = true := rfl
@[simp] theorem okRet_g {k : Nat} : okRet (.g k) = true := rfl
@[simp] theorem okRet_lst {ds : List D} : okRet (.lst ds) = okRets ds := .trans rfl rfl
@[simp] theorem okRet_tup {ds : List D} : okRet (.tup ds) = okRets ds := .trans rfl rfl
section
variable {ρ : Nat → Option D} {φ : Bool} {w : Wd}
@[simp] theorem rsL_nil : rsL ρ φ [] = some [] := .trans rfl rfl
@[simp] theorem rsL_cons {x : D} {xs : List D} : rsL ρ φ (x :: xs) = (rs ρ φ x).bind fun y => (rsL ρ φ xs).map fun ys => y :: ys := .trans rfl rfl
@[simp] theorem rs_non : rs ρ φ .non = some .non := .trans rfl rfl
@[simp] theorem rs_bl {b : Bool} : rs ρ φ (.bl b) = some (.bl b) := .trans rfl rfl
@[simp] theorem rs_int {b : Int} : rs ρ φ (.int b) = some (.int b) := .trans rfl rfl
@[simp] theorem rs_str {b : Str} : rs ρ φ (.str b) = some (.str b) := .trans rfl rfl
@[simp] theorem rs_g {k : Nat} : rs ρ φ (.g k) = some (.g k) := .trans rfl rfl
@[simp] theorem rs_ref {k : Nat} : rs ρ φ (.ref k) = ρ k := .trans rfl rfl
@[simp] theorem rs_tup {ds : List D} : rs ρ φ (.tup ds) = (rsL ρ φ ds).map D.tup := .trans rfl rfl
@[simp] theorem rs_lst {ds : List D} : rs ρ φ (.lst ds) = (rsL ρ φ ds).map D.lst := .trans rfl rfl
@[simp] theorem rs_fl {ds : List D} : rs ρ φ (.fl ds) = if φ then (rsL ρ φ ds).map D.fl else none := .trans rfl rfl
@[simp] theorem rs_dic {ks : List Str} {ds : List D} : rs ρ φ (.dic ks ds) = (rsL ρ φ ds).map (D.dic ks) := .trans rfl rfl
@[simp] theorem rs_sc {ds : List D} : rs ρ φ (.sc ds) = if φ then (rsL ρ φ ds).map D.sc else none := .trans rfl rfl
@[simp] theorem rsL_int {ns : List Int} : rsL ρ φ (ns.map D.int) = some (ns.map D.int) := rsL_ok _ (okRets_int ns)
@[simp] theorem give_eq {d : D} : give w d = rs (up D.lst 0 w.m false 4) false d := .trans rfl rfl
@[simp] theorem lendL_eq {ds : List D} : lendL w ds = rsL (up D.fl 0 w.m true 4) true ds := .trans rfl rfl
@[simp] theorem up_0 {mk : List D → D} {m : List (List D)} {n k : Nat} : up mk 0 m φ (n + 1) k = (m[k]?).bind fun ds => (rsL (up mk 0 m φ n) φ ds).map mk := .trans rfl rfl
theorem up_S {mk : List D → D} {L : Nat} {m : List (List D)} {n k : Nat} : up mk L m φ (n + 1) k = if k < L then some (.ref k) else (m[k]?).bind fun ds => (rsL (up mk L m φ n) φ ds).map mk := .trans rfl rfl
@[simp] theorem keepO_nil {L : Nat} {m : List (List D)} : keepO L m [] = some [] := .trans rfl rfl
@[simp] theorem keepO_none {L : Nat} {m : List (List D)} {r : List (Option D)} : keepO L m (none :: r) = (keepO L m r).map fun xs => none :: xs := .trans rfl rfl
@[simp] theorem keepO_some {L : Nat} {m : List (List D)} {d : D} {r : List (Option D)} : keepO L m (some d :: r) = (rs (keep L m) true d).bind fun y => (keepO L m r).map fun xs => some y :: xs := .trans rfl rfl
@[simp] theorem keepM_nil {L : Nat} {m : List (List D)} : keepM L m [] = some [] := .trans rfl rfl
@[simp] theorem keepM_cons {L : Nat} {m : List (List D)} {x : List D} {r : List (List D)} : keepM L m (x :: r) = (rsL (keep L m) true x).bind fun y => (keepM L m r).map fun xs => y :: xs := .trans rfl rfl
theorem keep_lt {L : Nat} {m : List (List D)} {k : Nat} (h : k < L) : keep L m k = some (.ref k) := by
  unfold keep
  rw [up_S, if_pos h]
theorem keep_ge {L : Nat} {m : List (List D)} {k : Nat} (h : ¬ k < L) : keep L m k = (m[k]?).bind fun ds => (rsL (up D.lst L m true 3) true ds).map D.lst := by
  unfold keep
  rw [up_S, if_neg h]
theorem gc_eq {L : Nat} : w.gc L = (keepO L w.m w.σ).bind fun σ => (keepM L w.m (w.m.take L)).map fun m => { w with σ := σ, m := m } := .trans rfl rfl
@[simp] theorem postF_0 {kill : List Nat} {L : Nat} : postF kill false L w = some { w with σ := wipeD w.σ kill } := .trans rfl rfl
@[simp] theorem postF_1 {kill : List Nat} {L : Nat} : postF kill true L w = Wd.gc { w with σ := wipeD w.σ kill } L := .trans rfl rfl
@[simp] theorem arrD_none {α : Type} {xs : List α} : arrD none xs = some xs := .trans rfl rfl
@[simp] theorem arrD_some {α : Type} {p : List Nat} {xs : List α} : arrD (some p) xs = arr p xs := .trans rfl rfl
@[simp] theorem arr_nil {α : Type} {xs : List α} : arr [] xs = some [] := .trans rfl rfl
@[simp] theorem arr_cons {α : Type} {i : Nat} {r : List Nat} {xs : List α} : arr (i :: r) xs = (xs[i]?).bind fun x => (arr r xs).map fun ys => x :: ys := .trans rfl rfl
@[simp] theorem put_g {k : Nat} {xs : List D} : w.put (.g k) xs = if k < w.g.length ∧ xs.all gOk = true then some { w with g := w.g.set k xs } else none := .trans rfl rfl
@[simp] theorem put_ref {k : Nat} {xs : List D} : w.put (.ref k) xs = if k < w.m.length then some { w with m := w.m.set k xs } else none := .trans rfl rfl
@[simp] theorem src_non {xs : List D} : Src.non.ok xs w = true := .trans rfl rfl
@[simp] theorem src_nonF {xs : List D} : Src.non.ok xs = fun _ => true := .trans rfl rfl
@[simp] theorem src_ref {k : Nat} {xs : List D} : (Src.ref k).ok xs w = (w.m[k]?).any fun ys => deqL ys xs := .trans rfl rfl
@[simp] theorem src_g {k : Nat} {xs : List D} : (Src.g k).ok xs w = (w.g[k]?).any fun ys => deqL ys xs := .trans rfl rfl
@[simp] theorem srcOf_lst {xs : List D} : srcOf (.lst xs) = .non := .trans rfl rfl
@[simp] theorem srcOf_tup {xs : List D} : srcOf (.tup xs) = .non := .trans rfl rfl
@[simp] theorem srcOf_fl {xs : List D} : srcOf (.fl xs) = .non := .trans rfl rfl
@[simp] theorem srcOf_sc {xs : List D} : srcOf (.sc xs) = .non := .trans rfl rfl
@[simp] theorem srcOf_ref {k : Nat} : srcOf (.ref k) = .ref k := .trans rfl rfl
@[simp] theorem srcOf_g {k : Nat} : srcOf (.g k) = .g k := .trans rfl rfl
@[simp] theorem deqL_same {xs : List D} : deqL xs xs = true := deqL_refl xs
@[simp] theorem isT_tup {xs : List D} : isT (.tup xs) = true := rfl
@[simp] theorem isT_lst {xs : List D} : isT (.lst xs) = false := rfl
@[simp] theorem isT_fl {xs : List D} : isT (.fl xs) = false := rfl
@[simp] theorem isT_sc {xs : List D} : isT (.sc xs) = false := rfl
@[simp] theorem isT_ref {k : Nat} : isT (.ref k) = false := rfl
@[simp] theorem isT_g {k : Nat} : isT (.g k) = false := rfl
@[simp] theorem isL_lst {xs : List D} : isL (.lst xs) = true := rfl
@[simp] theorem isL_fl {xs : List D} : isL (.fl xs) = true := rfl
@[simp] theorem isL_ref {k : Nat} : isL (.ref k) = true := rfl
@[simp] theorem isL_g {k : Nat} : isL (.g k) = true := rfl
@[simp] theorem isL_tup {xs : List D} : isL (.tup xs) = false := rfl
@[simp] theorem isL_sc {xs : List D} : isL (.sc xs) = false := rfl
/-! ### built-ins -/
variable {md : Nat}
@[simp] theorem bi_len_lst {xs : List D} : biF .len md [.lst xs] w = .ok (.int xs.length, w) := .trans rfl rfl
@[simp] theorem bi_len_tup {xs : List D} : biF .len md [.tup xs] w = .ok (.int xs.length, w) := .trans rfl rfl
@[simp] theorem bi_len_fl {xs : List D} : biF .len md [.fl xs] w = .ok (.int xs.length, w) := .trans rfl rfl
@[simp] theorem bi_len_sc {xs : List D} : biF .len md [.sc xs] w = .ok (.int xs.length, w) := .trans rfl rfl
@[simp] theorem bi_len_ref {k : Nat} : biF .len md [.ref k] w = (R.of (w.m[k]?)).bd fun xs => .ok (.int xs.length, w) := .trans rfl rfl
@[simp] theorem bi_len_g {k : Nat} : biF .len md [.g k] w = (R.of (w.g[k]?)).bd fun xs => .ok (.int xs.length, w) := .trans rfl rfl
@[simp] theorem bq_abs {i : Int} : biF .abs md [.int i] w = .ok (.int (if i < 0 then -i else i), w) := .trans rfl rfl
@[simp] theorem bi_intI {i : Int} : biF .int md [.int i] w = .ok (.int i, w) := .trans rfl rfl
@[simp] theorem bi_intB {k : Bool} : biF .int md [.bl k] w = .ok (.int (if k then 1 else 0), w) := .trans rfl rfl
@[simp] theorem bi_boolI {i : Int} : biF .bool md [.int i] w = .ok (.bl (i != 0), w) := .trans rfl rfl
@[simp] theorem bi_boolB {k : Bool} : biF .bool md [.bl k] w = .ok (.bl k, w) := .trans rfl rfl
theorem bq_repr {d : D} : biF .repr md [d] w = (R.of (w.py d)).bd fun p => if reprOk p then .ok (.str p.shown, w) else .err := by cases d <;> exact .trans rfl rfl
@[simp] theorem bq_sum {d : D} : biF .sum md [d] w = (R.of ((w.seq d).bind intD)).bd fun xs => .ok (.int xs.sum, w) := by cases d <;> exact .trans rfl rfl
@[simp] theorem bq_dict {d : D} : biF .dict md [d] w = if isT d then .err else (R.of ((w.seq d).bind prsD)).bd fun p => if p.1.Nodup ∧ p.1 ≠ [] ∧ p.1.length ≤ 15 then .ok (.dic p.1 p.2, w) else .err := by cases d <;> exact .trans rfl rfl
@[simp] theorem prsD_nil : prsD [] = some ([], []) := .trans rfl rfl
@[simp] theorem prsD_cons {k : Str} {d : D} {r : List D} : prsD (.tup [.str k, d] :: r) = (prsD r).map fun p => (k :: p.1, d :: p.2) := .trans rfl rfl
@[simp] theorem bi_max2 {i j : Int} : biF .max md [.int i, .int j] w = .ok (.int (if j > i then j else i), w) := .trans rfl rfl
@[simp] theorem bi_min2 {i j : Int} : biF .min md [.int i, .int j] w = .ok (.int (if j < i then j else i), w) := .trans rfl rfl
@[simp] theorem bq_max {d : D} : biF .max md [d] w = if isT d then .err else (R.of ((w.seq d).bind intD)).bd fun xs => if xs.isEmpty then .err else .ok (.int (maxL xs), w) := by cases d <;> exact .trans rfl rfl
@[simp] theorem bq_min {d : D} : biF .min md [d] w = if isT d then .err else (R.of ((w.seq d).bind intD)).bd fun xs => if xs.isEmpty then .err else .ok (.int (minL xs), w) := by cases d <;> exact .trans rfl rfl
@[simp] theorem bq_tuple {d : D} : biF .tuple md [d] w = (R.of (w.seq d)).bd fun xs => newT xs w := by cases d <;> exact .trans rfl rfl
@[simp] theorem bq_list {d : D} : biF .list md [d] w = (R.of (w.seq d)).bd fun xs => newL md xs w := by cases d <;> exact .trans rfl rfl
@[simp] theorem bq_all {d : D} : biF .all md [d] w = if isT d then .err else (R.of ((w.seq d).bind boolD)).bd fun xs => .ok (.bl (xs.all id), w) := by cases d <;> exact .trans rfl rfl
@[simp] theorem bq_any {d : D} : biF .any md [d] w = if isT d then .err else (R.of ((w.seq d).bind boolD)).bd fun xs => .ok (.bl (xs.any id), w) := by cases d <;> exact .trans rfl rfl
@[simp] theorem mq_append {o d : D} : meF .append o [d] w = (R.of (w.seq o)).bd fun xs => if xs.length < mxLen then (R.of (w.put o (xs ++ [d]))).bd fun w' => .ok (.non, w') else .err := .trans rfl rfl
@[simp] theorem mq_extend {o d : D} : meF .extend o [d] w = if isL d && !deq d o then (R.of (w.seq o)).bd fun xs => (R.of (w.seq d)).bd fun ys => if xs.length + ys.length ≤ mxLen then (R.of (w.put o (xs ++ ys))).bd fun w' => .ok (.non, w') else .err else .err := .trans rfl rfl
@[simp] theorem mq_pop {o : D} : meF .pop o [] w = (R.of (w.seq o)).bd fun xs => (R.of xs[xs.length - 1]?).bd fun y => (R.of (w.put o xs.dropLast)).bd fun w' => .ok (y, w') := .trans rfl rfl
@[simp] theorem me_popI {o : D} {i : Int} : meF .pop o [.int i] w = (R.of (w.seq o)).bd fun xs => (R.of (ixI xs.length i)).bd fun k => (R.of xs[k]?).bd fun y => (R.of (w.put o (xs.eraseIdx k))).bd fun w' => .ok (y, w') := .trans rfl rfl
/-! ### indices -/
theorem ixI_nat {n k : Nat} (h : k < n) : ixI n (k : Int) = some k := by
  unfold ixI
  rw [if_pos (by omega), if_pos (by omega)]
  simp
theorem ixI_pos {n : Nat} {i : Int} (h0 : 0 ≤ i) (h : i < n) : ixI n i = some i.toNat := by
  unfold ixI
  rw [if_pos h0, if_pos h]
theorem ixI_neg {n k : Nat} (h0 : 0 < k) (h : k ≤ n) : ixI n (-(k : Int)) = some (n - k) := by
  unfold ixI
  rw [if_neg (by omega), if_pos (by omega)]
  congr 1
  omega
@[simp] theorem ixI_0 {n : Nat} : ixI (n + 1) 0 = some 0 := ixI_nat (k := 0) (by omega)
@[simp] theorem ixI_1 {n : Nat} : ixI (n + 1 + 1) 1 = some 1 := ixI_nat (k := 1) (by omega)
@[simp] theorem ixI_2 {n : Nat} : ixI (n + 1 + 1 + 1) 2 = some 2 := ixI_nat (k := 2) (by omega)
@[simp] theorem ixI_3 {n : Nat} : ixI (n + 1 + 1 + 1 + 1) 3 = some 3 := ixI_nat (k := 3) (by omega)
theorem ixI_m1 {n : Nat} (h : 0 < n) : ixI n (-1) = some (n - 1) := ixI_neg (k := 1) (by omega) h
theorem ixI_m2 {n : Nat} (h : 1 < n) : ixI n (-2) = some (n - 2) := ixI_neg (k := 2) (by omega) h
end
/-! ### as data -/
section
variable {ρ γ : Nat → Option PyData}
theorem pyL_int : ∀ ns : List Int, pyL ρ γ (ns.map D.int) = some (ns.map PyData.int)
  | [] => rfl
  | n :: ns => by
    show (py ρ γ (.int n)).bind (fun y => (pyL ρ γ (ns.map D.int)).map fun ys => y :: ys) = _
    rw [pyL_int ns]
    rfl
end
theorem intD_map : ∀ ns : List Int, intD (ns.map D.int) = some ns
  | [] => rfl
  | n :: ns => by
    show (intD (ns.map D.int)).map (fun is => n :: is) = _
    rw [intD_map ns]
    rfl
end Fz

/-! Q20: plain data: as the model's data, alike, shown. -/
namespace Fz
open PySem
mutual
/-- data without own or shared lists as the model's data -/
def pd : D → PyData
  | .non => .none
  | .bl b => .bool b
  | .int i => .int i
  | .str s => .str s
  | .tup ds => .tuple (pds ds)
  | .lst ds => .list (pds ds)
  | .fl ds => .list (pds ds)
  | .sc ds => .list (pds ds)
  | .ref _ => .none
  | .g _ => .none
  | .dic _ _ => .none
def pds : List D → List PyData
  | [] => []
  | d :: ds => pd d :: pds ds
end
mutual
/-- plain, at most n deep, ints of at most k figures -/
def Pl (k : Nat) : Nat → D → Prop
  | _, .non => True
  | _, .bl _ => True
  | _, .int i => i.natAbs < 10 ^ k
  | _, .str s => PyData.strOk s = true
  | n, .tup ds => 0 < n ∧ Pls k (n - 1) ds
  | n, .lst ds => 0 < n ∧ Pls k (n - 1) ds
  | n, .fl ds => 0 < n ∧ Pls k (n - 1) ds
  | n, .sc ds => 0 < n ∧ Pls k (n - 1) ds
  | _, .ref _ => False
  | _, .g _ => False
  | _, .dic _ _ => False
def Pls (k : Nat) : Nat → List D → Prop
  | _, [] => True
  | n, d :: ds => Pl k n d ∧ Pls k n ds
end
mutual
/-- at most so long -/
def szB (k : Nat) : D → Nat
  | .str s => (reprText s).length
  | .int _ => k + 1
  | .tup ds => szBs k ds + 3
  | .lst ds => szBs k ds + 3
  | .fl ds => szBs k ds + 3
  | .sc ds => szBs k ds + 3
  | _ => 5
def szBs (k : Nat) : List D → Nat
  | [] => 0
  | d :: ds => szB k d + 2 + szBs k ds
end
section
variable {ρ γ : Nat → Option PyData} {k : Nat}
mutual
theorem py_pd : ∀ (d : D) (n : Nat), Pl k n d → py ρ γ d = some (pd d)
  | .non, _, _ => rfl
  | .bl _, _, _ => rfl
  | .int _, _, _ => rfl
  | .str _, _, _ => rfl
  | .tup ds, n, h => by show (pyL ρ γ ds).map PyData.tuple = _; rw [pyL_pd ds _ h.2]; rfl
  | .lst ds, n, h => by show (pyL ρ γ ds).map PyData.list = _; rw [pyL_pd ds _ h.2]; rfl
  | .fl ds, n, h => by show (pyL ρ γ ds).map PyData.list = _; rw [pyL_pd ds _ h.2]; rfl
  | .sc ds, n, h => by show (pyL ρ γ ds).map PyData.list = _; rw [pyL_pd ds _ h.2]; rfl
  | .ref _, _, h => False.elim h
  | .g _, _, h => False.elim h
  | .dic _ _, _, h => False.elim h
theorem pyL_pd : ∀ (ds : List D) (n : Nat), Pls k n ds → pyL ρ γ ds = some (pds ds)
  | [], _, _ => rfl
  | d :: ds, n, h => by
    show (py ρ γ d).bind (fun y => (pyL ρ γ ds).map fun ys => y :: ys) = _
    rw [py_pd d n h.1, pyL_pd ds n h.2]
    rfl
end
mutual
theorem pd_fit : ∀ (d : D) (n : Nat), Pl k n d → (pd d).canLay0 = true ∧ (pd d).depth ≤ n ∧ (k ≤ 4300 → canShow (pd d) = true)
  | .non, _, _ => ⟨rfl, Nat.zero_le _, fun _ => rfl⟩
  | .bl _, _, _ => ⟨rfl, Nat.zero_le _, fun _ => rfl⟩
  | .int i, _, h => ⟨rfl, Nat.zero_le _, fun hk => decide_eq_true (Nat.lt_of_lt_of_le (show i.natAbs < 10 ^ k from h) (Nat.pow_le_pow_right (by decide) hk))⟩
  | .str _, _, h => ⟨h, Nat.zero_le _, fun _ => rfl⟩
  | .tup ds, n, h => by
    obtain ⟨a, b, c⟩ := pds_fit ds _ h.2
    refine ⟨a, ?_, c⟩
    show PyData.depthAll (pds ds) + 1 ≤ n
    have := h.1
    omega
  | .lst ds, n, h => by
    obtain ⟨a, b, c⟩ := pds_fit ds _ h.2
    refine ⟨a, ?_, c⟩
    show PyData.depthAll (pds ds) + 1 ≤ n
    have := h.1
    omega
  | .fl ds, n, h => by
    obtain ⟨a, b, c⟩ := pds_fit ds _ h.2
    refine ⟨a, ?_, c⟩
    show PyData.depthAll (pds ds) + 1 ≤ n
    have := h.1
    omega
  | .sc ds, n, h => by
    obtain ⟨a, b, c⟩ := pds_fit ds _ h.2
    refine ⟨a, ?_, c⟩
    show PyData.depthAll (pds ds) + 1 ≤ n
    have := h.1
    omega
  | .ref _, _, h => False.elim h
  | .g _, _, h => False.elim h
  | .dic _ _, _, h => False.elim h
theorem pds_fit : ∀ (ds : List D) (n : Nat), Pls k n ds → PyData.canLayAll0 (pds ds) = true ∧ PyData.depthAll (pds ds) ≤ n ∧ (k ≤ 4300 → canShows (pds ds) = true)
  | [], _, _ => ⟨rfl, Nat.zero_le _, fun _ => rfl⟩
  | d :: ds, n, h => by
    obtain ⟨a, b, c⟩ := pd_fit d n h.1
    obtain ⟨a2, b2, c2⟩ := pds_fit ds n h.2
    refine ⟨?_, Nat.max_le.mpr ⟨b, b2⟩, fun hk => ?_⟩
    · show ((pd d).canLay0 && PyData.canLayAll0 (pds ds)) = true
      rw [a, a2]; rfl
    · show (canShow (pd d) && canShows (pds ds)) = true
      rw [c hk, c2 hk]; rfl
end
theorem textFrom_le : ∀ (ts : List Str) (j : Nat) (acc : Str), (textFrom j acc ts).length ≤ acc.length + piled ts
  | [], _, acc => by show acc.length ≤ _; omega
  | t :: r, j, acc => by
    have ih := textFrom_le r (j + 1) (acc ++ (if j > 0 then ", " else "" : String) ++ t)
    have e : (acc ++ (if j > 0 then ", " else "" : String) ++ t).length = acc.length + (if j > 0 then 2 else 0) + t.length := by
      rw [strLen_append, strLen_append]
      split <;> rfl
    rw [piled_cons]
    show (textFrom (j + 1) _ r).length ≤ _
    rw [e] at ih
    have : (if j > 0 then 2 else 0 : Nat) ≤ 2 := by split <;> omega
    omega
theorem int_len {i : Int} (hk : 0 < k) (h : i.natAbs < 10 ^ k) : (PyData.shown (.int i)).length ≤ k + 1 := by
  show (Str.ofString (toString i)).length ≤ k + 1
  by_cases h0 : 0 ≤ i
  · have := PyProof.Rows.toString_length_le h0 hk (by
      have e : i = (i.natAbs : Int) := by omega
      rw [e]
      exact_mod_cast h)
    omega
  · obtain ⟨n, rfl⟩ : ∃ n : Nat, i = Int.negSucc n := by cases i with
      | ofNat n => exact absurd (Int.natCast_nonneg n) h0
      | negSucc n => exact ⟨n, rfl⟩
    have e : toString (Int.negSucc n) = "-" ++ toString ((n + 1 : Nat) : Int) := rfl
    rw [e]
    have := PyProof.Rows.toString_length_le (v := ((n + 1 : Nat) : Int)) (by omega) hk (by
      have h : n + 1 < 10 ^ k := h
      exact_mod_cast h)
    rw [ofString_length] at this ⊢
    rw [String.length_append]
    have e2 : ("-" : String).length = 1 := rfl
    omega
mutual
theorem shown_le (hk : 0 < k) : ∀ (d : D) (n : Nat), Pl k n d → (pd d).shown.length ≤ szB k d
  | .non, _, _ => by show ("None" : Str).length ≤ 5; decide
  | .bl b, _, _ => by cases b <;> (show _ ≤ 5; decide)
  | .int i, _, h => int_len hk h
  | .str s, _, _ => Nat.le_refl _
  | .tup ds, n, h => by
    have := showns_le hk ds _ h.2
    show (tupleText (PyData.shownAll (pds ds))).length ≤ szBs k ds + 3
    unfold tupleText
    rw [strLen_append, strLen_append]
    have e1 : ("(" : Str).length = 1 := rfl
    have e2 : ((if (PyData.shownAll (pds ds)).length == 1 then ",)" else ")" : String) : Str).length ≤ 2 := by split <;> decide
    have e3 : (Str.join ", " (PyData.shownAll (pds ds))).length ≤ piled (PyData.shownAll (pds ds)) := by
      by_cases q : PyData.shownAll (pds ds) = []
      · rw [q]; exact Nat.le_refl _
      · have := join_length_add _ q
        omega
    omega
  | .lst ds, n, h => by
    have := showns_le hk ds _ h.2
    show (textFrom 0 "[" (PyData.shownAll (pds ds)) ++ "]").length ≤ szBs k ds + 3
    rw [strLen_append]
    have := textFrom_le (PyData.shownAll (pds ds)) 0 "["
    have e1 : ("[" : Str).length = 1 := rfl
    have e2 : ("]" : Str).length = 1 := rfl
    omega
  | .fl ds, n, h => by
    have := showns_le hk ds _ h.2
    show (textFrom 0 "[" (PyData.shownAll (pds ds)) ++ "]").length ≤ szBs k ds + 3
    rw [strLen_append]
    have := textFrom_le (PyData.shownAll (pds ds)) 0 "["
    have e1 : ("[" : Str).length = 1 := rfl
    have e2 : ("]" : Str).length = 1 := rfl
    omega
  | .sc ds, n, h => by
    have := showns_le hk ds _ h.2
    show (textFrom 0 "[" (PyData.shownAll (pds ds)) ++ "]").length ≤ szBs k ds + 3
    rw [strLen_append]
    have := textFrom_le (PyData.shownAll (pds ds)) 0 "["
    have e1 : ("[" : Str).length = 1 := rfl
    have e2 : ("]" : Str).length = 1 := rfl
    omega
  | .ref _, _, h => False.elim h
  | .g _, _, h => False.elim h
  | .dic _ _, _, h => False.elim h
theorem showns_le (hk : 0 < k) : ∀ (ds : List D) (n : Nat), Pls k n ds → piled (PyData.shownAll (pds ds)) ≤ szBs k ds
  | [], _, _ => Nat.le_refl _
  | d :: ds, n, h => by
    have h1 := shown_le hk d n h.1
    have h2 := showns_le hk ds n h.2
    show piled ((pd d).shown :: PyData.shownAll (pds ds)) ≤ szB k d + 2 + szBs k ds
    rw [piled_cons]
    omega
end
variable {w : Wd} {n : Nat} {d e : D}
theorem py_of (h : Pl k n d) : w.py d = some (pd d) := py_pd d n h
/-- its text -/
theorem repr_of {md : Nat} (h : Pl k n d) (hk : 0 < k) (hk2 : k ≤ 4300) (hn : n ≤ 60) (hz : szB k d ≤ 1000000) : biF .repr md [d] w = .ok (.str (pd d).shown, w) := by
  obtain ⟨a, b, c⟩ := pd_fit d n h
  rw [bq_repr, py_of h, R.of_some, R.bd_ok]
  have : reprOk (pd d) = true := by
    unfold reprOk
    rw [c hk2, decide_eq_true (Nat.le_trans b hn), decide_eq_true (show (pd d).shown.length ≤ mxLen from Nat.le_trans (shown_le hk d n h) hz)]
    rfl
  rw [if_pos this]
theorem eqF_plain (h : Pl k n d) (h2 : Pl k n e) (hn : n ≤ 64) : eqF d e w = some (PyData.eqv (pd d) (pd e)) := by
  have s1 : SeqAt.shaped (pd d) = true := by
    obtain ⟨a, b, c⟩ := pd_fit d n h
    show ((pd d).canLay0 && decide _) = true
    rw [a, decide_eq_true (Nat.le_trans b hn)]; rfl
  have s2 : SeqAt.shaped (pd e) = true := by
    obtain ⟨a, b, c⟩ := pd_fit e n h2
    show ((pd e).canLay0 && decide _) = true
    rw [a, decide_eq_true (Nat.le_trans b hn)]; rfl
  have gen : ((w.py d).bind fun a => (w.py e).bind fun b => if SeqAt.shaped a && SeqAt.shaped b then some (PyData.eqv a b) else none) = some (PyData.eqv (pd d) (pd e)) := by
    rw [py_of h, py_of h2]
    show (if (SeqAt.shaped (pd d) && SeqAt.shaped (pd e)) = true then _ else _) = _
    rw [s1, s2]; rfl
  cases d with
  | int i => cases e with
    | int j => show some (decide (i = j)) = some (PyData.eqv (.int i) (.int j)); rw [PyData.eqv]; congr 1
    | _ => exact gen
  | str i => cases e with
    | str j => show some (decide (i = j)) = some (PyData.eqv (.str i) (.str j)); rw [PyData.eqv]; congr 1
    | _ => exact gen
  | _ => exact gen
theorem eqv_same {n : Nat} (h : Pl k n d) : PyData.eqv (pd d) (pd d) = true := SeqAt.eqv_refl_plain _ (PyData.plain_of_canLay0 _ (pd_fit d n h).1)
theorem eq_same (h : Pl k n d) (h2 : Pl k n e) (hn : n ≤ 64) (he : pd d = pd e) : cmF .eq d e w = some true := by
  show eqF d e w = _
  rw [eqF_plain h h2 hn, ← he, eqv_same h]
theorem ne_same (h : Pl k n d) (h2 : Pl k n e) (hn : n ≤ 64) (he : pd d = pd e) : cmF .ne d e w = some false := by
  show (eqF d e w).map (fun b => !b) = _
  rw [eqF_plain h h2 hn, ← he, eqv_same h]
  rfl
end
/-! ### simp rules -/
section
variable {k n : Nat}
@[simp] theorem Pl_non : Pl k n .non ↔ True := Iff.rfl
@[simp] theorem Pl_bl {b : Bool} : Pl k n (.bl b) ↔ True := Iff.rfl
@[simp] theorem Pl_int {b : Int} : Pl k n (.int b) ↔ b.natAbs < 10 ^ k := by unfold Pl; exact Iff.rfl
@[simp] theorem Pl_tup {ds : List D} : Pl k (n + 1) (.tup ds) ↔ Pls k n ds := ⟨fun h => h.2, fun h => ⟨Nat.zero_lt_succ _, h⟩⟩
@[simp] theorem Pl_lst {ds : List D} : Pl k (n + 1) (.lst ds) ↔ Pls k n ds := ⟨fun h => h.2, fun h => ⟨Nat.zero_lt_succ _, h⟩⟩
@[simp] theorem Pl_fl {ds : List D} : Pl k (n + 1) (.fl ds) ↔ Pls k n ds := ⟨fun h => h.2, fun h => ⟨Nat.zero_lt_succ _, h⟩⟩
@[simp] theorem Pls_nil : Pls k n [] ↔ True := Iff.rfl
@[simp] theorem Pls_cons {d : D} {ds : List D} : Pls k n (d :: ds) ↔ Pl k n d ∧ Pls k n ds := Iff.rfl
theorem Pls_all {ds : List D} (h : ∀ d ∈ ds, Pl k n d) : Pls k n ds := by
  induction ds with
  | nil => trivial
  | cons d ds ih => exact ⟨h d List.mem_cons_self, ih fun e he => h e (List.mem_cons_of_mem _ he)⟩
theorem pds_map (ds : List D) : pds ds = ds.map pd := by
  induction ds with
  | nil => rfl
  | cons d ds ih => show pd d :: pds ds = _; rw [ih]; rfl
theorem szBs_le {ds : List D} {c : Nat} (h : ∀ d ∈ ds, szB k d ≤ c) : szBs k ds ≤ ds.length * (c + 2) := by
  induction ds with
  | nil => exact Nat.zero_le _
  | cons d ds ih =>
    have h1 := h d List.mem_cons_self
    have h2 := ih fun e he => h e (List.mem_cons_of_mem _ he)
    show szB k d + 2 + szBs k ds ≤ (ds.length + 1) * (c + 2)
    rw [Nat.add_mul, Nat.one_mul]
    omega
end
@[simp] theorem mx_le {n : Nat} (h : n ≤ 100000) : (n ≤ mxLen) = True := eq_true (Nat.le_trans h (by decide))
@[simp] theorem mx_lt {n : Nat} (h : n ≤ 100000) : (n < mxLen) = True := eq_true (Nat.lt_of_le_of_lt h (by decide))
end Fz

/-! Q21: the pot of laws k01 to k19, k90 to k99. -/
namespace Fz
open PySem
theorem exB_step {P : Pg} {s : S} {r : List S} {w w' : Wd} (h : exS P s w = .ok (.nx, w')) : exB P (s :: r) w = exB P r w' := by
  rw [exB_cons, h]
  rfl
theorem rngL_map : ∀ (n : Nat) (lo : Int), rngL lo n = (List.range n).map fun j : Nat => D.int (lo + j)
  | 0, _ => rfl
  | n + 1, lo => by
    rw [List.range_succ_eq_map, List.map_cons, List.map_map, rngL, rngL_map n (lo + 1)]
    congr 1
    · simp
    · refine List.map_congr_left fun j _ => ?_
      show D.int _ = D.int _
      congr 1
      push_cast
      omega
theorem rngL_map0 (n : Nat) : rngL 0 n = (List.range n).map fun j : Nat => D.int j := by
  rw [rngL_map]
  exact List.map_congr_left fun j _ => by rw [Int.zero_add]
theorem op_mulL {xs : List D} {j : Nat} {w : Wd} {md : Nat} (hj : j ≤ 1000000000) (h : xs.length * j ≤ mxLen) : opF .mul md (.lst xs) (.int j) w = newL md (List.replicate j xs).flatten w := by
  have hd : -(2 ^ 63) ≤ (j : Int) ∧ (j : Int) < 2 ^ 63 := by omega
  unfold opF
  simp only [isL_lst, hd, decide_true, Bool.and_self, if_true, seq_lst, R.of_some, R.bd_ok, Int.toNat_natCast, h, and_self]
/-- the pot's making; s0, s1: the law's own seeds -/
def potB (s0 s1 : Int) : List S := [
  .set (.tu [.nm 1, .nm 2]) (.tup (.cons (.co 0 (.nm 3) (.seq (.sl 0 (.v 0) .no (.so (.k (.int 63))))) .no (.op .add 0 (.op .mul 0 (.k (.int 2)) (.bi .abs 0 (.cons (.v 3) .nil))) (.bi .int 0 (.cons (.cm .lt (.v 3) (.k (.int 0))) .nil))) [3]) (.cons (.op .add 0 (.k (.int s0)) (.op .mul 0 (.k (.int s1)) (.bi .len 0 (.cons (.v 0) .nil)))) .nil))),
  .for (.nm 3) (.seq (.v 1)) [
    .set (.nm 2) (.op .mod 0 (.op .add 0 (.op .add 0 (.op .mul 0 (.v 2) (.k (.int 69069))) (.v 3)) (.k (.int 11))) (.k (.int 4294967291)))] [3] false,
  .ret (.lst 2 (.cons (.co 2 (.nm 3) (.seq (.v 1)) (.so (.cm .gt (.v 3) (.op .pow 0 (.k (.int 10)) (.k (.int 12))))) (.v 3) [3]) (.cons (.v 2) (.cons (.k (.int 0)) .nil))))]
def ofB : List S := [
  .ite (.cm .lt (.v 1) (.k (.int 2))) [
    .ret (.k (.int 0))] [],
  .ite (.cm .ne (.ix (.v 0) (.k (.int 0))) (.lst 0 .nil)) [
    .set (.nm 2) (.me .pop (.ix (.v 0) (.k (.int 0))) .nil),
    .ite (.cm .ge (.v 2) (.v 1)) [
      .ex (.me .append (.ix (.v 0) (.k (.int 0))) (.cons (.op .fdiv 0 (.v 2) (.v 1)) .nil))] [],
    .ret (.op .mod 0 (.v 2) (.v 1))] [],
  .put (.v 0) (.k (.int 2)) (.op .add 1 (.ix (.v 0) (.k (.int 2))) (.k (.int 1))),
  .set (.nm 3) (.op .mod 0 (.op .add 0 (.ix (.v 0) (.k (.int 1))) (.op .mul 0 (.ix (.v 0) (.k (.int 2))) (.k (.int 2654435761)))) (.k (.int 4294967279))),
  .set (.nm 3) (.op .mod 0 (.op .add 0 (.op .add 0 (.op .mul 0 (.v 3) (.v 3)) (.op .mul 0 (.ix (.v 0) (.k (.int 2))) (.k (.int 40503)))) (.k (.int 5))) (.k (.int 4294967231))),
  .set (.nm 3) (.op .mod 0 (.op .add 0 (.op .mul 0 (.v 3) (.v 3)) (.ix (.v 0) (.k (.int 1)))) (.k (.int 4294967291))),
  .ret (.op .mod 0 (.op .fdiv 0 (.v 3) (.k (.int 256))) (.v 1))]
def oneB (j : Nat) : List S := [
  .ret (.ix (.v 1) (.call j none (.cons (.v 0) (.cons (.bi .len 0 (.cons (.v 1) .nil)) .nil)) .nil))]
/-- the shared lists are a pot's -/
def Pot (g : List (List D)) : Prop := ∃ (cs : List Int) (a b : Int), g = [cs.map D.int, [.g 0, .int a, .int b]] ∧ cs.length ≤ 63
@[simp] theorem gOk_ints (cs : List Int) : (cs.map D.int).all gOk = true := by
  rw [List.all_eq_true]
  intro d hd
  obtain ⟨n, _, rfl⟩ := List.mem_map.mp hd
  rfl
theorem cut_to {α : Type} {xs : List α} {k : Nat} : cut xs none (some (k : Int)) = xs.take k := by
  unfold cut
  rw [HT.sIx_none, HT.sIx_nat, List.drop_zero, Nat.sub_zero]
  by_cases h : k ≤ xs.length
  · rw [Nat.min_eq_left h]
  · rw [Nat.min_eq_right (by omega), List.take_length, List.take_of_length_le (by omega)]
theorem cut_from {α : Type} {xs : List α} {k : Nat} : cut xs (some (k : Int)) none = xs.drop k := by
  unfold cut
  rw [HT.sIx_none, HT.sIx_nat]
  by_cases h : k ≤ xs.length
  · rw [Nat.min_eq_left h, List.take_of_length_le (by rw [List.length_drop]; omega)]
  · rw [Nat.min_eq_right (by omega), Nat.sub_self, List.take_zero, List.drop_eq_nil_of_le (by omega)]
theorem cut_mid {α : Type} {xs : List α} {j k : Nat} : cut xs (some (j : Int)) (some (k : Int)) = (xs.take k).drop j := by
  unfold cut
  rw [HT.sIx_nat, HT.sIx_nat, List.drop_take]
  by_cases h : j ≤ xs.length
  · rw [Nat.min_eq_left h]
    by_cases h2 : k ≤ xs.length
    · rw [Nat.min_eq_left h2]
    · rw [Nat.min_eq_right (by omega), List.take_of_length_le (by rw [List.length_drop]; omega), List.take_of_length_le (by rw [List.length_drop]; omega)]
  · rw [Nat.min_eq_right (a := j) (by omega), List.drop_eq_nil_of_le (Nat.le_refl _), List.drop_eq_nil_of_le (i := j) (by omega), List.take_nil, List.take_nil]
theorem fmod_lt {a b : Int} (h : 0 < b) : 0 ≤ a.fmod b ∧ a.fmod b < b := ⟨Int.fmod_nonneg_of_pos a h, Int.fmod_lt_of_pos a h⟩
theorem divOk_s {i j : Int} (h : 0 < j) (h2 : j < 1073741824) : divOk i j = true := by
  unfold divOk
  rw [decide_eq_true (show j ≠ 0 by omega), decide_eq_true (show j.natAbs < 1073741824 by omega)]
  rfl
theorem ne_nil_g {w : Wd} {k : Nat} {cs : List Int} (h : w.g[k]? = some (cs.map D.int)) (hc : cs.length ≤ 100) : cmF .ne (.g k) (.lst []) w = some (!cs.isEmpty) := by
  have h0 : w.py (.g k) = some (.list (cs.map PyData.int)) := by
    show pyR w (3 + 1) false k = _
    unfold pyR
    rw [if_neg (by decide), h]
    show (pyL _ _ (cs.map D.int)).map PyData.list = _
    rw [pyL_int]
    rfl
  have h1 : w.py (.lst []) = some (.list []) := rfl
  show ((w.py (.g k)).bind fun a => (w.py (.lst [])).bind fun b => if SeqAt.shaped a && SeqAt.shaped b then some (PyData.eqv a b) else none).map (fun b => !b) = _
  rw [h0, h1]
  have s1 : SeqAt.shaped (.list (cs.map PyData.int)) = true := by
    have l : ∀ cs : List Int, PyData.canLayAll0 (cs.map PyData.int) = true := by
      intro cs
      induction cs with
      | nil => rfl
      | cons c cs ih => show (true && PyData.canLayAll0 (cs.map PyData.int)) = true; rw [ih]; rfl
    have d : ∀ cs : List Int, PyData.depthAll (cs.map PyData.int) = 0 := by
      intro cs
      induction cs with
      | nil => rfl
      | cons c cs ih => show max 0 (PyData.depthAll (cs.map PyData.int)) = 0; rw [ih]; rfl
    show (PyData.canLayAll0 (cs.map PyData.int) && decide (PyData.depthAll (cs.map PyData.int) + 1 ≤ 64)) = true
    rw [l, d]; rfl
  show (if (SeqAt.shaped (.list (cs.map PyData.int)) && SeqAt.shaped (.list [])) = true then some (PyData.eqv (.list (cs.map PyData.int)) (.list [])) else none).map (fun b => !b) = _
  rw [s1]
  cases cs with
  | nil => rfl
  | cons n ns => rfl
section
variable {P : Pg}
def nx1 (a b : Int) : Int := (a + (b + 1) * 2654435761).fmod 4294967279
def nx2 (a b : Int) : Int := (nx1 a b * nx1 a b + (b + 1) * 40503 + 5).fmod 4294967231
def nx3 (a b : Int) : Int := (nx2 a b * nx2 a b + a).fmod 4294967291
theorem of_nil {a b m : Int} (h1 : ¬ m < 2) (h2 : m < 1073741824) : exD P 4 ofB [.g 1, .int m] [[], [.g 0, .int a, .int b]] = .ok (.int (((nx3 a b).fdiv 256).fmod m), [[], [.g 0, .int a, .int (b + 1)]]) := by
  have n0 : ∀ σ m, cmF .ne (.g 0) (.lst []) ⟨σ, m, [[], [.g 0, .int a, .int b]]⟩ = some false := fun σ m => ne_nil_g (cs := []) rfl (by decide)
  have m0 : ¬ m = 0 := by omega
  have e1 : mulOk (b + 1) 2654435761 = true := mulOk_r (by omega)
  have e2 : mulOk (b + 1) 40503 = true := mulOk_r (by omega)
  have e3 : mulOk (nx1 a b) (nx1 a b) = true := mulOk_r (by have := fmod_lt (a := a + (b + 1) * 2654435761) (b := 4294967279) (by decide); unfold nx1; omega)
  have e4 : mulOk (nx2 a b) (nx2 a b) = true := mulOk_r (by have := fmod_lt (a := nx1 a b * nx1 a b + (b + 1) * 40503 + 5) (b := 4294967231) (by decide); unfold nx2; omega)
  have e5 : divOk (nx3 a b) 256 = true := divOk_s (by decide) (by decide)
  have e6 : (a + (b + 1) * 2654435761).fmod 4294967279 = nx1 a b := rfl
  have e7 : (nx1 a b * nx1 a b + (b + 1) * 40503 + 5).fmod 4294967231 = nx2 a b := rfl
  have e8 : (nx2 a b * nx2 a b + a).fmod 4294967291 = nx3 a b := rfl
  simp [exD, ofB, h1, newL_0, n0, m0, e1, e2, e3, e4, e5, e6, e7, e8, gOk]
theorem of_cons {a b m c : Int} {cs : List Int} (h1 : ¬ m < 2) (h2 : m < 1073741824) (hc : cs.length < 63) : exD P 4 ofB [.g 1, .int m] [(cs ++ [c]).map D.int, [.g 0, .int a, .int b]] = .ok (.int (c.fmod m), [(if m ≤ c then cs ++ [c.fdiv m] else cs).map D.int, [.g 0, .int a, .int b]]) := by
  have n0 : ∀ σ m, cmF .ne (.g 0) (.lst []) ⟨σ, m, [cs.map D.int ++ [.int c], [.g 0, .int a, .int b]]⟩ = some true := fun σ m => by
    have := ne_nil_g (w := ⟨σ, m, [(cs ++ [c]).map D.int, [.g 0, .int a, .int b]]⟩) (k := 0) (cs := cs ++ [c]) rfl (by simp; omega)
    rw [show (!(cs ++ [c]).isEmpty) = true by cases cs <;> rfl] at this
    simpa using this
  have m0 : ¬ m = 0 := by omega
  have e5 : divOk c m = true := divOk_s (by omega) h2
  have l : cs.length < mxLen := Nat.lt_trans hc (by decide)
  have g0 : ∀ d ∈ cs.map D.int, gOk d = true := fun d hd => List.all_eq_true.mp (gOk_ints cs) d hd
  have g1 : ∀ c : Int, (cs.map D.int ++ [D.int c]).all gOk = true := fun c => by rw [List.all_append, gOk_ints]; rfl
  by_cases q : m ≤ c
  · simp [exD, ofB, h1, newL_0, n0, m0, e5, q, gOk, l]
  · simp [exD, ofB, h1, newL_0, n0, m0, e5, q, gOk, l]
theorem of_ok {g : List (List D)} (h : Pot g) {m : Int} (h1 : 1 ≤ m) (h2 : m < 1073741824) : ∃ r g', exD P 4 ofB [.g 1, .int m] g = .ok (.int r, g') ∧ Pot g' ∧ 0 ≤ r ∧ r < m := by
  obtain ⟨cs, a, b, rfl, hc⟩ := h
  by_cases hm : m < 2
  · refine ⟨0, _, ?_, ⟨cs, a, b, rfl, hc⟩, by omega, by omega⟩
    simp [exD, ofB, hm]
  · rcases List.eq_nil_or_concat cs with rfl | ⟨cs, c, rfl⟩
    · exact ⟨_, _, of_nil hm h2, ⟨[], a, b + 1, rfl, hc⟩, fmod_lt (by omega)⟩
    · rw [List.concat_eq_append, List.length_append, List.length_singleton] at hc
      rw [List.concat_eq_append]
      refine ⟨_, _, of_cons hm h2 (by omega), ⟨_, a, b, rfl, ?_⟩, fmod_lt (by omega)⟩
      split
      · rw [List.length_append, List.length_singleton]; omega
      · omega
theorem one_ok {j : Nat} {P2 : Pg} (hj : P.F j = exD P2 4 ofB) {g : List (List D)} (h : Pot g) {ds : List D} (h0 : 0 < ds.length) (h1 : ds.length < 1000000) (hr : okRets ds = true) :
    ∃ (i : Nat) (hi : i < ds.length) (g' : List (List D)), exD P 2 (oneB j) [.g 1, .lst ds] g = .ok (ds[i], g') ∧ Pot g' := by
  obtain ⟨r, g', e, hp, r0, r1⟩ := of_ok (P := P2) h (m := ds.length) (by omega) (by omega)
  obtain ⟨i, rfl⟩ : ∃ i : Nat, r = (i : Int) := ⟨r.toNat, by omega⟩
  have hi : i < ds.length := by omega
  refine ⟨i, hi, g', ?_, hp⟩
  have e2 : P.F j [.g 1, .int ds.length] g = .ok (.int i, g') := by rw [hj]; exact e
  have e3 : ds[i]? = some ds[i] := List.getElem?_eq_getElem hi
  have e4 : ∀ w, give w ds[i] = some ds[i] := fun w => rs_ok _ (okRets_mem hr _ (List.getElem_mem hi))
  simp only [exD, oneB]
  simp [e2, ixI_nat hi, rsL_ok ds hr, -give_eq, e4, e3]
end
section
variable {P : Pg} {s0 s1 : Int}
def potC (ns : List Int) : List Int := (ns.take 63).map fun n => 2 * (if n < 0 then -n else n) + if n < 0 then 1 else 0
def potM (s : Int) (cs : List Int) : Int := cs.foldl (fun a c => (a * 69069 + c + 11).fmod 4294967291) s
theorem pot_ok (h0 : -1000000 < s1 ∧ s1 < 1000000) {ns : List Int} (hn : ns.length ≤ 63) : ∃ g', exD P 4 (potB s0 s1) [.sc (ns.map D.int)] [] = .ok (.g 1, g') ∧ Pot g' := by
  have c63 : cut (ns.map D.int) none (some 63) = (ns.take 63).map D.int := by
    rw [show (some 63 : Option Int) = some ((63 : Nat) : Int) from rfl, cut_to, List.map_take]
  have len : (potC ns).length ≤ 63 := by unfold potC; rw [List.length_map, List.length_take]; omega
  -- the cells
  have L1 : ∀ (s : D), coL (asg (.nm 3)) (evC P .no) (evE P (.op .add 0 (.op .mul 0 (.k (.int 2)) (.bi .abs 0 (.cons (.v 3) .nil))) (.bi .int 0 (.cons (.cm .lt (.v 3) (.k (.int 0))) .nil)))) (fun _ => true) [3] [some s, none, none, none] ((ns.take 63).map D.int) ⟨[some s, none, none, none], [], []⟩ [] = .ok ((potC ns).map D.int, ⟨[some s, none, none, none], [], []⟩) := by
    intro s
    have e : mulOk 2 = fun _ => true := funext fun i => mulOk_l (by decide)
    rw [coL_map (fun d => match d with | .int n => .int (2 * (if n < 0 then -n else n) + if n < 0 then 1 else 0) | _ => .non) ((ns.take 63).map D.int) [] (Nat.le_trans (m := 63) (by simp; omega) (by decide)) (fun x hx r acc hacc => by
        obtain ⟨n, _, rfl⟩ := List.mem_map.mp hx
        simp [coL_cons, e, hacc])]
    unfold potC
    rw [List.map_map, List.map_map, List.nil_append]
    rfl
  -- the mixing
  have L2 : ∀ (s : D) (c : List D) (cs : List Int) (a : Int), forL (asg (.nm 3)) (exB P [.set (.nm 2) (.op .mod 0 (.op .add 0 (.op .add 0 (.op .mul 0 (.v 2) (.k (.int 69069))) (.v 3)) (.k (.int 11))) (.k (.int 4294967291)))]) (postF [3] false 0) (fun _ => true) (cs.map D.int) ⟨[some s, some (.lst c), some (.int a), none], [], []⟩ = .ok (.nx, ⟨[some s, some (.lst c), some (.int (potM a cs)), none], [], []⟩) := by
    intro s c cs
    induction cs with
    | nil => intro a; rfl
    | cons x cs ih =>
      intro a
      have e : mulOk a 69069 = true := mulOk_r (by decide)
      have := ih ((a * 69069 + x + 11).fmod 4294967291)
      simp [forL_cons, e]
      rw [this]
      rfl
  -- the great ones
  have L3 : ∀ (σ : List (Option D)) (cs : List Int), cs.length ≤ 63 → σ.length = 4 → coL (asg (.nm 3)) (evC P (.so (.cm .gt (.v 3) (.op .pow 0 (.k (.int 10)) (.k (.int 12)))))) (evE P (.v 3)) (fun _ => true) [3] σ (cs.map D.int) ⟨σ, [], []⟩ [] = .ok ((cs.filter fun c => 1000000000000 < c).map D.int, ⟨σ, [], []⟩) := by
    intro σ cs hc hl
    have e : powOk 10 12 = true := by decide
    match σ, hl with
    | [a, b, c, d], _ =>
      rw [coL_filter (fun d => match d with | .int n => decide (1000000000000 < n) | _ => false) id (cs.map D.int) [] (Nat.le_trans (m := 63) (by simp; omega) (by decide)) (fun x hx r acc hacc => by
        obtain ⟨n, _, rfl⟩ := List.mem_map.mp hx
        by_cases q : 1000000000000 < n <;> simp [coL_cons, e, hacc, q])]
      rw [List.nil_append, List.map_id, List.filter_map]
      rfl
  have m1 : mulOk s1 ns.length = true := mulOk_l (by omega)
  have hl : ∀ (p : Int → Bool), ((potC ns).filter p).length ≤ 63 := fun p => Nat.le_trans (List.length_filter_le _ _) len
  have q1 : ((ns.take 63).map D.int).length ≤ 100000 := by rw [List.length_map, List.length_take]; omega
  refine ⟨[((potC ns).filter fun c => decide (1000000000000 < c)).map D.int, [.g 0, .int (potM (s0 + s1 * ns.length) (potC ns)), .int 0]], ?_, ⟨_, _, _, rfl, hl (fun c => decide (1000000000000 < c))⟩⟩
  have l1 := L1 (.sc (ns.map D.int))
  have n1 : ∀ w, newL 0 (List.take 63 (ns.map D.int)) w = .ok (.lst (List.take 63 (ns.map D.int)), w) := fun w => newL_0 (le_mx (by rw [List.length_take]; omega))
  have n2 : ∀ w, newL 0 ((potC ns).map D.int) w = .ok (.lst ((potC ns).map D.int), w) := fun w => newL_0 (le_mx (by rw [List.length_map]; omega))
  have n3 : ∀ w, newL 2 (((potC ns).filter fun c => decide (1000000000000 < c)).map D.int) w = .ok (.g w.g.length, { w with g := w.g ++ [((potC ns).filter fun c => decide (1000000000000 < c)).map D.int] }) := fun w => newL_2 (le_mx (by rw [List.length_map]; exact Nat.le_trans (hl _) (by decide))) (gOk_ints _)
  have l3 := fun σ h => L3 σ (potC ns) len h
  simp only [List.map_take] at l1 c63
  have n4 : ∀ (w : Wd) a, newL 2 [.g 0, .int a, .int 0] w = .ok (.g w.g.length, { w with g := w.g ++ [[.g 0, .int a, .int 0]] }) := fun w a => newL_2 (le_mx (show 3 ≤ 100000 by decide)) rfl
  simp [exD, potB, c63, newT_ok', m1, n1, n2, n3, n4, l1, L2, l3]
end
end Fz

/-! Q22: while loops; the bag of laws k50 to k65, k81 to k89. -/
namespace Fz
open PySem
theorem whlL_dec {test : Wd → R (Bool × Wd)} {body : Wd → R (Fl × Wd)} {post : Wd → Option Wd} (I J : Wd → Prop) (μ : Wd → Nat)
    (h : ∀ w, I w → (∃ w', test w = .ok (false, w') ∧ J w') ∨ ∃ w1 w2 w3, test w = .ok (true, w1) ∧ body w1 = .ok (.nx, w2) ∧ post w2 = some w3 ∧ I w3 ∧ μ w3 < μ w) :
    ∀ (n : Nat) (w : Wd), μ w < n → I w → ∃ w', whlL test body post n w = .ok (.nx, w') ∧ J w'
  | 0, _, hn, _ => absurd hn (Nat.not_lt_zero _)
  | n + 1, w, hn, hi => by
    rcases h w hi with ⟨w', e, j⟩ | ⟨w1, w2, w3, e1, e2, e3, i3, d⟩
    · refine ⟨w', ?_, j⟩
      show (test w).bd _ = _
      rw [e]
      rfl
    · obtain ⟨w', e4, j⟩ := whlL_dec I J μ h n w3 (by omega) i3
      refine ⟨w', ?_, j⟩
      show (test w).bd _ = _
      rw [e1, R.bd_ok]
      show (body w1).bd _ = _
      rw [e2, R.bd_ok]
      show (R.of (post w2)).bd _ = _
      rw [e3]
      exact e4
theorem divOk_m {i j : Int} (h : 0 < j) (h2 : j < 1606938044258990275541962092341162602522202993782792835301376) : divOk i j = true := by
  unfold divOk
  have : Builtin.divisionGoesByPylong i j = false := PyProof.noPylong_of_log2 (by
    have hz : j.natAbs ≠ 0 := by omega
    have : j.natAbs.log2 < 200 := (Nat.log2_lt hz).mpr (by omega)
    omega)
  rw [decide_eq_true (show j ≠ 0 by omega), this]
  simp
def bagB_0 : List S := [
  .set (.nm 3) (.op .mod 0 (.bi .int 0 (.cons (.op .add 0 (.op .add 0 (.op .mul 0 (.v 3) (.k (.int 48271))) (.op .mod 0 (.bi .int 0 (.cons (.v 2) .nil)) (.k (.int 2147483629)))) (.k (.int 5))) .nil)) (.k (.int 2147483647)))]
def bagB : List S := [
  .set (.nm 1) (.co 0 (.nm 2) (.seq (.sl 0 (.v 0) .no (.so (.k (.int 63))))) .no (.bi .abs 0 (.cons (.v 2) .nil)) [2]),
  .set (.nm 3) (.op .add 0 (.k (.int 17539)) (.bi .len 0 (.cons (.v 1) .nil))),
  .for (.nm 2) (.seq (.v 1)) bagB_0 [2] false,
  .ret (.lst 2 (.cons (.rev 2 (.v 1)) (.cons (.k (.int 0)) (.cons (.v 3) .nil))))]
def drawB_0 : List S := [
  .set (.nm 2) (.me .pop (.ix (.v 0) (.k (.int 0))) .nil),
  .put (.v 0) (.k (.int 1)) (.ite (.cm .gt (.v 2) (.op .pow 0 (.k (.int 10)) (.k (.int 9)))) (.v 2) (.k (.int 0)))]
def drawB : List S := [
  .whl (.an (.cm .eq (.ix (.v 0) (.k (.int 1))) (.k (.int 0))) (.cm .ne (.ix (.v 0) (.k (.int 0))) (.lst 0 .nil))) drawB_0 [2] true,
  .ite (.cm .gt (.ix (.v 0) (.k (.int 1))) (.k (.int 0))) [
    .set (.nm 3) (.op .mod 0 (.bi .int 0 (.cons (.ix (.v 0) (.k (.int 1))) .nil)) (.v 1)),
    .put (.v 0) (.k (.int 1)) (.op .fdiv 1 (.ix (.v 0) (.k (.int 1))) (.v 1)),
    .ret (.v 3)] [],
  .put (.v 0) (.k (.int 2)) (.op .mod 1 (.bi .int 0 (.cons (.op .add 0 (.op .mul 0 (.ix (.v 0) (.k (.int 2))) (.k (.int 48271))) (.k (.int 13))) .nil)) (.k (.int 2147483647))),
  .ret (.op .mod 0 (.bi .int 0 (.cons (.op .fdiv 0 (.op .mod 0 (.bi .int 0 (.cons (.op .mul 0 (.ix (.v 0) (.k (.int 2))) (.ix (.v 0) (.k (.int 2)))) .nil)) (.k (.int 2147483629))) (.k (.int 7))) .nil)) (.v 1))]
/-- the shared lists are a bag's -/
def Bag (g : List (List D)) : Prop := ∃ (cs : List Int) (a b : Int), g = [cs.map D.int, [.g 0, .int a, .int b]] ∧ cs.length ≤ 63
section
variable {P : Pg}
theorem draw_ok {g : List (List D)} (h : Bag g) {m : Int} (h1 : 1 ≤ m) (h2 : m < 1606938044258990275541962092341162602522202993782792835301376) : ∃ r g', exD P 4 drawB [.g 1, .int m] g = .ok (.int r, g') ∧ Bag g' ∧ 0 ≤ r ∧ r < m := by
  obtain ⟨w, e, cs, a, b, rfl, hc⟩ := whlL_dec (test := evT P (.an (.cm .eq (.ix (.v 0) (.k (.int 1))) (.k (.int 0))) (.cm .ne (.ix (.v 0) (.k (.int 0))) (.lst 0 .nil)))) (body := exB P drawB_0) (post := postF [2] true 0)
    (fun w => ∃ (cs : List Int) (a b : Int), w = ⟨[some (.g 1), some (.int m), none, none], [], [cs.map D.int, [.g 0, .int a, .int b]]⟩ ∧ cs.length ≤ 63) (fun w => ∃ (cs : List Int) (a b : Int), w = ⟨[some (.g 1), some (.int m), none, none], [], [cs.map D.int, [.g 0, .int a, .int b]]⟩ ∧ cs.length ≤ 63)
    (fun w => (w.g[0]?.getD []).length) (by
      rintro w ⟨cs, a, b, rfl, hc⟩
      have n0 : ∀ σ m, cmF .ne (.g 0) (.lst []) ⟨σ, m, [cs.map D.int, [.g 0, .int a, .int b]]⟩ = some (!cs.isEmpty) := fun σ m => ne_nil_g rfl (by omega)
      by_cases ha : a = 0
      · subst ha
        rcases List.eq_nil_or_concat cs with rfl | ⟨cs, c, rfl⟩
        · left
          simp at n0
          refine ⟨_, ?_, [], 0, b, rfl, hc⟩
          simp [newL_0, n0]
        · right
          rw [List.concat_eq_append] at *
          rw [show (!(cs ++ [c]).isEmpty) = true by cases cs <;> rfl] at n0
          have hc' : cs.length ≤ 63 := by simp at hc; omega
          have g0 : ∀ d ∈ cs.map D.int, gOk d = true := fun d hd => List.all_eq_true.mp (gOk_ints cs) d hd
          have e : powOk 10 9 = true := by decide
          simp at n0
          by_cases q : 1000000000 < c
          · refine ⟨⟨[some (.g 1), some (.int m), none, none], [], [(cs ++ [c]).map D.int, [.g 0, .int 0, .int b]]⟩, ⟨[some (.g 1), some (.int m), some (.int c), none], [], [cs.map D.int, [.g 0, .int c, .int b]]⟩, _, ?_, ?_, ?_, ⟨cs, c, b, rfl, hc'⟩, by simp⟩
            · simp [newL_0, n0]
            · simp [drawB_0, e, q, gOk]
            · simp [gc_eq]
          · refine ⟨⟨[some (.g 1), some (.int m), none, none], [], [(cs ++ [c]).map D.int, [.g 0, .int 0, .int b]]⟩, ⟨[some (.g 1), some (.int m), some (.int c), none], [], [cs.map D.int, [.g 0, .int 0, .int b]]⟩, _, ?_, ?_, ?_, ⟨cs, 0, b, rfl, hc'⟩, by simp⟩
            · simp [newL_0, n0]
            · simp [drawB_0, e, q, gOk]
            · simp [gc_eq]
      · left
        exact ⟨_, by simp [ha], cs, a, b, rfl, hc⟩)
    fuel ⟨[some (.g 1), some (.int m), none, none], [], g⟩ (by
      obtain ⟨cs, a, b, rfl, hc⟩ := h
      show (cs.map D.int).length < 1000000000000
      rw [List.length_map]; omega) (by
      obtain ⟨cs, a, b, rfl, hc⟩ := h
      exact ⟨cs, a, b, rfl, hc⟩)
  have m0 : m ≠ 0 := by omega
  by_cases q : 0 < a
  · have d : divOk a m = true := divOk_m (by omega) h2
    refine ⟨a.fmod m, _, ?_, ⟨cs, a.fdiv m, b, rfl, hc⟩, fmod_lt (by omega)⟩
    have g0 : ∀ d ∈ cs.map D.int, gOk d = true := fun d hd => List.all_eq_true.mp (gOk_ints cs) d hd
    simp [exD, drawB, e, q, m0, d, gOk]
  · have d : ∀ x, divOk x 7 = true := fun x => divOk_s (by decide) (by decide)
    have e1 : mulOk b 48271 = true := mulOk_r (by decide)
    have e2 := fmod_lt (a := b * 48271 + 13) (b := 2147483647) (by decide)
    have e3 : mulOk ((b * 48271 + 13).fmod 2147483647) ((b * 48271 + 13).fmod 2147483647) = true := mulOk_r (by omega)
    refine ⟨_, _, ?_, ⟨cs, a, (b * 48271 + 13).fmod 2147483647, rfl, hc⟩, fmod_lt (a := (((b * 48271 + 13).fmod 2147483647 * (b * 48271 + 13).fmod 2147483647).fmod 2147483629).fdiv 7) (by omega)⟩
    simp [exD, drawB, e, q, m0, d, e1, e3, gOk]
theorem pick_ok {j : Nat} {P2 : Pg} (hj : P.F j = exD P2 4 drawB) {g : List (List D)} (h : Bag g) {ds : List D} (h0 : 0 < ds.length) (h1 : ds.length < 1000000) (hr : okRets ds = true) :
    ∃ (i : Nat) (hi : i < ds.length) (g' : List (List D)), exD P 2 (oneB j) [.g 1, .lst ds] g = .ok (ds[i], g') ∧ Bag g' := by
  obtain ⟨r, g', e, hp, r0, r1⟩ := draw_ok (P := P2) h (m := ds.length) (by omega) (by omega)
  obtain ⟨i, rfl⟩ : ∃ i : Nat, r = (i : Int) := ⟨r.toNat, by omega⟩
  have hi : i < ds.length := by omega
  refine ⟨i, hi, g', ?_, hp⟩
  have e2 : P.F j [.g 1, .int ds.length] g = .ok (.int i, g') := by rw [hj]; exact e
  have e3 : ds[i]? = some ds[i] := List.getElem?_eq_getElem hi
  have e4 : ∀ w, give w ds[i] = some ds[i] := fun w => rs_ok _ (okRets_mem hr _ (List.getElem_mem hi))
  simp only [exD, oneB]
  simp [e2, ixI_nat hi, rsL_ok ds hr, -give_eq, e4, e3]
def bagC (ns : List Int) : List Int := (ns.take 63).map fun n => if n < 0 then -n else n
def bagM (s : Int) (cs : List Int) : Int := cs.foldl (fun a c => (a * 48271 + c.fmod 2147483629 + 5).fmod 2147483647) s
theorem bag_ok {ns : List Int} (hn : ns.length ≤ 63) : ∃ g', exD P 4 bagB [.sc (ns.map D.int)] [] = .ok (.g 1, g') ∧ Bag g' := by
  have c63 : cut (ns.map D.int) none (some 63) = (ns.take 63).map D.int := by
    rw [show (some 63 : Option Int) = some ((63 : Nat) : Int) from rfl, cut_to, List.map_take]
  have len : (bagC ns).length ≤ 63 := by unfold bagC; rw [List.length_map, List.length_take]; omega
  have L1 : ∀ (s : D), coL (asg (.nm 2)) (evC P .no) (evE P (.bi .abs 0 (.cons (.v 2) .nil))) (fun _ => true) [2] [some s, none, none, none] ((ns.take 63).map D.int) ⟨[some s, none, none, none], [], []⟩ [] = .ok ((bagC ns).map D.int, ⟨[some s, none, none, none], [], []⟩) := by
    intro s
    rw [coL_map (fun d => match d with | .int n => .int (if n < 0 then -n else n) | _ => .non) ((ns.take 63).map D.int) [] (Nat.le_trans (m := 63) (by simp; omega) (by decide)) (fun x hx r acc hacc => by
        obtain ⟨n, _, rfl⟩ := List.mem_map.mp hx
        simp [coL_cons, hacc])]
    unfold bagC
    rw [List.map_map, List.map_map, List.nil_append]
    rfl
  have L2 : ∀ (s : D) (c : List D) (cs : List Int) (a : Int), forL (asg (.nm 2)) (exB P bagB_0) (postF [2] false 0) (fun _ => true) (cs.map D.int) ⟨[some s, some (.lst c), none, some (.int a)], [], []⟩ = .ok (.nx, ⟨[some s, some (.lst c), none, some (.int (bagM a cs))], [], []⟩) := by
    intro s c cs
    induction cs with
    | nil => intro a; rfl
    | cons x cs ih =>
      intro a
      have e : mulOk a 48271 = true := mulOk_r (by decide)
      have := ih ((a * 48271 + x.fmod 2147483629 + 5).fmod 2147483647)
      simp [forL_cons, bagB_0, e]
      unfold bagB_0 at this
      rw [this]
      rfl
  refine ⟨[(bagC ns).reverse.map D.int, [.g 0, .int 0, .int (bagM (17539 + (bagC ns).length) (bagC ns))]], ?_, ⟨_, _, _, rfl, by rw [List.length_reverse]; exact len⟩⟩
  have l1 := L1 (.sc (ns.map D.int))
  have n1 : ∀ w, newL 0 (List.take 63 (ns.map D.int)) w = .ok (.lst (List.take 63 (ns.map D.int)), w) := fun w => newL_0 (le_mx (by rw [List.length_take]; omega))
  have n2 : ∀ w, newL 0 ((bagC ns).map D.int) w = .ok (.lst ((bagC ns).map D.int), w) := fun w => newL_0 (le_mx (by rw [List.length_map]; omega))
  have n3 : ∀ w, newL 2 ((bagC ns).reverse.map D.int) w = .ok (.g w.g.length, { w with g := w.g ++ [(bagC ns).reverse.map D.int] }) := fun w => newL_2 (le_mx (by rw [List.length_map, List.length_reverse]; omega)) (gOk_ints _)
  simp only [List.map_take] at l1 c63
  have n4 : ∀ (w : Wd) a, newL 2 [.g 0, .int 0, .int a] w = .ok (.g w.g.length, { w with g := w.g ++ [[.g 0, .int 0, .int a]] }) := fun w a => newL_2 (le_mx (show 3 ≤ 100000 by decide)) rfl
  simp only [List.map_reverse] at n3 ⊢
  simp [exD, bagB, c63, n1, n2, n3, n4, l1, L2]
end
end Fz

/-! Q23: rows told by a function; sizes in bits. -/
namespace Fz
open PySem
/-- the row of f 0 to f (m - 1) -/
def rl (m : Nat) (f : Nat → Int) : List D := (List.range m).map fun j => D.int (f j)
section
variable {m : Nat} {f g : Nat → Int}
@[simp] theorem rl_len : (rl m f).length = m := by simp [rl]
@[simp] theorem rl_at {i : Nat} {h : i < (rl m f).length} : (rl m f)[i] = .int (f i) := by simp [rl]
theorem rl_get {i : Nat} (h : i < m) : (rl m f)[i]? = some (.int (f i)) := by
  rw [List.getElem?_eq_getElem (by rw [rl_len]; exact h)]
  simp
theorem rl_congr (h : ∀ i, i < m → f i = g i) : rl m f = rl m g := by
  unfold rl
  exact List.map_congr_left fun j hj => by rw [h j (List.mem_range.mp hj)]
theorem rl_succ : rl (m + 1) f = rl m f ++ [.int (f m)] := by
  unfold rl
  rw [List.range_succ, List.map_append]
  rfl
theorem rl_set {i : Nat} {v : Int} : (rl m f).set i (.int v) = rl m fun j => if j = i then v else f j := by
  refine List.ext_getElem? fun j => ?_
  by_cases hj : j < m
  · rw [rl_get hj, List.getElem?_set]
    by_cases e : i = j
    · subst e
      rw [if_pos rfl, if_pos (by rw [rl_len]; exact hj), if_pos rfl]
    · rw [if_neg e, rl_get hj, if_neg (fun z => e z.symm)]
  · rw [List.getElem?_eq_none (by rw [List.length_set, rl_len]; omega), List.getElem?_eq_none (by rw [rl_len]; omega)]
theorem rl_take {k : Nat} (h : k ≤ m) : (rl m f).take k = rl k f := by
  unfold rl
  rw [← List.map_take, List.take_range, Nat.min_eq_left h]
theorem rl_ok : okRets (rl m f) = true := okRets_all fun d hd => by
  obtain ⟨j, _, rfl⟩ := List.mem_map.mp hd
  rfl
@[simp] theorem rl_lend {ρ : Nat → Option D} {φ : Bool} : rsL ρ φ (rl m f) = some (rl m f) := rsL_ok _ rl_ok
theorem rl_rep {v : Int} : (List.replicate m [D.int v]).flatten = rl m fun _ => v := by
  induction m with
  | zero => rfl
  | succ m ih =>
    rw [List.replicate_succ', List.flatten_append, ih, rl_succ]
    rfl
theorem rl_pl {k n : Nat} (h : ∀ i, i < m → (f i).natAbs < 10 ^ k) : Pls k n (rl m f) := Pls_all fun d hd => by
  obtain ⟨j, hj, rfl⟩ := List.mem_map.mp hd
  exact Pl_int.mpr (h j (List.mem_range.mp hj))
theorem rl_sz {k : Nat} : szBs k (rl m f) ≤ m * (k + 3) := by
  have := szBs_le (k := k) (ds := rl m f) (c := k + 1) fun d hd => by
    obtain ⟨j, _, rfl⟩ := List.mem_map.mp hd
    exact Nat.le_refl _
  rw [rl_len] at this
  exact this
theorem rl_ints : rl m f = ((List.range m).map f).map D.int := by
  unfold rl
  rw [List.map_map]
  rfl
end
/-! ### sizes -/
def Sz (b : Nat) (v : Int) : Prop := v.natAbs < 2 ^ b
theorem Sz.mul {a b : Nat} {u v : Int} (h1 : Sz a u) (h2 : Sz b v) : Sz (a + b) (u * v) := by
  unfold Sz at *
  rw [Int.natAbs_mul, Nat.pow_add]
  rcases Nat.eq_zero_or_pos v.natAbs with e | e
  · rw [e, Nat.mul_zero]
    exact Nat.mul_pos (Nat.pow_pos (by decide)) (Nat.pow_pos (by decide))
  · exact Nat.mul_lt_mul_of_lt_of_le h1 (Nat.le_of_lt h2) (Nat.pow_pos (by decide))
theorem Sz.mono {a b : Nat} {u : Int} (h1 : Sz a u) (h : a ≤ b) : Sz b u := Nat.lt_of_lt_of_le h1 (Nat.pow_le_pow_right (by decide) h)
theorem Sz.le {b : Nat} {u v : Int} (h : Sz b v) (h0 : 0 ≤ u) (h1 : u ≤ v) : Sz b u := by
  unfold Sz at *
  omega
theorem Sz.neg {b : Nat} {u : Int} (h : Sz b u) : Sz b (-u) := by
  unfold Sz at *
  rw [Int.natAbs_neg]
  exact h
theorem Sz.add {b c : Nat} {u v : Int} (h : Sz b u) (h2 : Sz c v) : Sz (max b c + 1) (u + v) := by
  have a1 := h.mono (Nat.le_max_left b c)
  have a2 := h2.mono (Nat.le_max_right b c)
  unfold Sz at *
  rw [Nat.pow_succ]
  omega
theorem Sz.sub {b c : Nat} {u v : Int} (h : Sz b u) (h2 : Sz c v) : Sz (max b c + 1) (u - v) := h.add h2.neg
theorem Sz.one : Sz 1 1 := by unfold Sz; decide
theorem Sz.zero {b : Nat} : Sz b 0 := by unfold Sz; exact Nat.pow_pos (by decide)
theorem Sz.pow {b : Nat} {v : Int} (h : Sz b v) : ∀ n : Nat, Sz (b * n + 1) (v ^ n)
  | 0 => by rw [Int.pow_zero]; exact Sz.one.mono (by omega)
  | n + 1 => by
    rw [Int.pow_succ]
    exact ((h.pow n).mul h).mono (by rw [Nat.mul_succ]; omega)
theorem Sz.mulOk {a b : Nat} {u v : Int} (h1 : Sz a u) (h2 : Sz b v) (ha : a ≤ 400000) (hb : b ≤ 400000) : mulOk u v = true := mulOk_b h1 h2 ha hb
theorem Sz.fdiv {a : Nat} {u v : Int} (h : Sz a u) (h0 : 0 ≤ u) (hv : 0 < v) : Sz a (u.fdiv v) := by
  refine h.le (Int.fdiv_nonneg h0 (by omega)) ?_
  rw [Int.fdiv_eq_ediv_of_nonneg _ (by omega)]
  exact Int.ediv_le_self _ h0
/-! ### powers -/
theorem pw_pos' {q : Int} (hq : 1 ≤ q) (n : Nat) : 1 ≤ q ^ n := by
  induction n with
  | zero => simp
  | succ n ih =>
    rw [Int.pow_succ]
    have := Int.mul_le_mul ih hq (by decide) (by omega)
    omega
theorem pw_le' {q : Int} (hq : 1 ≤ q) {i n : Nat} (h : i ≤ n) : q ^ i ≤ q ^ n := by
  obtain ⟨d, rfl⟩ : ∃ d, n = i + d := ⟨n - i, by omega⟩
  rw [Int.pow_add]
  have h1 := pw_pos' hq i
  have h2 := pw_pos' hq d
  have := Int.mul_le_mul_of_nonneg_left h2 (show 0 ≤ q ^ i by omega)
  omega
end Fz
namespace Fz
open PySem
theorem fmod_nat (a b : Nat) : Int.fmod (a : Int) (b : Int) = ((a % b : Nat) : Int) := by
  rw [Int.fmod_eq_emod_of_nonneg _ (by omega)]
  exact (Int.natCast_emod a b).symm
theorem fdiv_nat (a b : Nat) : Int.fdiv (a : Int) (b : Int) = ((a / b : Nat) : Int) := by
  rw [Int.fdiv_eq_ediv_of_nonneg _ (by omega)]
  exact (Int.natCast_ediv a b).symm
theorem divOk_log {i j : Int} (h : 0 < j) (h2 : Sz 9000 j) : divOk i j = true := by
  unfold divOk
  have : Builtin.divisionGoesByPylong i j = false := PyProof.noPylong_of_log2 ((Nat.log2_lt (by omega)).mpr h2)
  rw [decide_eq_true (show j ≠ 0 by omega), this]
  simp
theorem divOk_q {g w : Int} (hg : Sz 4000 g) (hw : 1 ≤ w) : divOk (g * w) w = true := by
  have h0 : w ≠ 0 := by omega
  have : Builtin.divisionGoesByPylong (g * w) w = false := by
    unfold Builtin.divisionGoesByPylong
    by_cases z : g * w = 0
    · simp [z]
    · have e : (g * w).natAbs.log2 ≤ w.natAbs.log2 + 4001 := by
        have l1 : w.natAbs < 2 ^ (w.natAbs.log2 + 1) := Nat.lt_log2_self
        have l2 : (g * w).natAbs < 2 ^ (w.natAbs.log2 + 4001) := by
          rw [Int.natAbs_mul, show w.natAbs.log2 + 4001 = 4000 + (w.natAbs.log2 + 1) by omega, Nat.pow_add]
          have p : 0 < (2 : Nat) ^ 4000 := Nat.pow_pos (by decide)
          exact Nat.lt_of_le_of_lt (Nat.mul_le_mul_right _ (Nat.le_of_lt hg)) (Nat.mul_lt_mul_of_pos_left l1 p)
        have := (Nat.log2_lt (show (g * w).natAbs ≠ 0 by omega)).mpr l2
        omega
      simp [h0, z]
      intro _
      have d1 := Nat.div_add_mod ((g * w).natAbs.log2) 30
      have d2 := Nat.div_add_mod (w.natAbs.log2) 30
      omega
  unfold divOk
  rw [this, decide_eq_true h0]
  simp
end Fz

/-! Q24: how many spaces there are: products and quotients. -/
namespace Fz
open PySem
def fl (q : Int) (n : Nat) : Nat → Int
  | 0 => 1
  | k + 1 => fl q n k * (q ^ n - q ^ k)
def G (q : Int) : Nat → Nat → Int
  | _, 0 => 1
  | 0, _ + 1 => 0
  | n + 1, k + 1 => G q n k + q ^ (k + 1) * G q n (k + 1)
section
variable {q : Int}
theorem fl_front (n : Nat) : ∀ k, fl q (n + 1) (k + 1) = (q ^ (n + 1) - 1) * q ^ k * fl q n k
  | 0 => by simp [fl]
  | k + 1 => by
    have ih := fl_front n k
    rw [fl, ih, fl]
    rw [Int.pow_succ q n, Int.pow_succ q k]
    grind
theorem fl_big : ∀ {n k : Nat}, n < k → fl q n k = 0
  | n, k + 1, h => by
    by_cases e : n = k
    · subst e; simp [fl]
    · rw [fl, fl_big (show n < k by omega)]; simp
theorem fl_G : ∀ n k, fl q n k = G q n k * fl q k k
  | n, 0 => by cases n <;> simp [fl, G]
  | 0, k + 1 => by rw [fl_big (Nat.zero_lt_succ _)]; simp [G]
  | n + 1, k + 1 => by
    have h1 := fl_G n k
    have h2 := fl_G n (k + 1)
    have h3 := fl_front (q := q) k k
    have h4 := fl_front (q := q) n k
    have h5 : fl q n (k + 1) = fl q n k * (q ^ n - q ^ k) := rfl
    rw [G]
    rw [Int.pow_succ q k, Int.pow_succ q n] at *
    grind
theorem fl_more (n k : Nat) (h : k ≤ n) : ∀ m, fl q n (k + m) = fl q n k * q ^ (k * m) * fl q (n - k) m
  | 0 => by simp [fl]
  | m + 1 => by
    have ih := fl_more n k h m
    show fl q n (k + m) * (q ^ n - q ^ (k + m)) = _
    rw [ih, fl, Nat.mul_succ, Int.pow_add, Int.pow_add, show q ^ n = q ^ k * q ^ (n - k) by rw [← Int.pow_add]; congr 1; omega]
    grind
variable (hq : 2 ≤ q)
include hq
theorem pw_pos (n : Nat) : 1 ≤ q ^ n := by
  induction n with
  | zero => simp
  | succ n ih =>
    rw [Int.pow_succ]
    have := Int.mul_le_mul ih (show 1 ≤ q by omega) (by decide) (by omega)
    omega
theorem pw_lt {i n : Nat} (h : i < n) : q ^ i < q ^ n := by
  obtain ⟨d, rfl⟩ : ∃ d, n = i + (d + 1) := ⟨n - i - 1, by omega⟩
  rw [Int.pow_add]
  have h1 := pw_pos hq i
  have h2 := pw_pos hq d
  have h3 : 2 ≤ q ^ (d + 1) := by
    rw [Int.pow_succ]
    have := Int.mul_le_mul h2 hq (by decide) (by omega)
    omega
  have := Int.mul_le_mul_of_nonneg_left h3 (show 0 ≤ q ^ i by omega)
  omega
theorem fl_pos {n : Nat} : ∀ {k}, k ≤ n → 1 ≤ fl q n k
  | 0, _ => by simp [fl]
  | k + 1, h => by
    have h1 := fl_pos (n := n) (k := k) (by omega)
    have h2 := pw_lt hq (show k < n by omega)
    rw [fl]
    have := Int.mul_le_mul h1 (show 1 ≤ q ^ n - q ^ k by omega) (by decide) (by omega)
    omega
theorem G_pos : ∀ n k, 0 ≤ G q n k
  | _, 0 => by simp [G]
  | 0, _ + 1 => by simp [G]
  | n + 1, k + 1 => by
    rw [G]
    have h1 := G_pos n k
    have h2 := G_pos n (k + 1)
    have h3 := pw_pos hq (k + 1)
    have := Int.mul_nonneg (show 0 ≤ q ^ (k + 1) by omega) h2
    omega
theorem quo {n k : Nat} : (fl q n k).fdiv (fl q k k) = G q n k := by
  rw [fl_G n k]
  have := fl_pos hq (Nat.le_refl k)
  exact Int.mul_fdiv_cancel _ (by omega)
theorem sym {n k : Nat} (h : k ≤ n) : G q n (n - k) = G q n k := by
  have key : ∀ {k : Nat}, k ≤ n → fl q n n = G q n k * (fl q k k * q ^ (k * (n - k)) * fl q (n - k) (n - k)) := by
    intro k h
    have := fl_more (q := q) n k h (n - k)
    rw [show k + (n - k) = n by omega] at this
    rw [this, fl_G n k]
    grind
  have h1 := key h
  have h2 := key (k := n - k) (by omega)
  rw [show n - (n - k) = k by omega, Nat.mul_comm (n - k) k] at h2
  have p1 := fl_pos hq (Nat.le_refl k)
  have p2 := fl_pos hq (Nat.le_refl (n - k))
  have p3 := pw_pos hq (k * (n - k))
  have p4 : fl q k k * q ^ (k * (n - k)) * fl q (n - k) (n - k) ≠ 0 := by
    have := Int.mul_pos (Int.mul_pos (show 0 < fl q k k by omega) (show 0 < q ^ (k * (n - k)) by omega)) (show 0 < fl q (n - k) (n - k) by omega)
    omega
  refine Int.eq_of_mul_eq_mul_right p4 ?_
  rw [← h1, h2]
  grind
theorem G_big : ∀ {n k : Nat}, n < k → G q n k = 0
  | 0, k + 1, _ => by simp [G]
  | n + 1, k + 1, h => by rw [G, G_big (show n < k by omega), G_big (show n < k + 1 by omega)]; simp
theorem pw_le {i n : Nat} (h : i ≤ n) : q ^ i ≤ q ^ n := by
  rcases Nat.lt_or_eq_of_le h with h | rfl
  · exact Int.le_of_lt (pw_lt hq h)
  · exact Int.le_refl _
theorem G_le : ∀ {n k : Nat}, k ≤ n → G q n k ≤ 2 ^ n * q ^ (k * (n - k))
  | n, 0, _ => by
    have : (1 : Int) ≤ 2 ^ n := pw_pos (q := 2) (by decide) n
    cases n <;> simp [G] <;> omega
  | n + 1, k + 1, h => by
    have h1 := G_le (n := n) (k := k) (by omega)
    have e1 : k * (n - k) ≤ (k + 1) * (n - k) := Nat.mul_le_mul_right _ (by omega)
    have e2 := pw_le hq e1
    have p2 : (1 : Int) ≤ 2 ^ n := pw_pos (q := 2) (by decide) n
    have e3 := Int.mul_le_mul_of_nonneg_left e2 (show (0 : Int) ≤ 2 ^ n by omega)
    rw [G, show n + 1 - (k + 1) = n - k by omega, Int.pow_succ 2 n]
    by_cases hk : k < n
    · have h2 := G_le (n := n) (k := k + 1) (by omega)
      have p := pw_pos hq (k + 1)
      have h3 := Int.mul_le_mul_of_nonneg_left h2 (show 0 ≤ q ^ (k + 1) by omega)
      have e4 : q ^ (k + 1) * (2 ^ n * q ^ ((k + 1) * (n - (k + 1)))) = 2 ^ n * q ^ ((k + 1) * (n - k)) := by
        rw [show (k + 1) * (n - k) = (k + 1) + (k + 1) * (n - (k + 1)) by rw [show n - k = (n - (k + 1)) + 1 by omega, Nat.mul_succ]; omega, Int.pow_add]
        grind
      rw [e4] at h3
      generalize q ^ (k + 1) * G q n (k + 1) = z at *
      grind
    · rw [G_big hq (show n < k + 1 by omega)]
      have p3 := pw_pos hq ((k + 1) * (n - k))
      have := Int.mul_nonneg (show (0 : Int) ≤ 2 ^ n by omega) (show 0 ≤ q ^ ((k + 1) * (n - k)) by omega)
      grind
end
end Fz

/-! the program of k60 in own syntax (printed by wip/gen.py) -/
namespace K60
open PySem Fz
def topS (i : Nat) : Stmt := PySem.Challenge.pw_formspaces_k60_whole_kind_numbers.main.body.getD i (.Pass ⟨0, 0, 0, 0⟩)
/-- 0 power_of: 0=number 1=often 2=found 3=step -/
def b0_0 : List S := [
  .set (.nm 2) (.op .mul 0 (.v 2) (.v 0))]
def b0 : List S := [
  .set (.nm 2) (.k (.int 1)),
  .for (.nm 3) (.rng (.cons (.v 1) .nil)) b0_0 [3] false,
  .ret (.v 2)]
/-- 1 falls: 0=q 1=n 2=k 3=found 4=i -/
def b1_0 : List S := [
  .set (.nm 3) (.op .mul 0 (.v 3) (.op .sub 0 (.call 0 none (.cons (.v 0) (.cons (.v 1) .nil)) .nil) (.call 0 none (.cons (.v 0) (.cons (.v 4) .nil)) .nil)))]
def b1 : List S := [
  .set (.nm 3) (.k (.int 1)),
  .for (.nm 4) (.rng (.cons (.v 2) .nil)) b1_0 [4] false,
  .ret (.v 3)]
/-- 2 spaces_number: 0=q 1=n 2=k -/
def b2 : List S := [
  .ret (.ite (.cm .le (.v 2) (.v 1)) (.op .fdiv 0 (.call 1 none (.cons (.v 0) (.cons (.v 1) (.cons (.v 2) .nil))) .nil) (.call 1 none (.cons (.v 0) (.cons (.v 2) (.cons (.v 2) .nil))) .nil)) (.k (.int 0)))]
/-- 3 squares_number: 0=q 1=n -/
def b3 : List S := [
  .ret (.call 1 none (.cons (.v 0) (.cons (.v 1) (.cons (.v 1) .nil))) .nil)]
/-- 4 odd_product: 0=q 1=k 2=found 3=i -/
def b4_0 : List S := [
  .set (.nm 2) (.op .mul 0 (.v 2) (.op .sub 0 (.call 0 none (.cons (.v 0) (.cons (.op .sub 0 (.op .mul 0 (.k (.int 2)) (.v 3)) (.k (.int 1))) .nil)) .nil) (.k (.int 1))))]
def b4 : List S := [
  .set (.nm 2) (.k (.int 1)),
  .for (.nm 3) (.rng (.cons (.k (.int 1)) (.cons (.op .add 0 (.v 1) (.k (.int 1))) .nil))) b4_0 [3] false,
  .ret (.v 2)]
/-- 5 same_number: 0=q 1=n 2=r 3=k 4=power -/
def b5 : List S := [
  .set (.nm 3) (.op .fdiv 0 (.bi .int 0 (.cons (.op .add 0 (.v 2) (.k (.int 1))) .nil)) (.k (.int 2))),
  .set (.nm 4) (.ite (.cm .eq (.op .mod 0 (.v 2) (.k (.int 2))) (.k (.int 1))) (.op .mul 0 (.v 3) (.op .sub 0 (.v 3) (.k (.int 1)))) (.op .mul 0 (.v 3) (.op .add 0 (.v 3) (.k (.int 1))))),
  .ret (.op .mul 0 (.op .mul 0 (.call 2 none (.cons (.v 0) (.cons (.v 1) (.cons (.v 2) .nil))) .nil) (.call 0 none (.cons (.v 0) (.cons (.v 4) .nil)) .nil)) (.call 4 none (.cons (.v 0) (.cons (.v 3) .nil)) .nil))]
/-- 6 alternating_number: 0=q 1=n 2=r 3=k -/
def b6 : List S := [
  .ite (.cm .eq (.op .mod 0 (.v 2) (.k (.int 2))) (.k (.int 1))) [
    .ret (.k (.int 0))] [],
  .set (.nm 3) (.op .fdiv 0 (.v 2) (.k (.int 2))),
  .ret (.op .mul 0 (.op .mul 0 (.call 2 none (.cons (.v 0) (.cons (.v 1) (.cons (.v 2) .nil))) .nil) (.call 0 none (.cons (.v 0) (.cons (.op .mul 0 (.v 3) (.op .sub 0 (.v 3) (.k (.int 1)))) .nil)) .nil)) (.call 4 none (.cons (.v 0) (.cons (.v 3) .nil)) .nil))]
/-- 7 kind_number: 0=p 1=n 2=kind 3=r 4=half 5=sign -/
def b7 : List S := [
  .set (.nm 3) (.ix (.v 2) (.k (.int 1))),
  .ite (.cm .eq (.ix (.v 2) (.k (.int 0))) (.k (.str "alternating"))) [
    .ret (.call 6 none (.cons (.v 0) (.cons (.v 1) (.cons (.v 3) .nil))) .nil)] [],
  .ite (.cm .eq (.v 0) (.k (.int 2))) [
    .ret (.op .sub 0 (.call 5 none (.cons (.k (.int 2)) (.cons (.v 1) (.cons (.v 3) .nil))) .nil) (.call 6 none (.cons (.k (.int 2)) (.cons (.v 1) (.cons (.v 3) .nil))) .nil))] [],
  .ite (.cm .eq (.op .mod 0 (.v 3) (.k (.int 2))) (.k (.int 1))) [
    .ret (.op .fdiv 0 (.call 5 none (.cons (.v 0) (.cons (.v 1) (.cons (.v 3) .nil))) .nil) (.k (.int 2)))] [],
  .set (.nm 4) (.call 0 none (.cons (.v 0) (.cons (.op .fdiv 0 (.v 3) (.k (.int 2))) .nil)) .nil),
  .set (.nm 5) (.ite (.or (.cm .eq (.op .mod 0 (.v 0) (.k (.int 4))) (.k (.int 1))) (.cm .eq (.op .mod 0 (.v 3) (.k (.int 4))) (.k (.int 0)))) (.ix (.v 2) (.k (.int 2))) (.neg (.ix (.v 2) (.k (.int 2))))),
  .ret (.op .fdiv 0 (.op .mul 0 (.call 5 none (.cons (.v 0) (.cons (.v 1) (.cons (.v 3) .nil))) .nil) (.op .add 0 (.v 4) (.v 5))) (.op .mul 0 (.k (.int 2)) (.v 4)))]
/-- 8 kinds_row: 0=p 1=n 2=kinds 3=r 4=kind -/
def e8_0 : E := (.tup (.cons (.k (.str "alternating")) (.cons (.v 3) .nil)))
def b8_0 : List S := [
  .ex (.me .extend (.v 2) (.cons (.ite (.cm .eq (.v 0) (.k (.int 2))) (.lst 0 (.cons (.tup (.cons (.k (.str "same")) (.cons (.v 3) .nil))) .nil)) (.lst 0 (.cons (.tup (.cons (.k (.str "same")) (.cons (.v 3) (.cons (.k (.int 1)) .nil)))) (.cons (.tup (.cons (.k (.str "same")) (.cons (.v 3) (.cons (.neg (.k (.int 1))) .nil)))) .nil)))) .nil))]
def e8_1 : E := (.tup (.cons (.v 4) (.cons (.call 7 none (.cons (.v 0) (.cons (.v 1) (.cons (.v 4) .nil))) .nil) .nil)))
def b8 : List S := [
  .set (.nm 2) (.co 1 (.nm 3) (.rng (.cons (.k (.int 0)) (.cons (.op .add 0 (.v 1) (.k (.int 1))) (.cons (.k (.int 2)) .nil)))) .no e8_0 [3]),
  .for (.nm 3) (.rng (.cons (.k (.int 1)) (.cons (.op .add 0 (.v 1) (.k (.int 1))) .nil))) b8_0 [3] false,
  .ret (.bi .tuple 0 (.cons (.co 0 (.nm 4) (.seq (.v 2)) .no e8_1 [4]) .nil))]
/-- 9 keepers_number: 0=p 1=n 2=kind -/
def b9 : List S := [
  .ret (.op .fdiv 0 (.call 3 none (.cons (.v 0) (.cons (.v 1) .nil)) .nil) (.call 7 none (.cons (.v 0) (.cons (.v 1) (.cons (.v 2) .nil))) .nil))]
/-- 10 form_kind_number: 0=p 1=n 2=form_kind 3=r 4=sign 5=k 6=found 7=four -/
def b10 : List S := [
  .set (.tu [.nm 3, .nm 4]) (.v 2),
  .set (.nm 5) (.op .fdiv 0 (.v 3) (.k (.int 2))),
  .ite (.cm .eq (.v 0) (.k (.int 2))) [
    .set (.tu [.nm 6, .nm 7]) (.tup (.cons (.call 6 none (.cons (.k (.int 2)) (.cons (.v 1) (.cons (.op .mul 0 (.k (.int 2)) (.v 5)) .nil))) .nil) (.cons (.call 0 none (.cons (.k (.int 4)) (.cons (.v 5) .nil)) .nil) .nil))),
    .ite (.cm .eq (.op .mod 0 (.v 3) (.k (.int 2))) (.k (.int 1))) [
      .ret (.op .mul 0 (.v 6) (.op .sub 0 (.call 0 none (.cons (.k (.int 2)) (.cons (.v 1) .nil)) .nil) (.v 7)))] [],
    .ret (.op .mul 0 (.v 6) (.op .fdiv 0 (.op .add 0 (.v 7) (.op .mul 0 (.v 4) (.call 0 none (.cons (.k (.int 2)) (.cons (.v 5) .nil)) .nil))) (.k (.int 2))))] [],
  .ite (.cm .eq (.v 3) (.k (.int 0))) [
    .ret (.k (.int 1))] [],
  .ite (.cm .eq (.op .mod 0 (.v 3) (.k (.int 2))) (.k (.int 1))) [
    .ret (.op .fdiv 0 (.call 5 none (.cons (.v 0) (.cons (.v 1) (.cons (.v 3) .nil))) .nil) (.k (.int 2)))] [],
  .ret (.op .fdiv 0 (.op .mul 0 (.call 5 none (.cons (.v 0) (.cons (.v 1) (.cons (.v 3) .nil))) .nil) (.op .add 0 (.call 0 none (.cons (.v 0) (.cons (.v 5) .nil)) .nil) (.v 4))) (.op .mul 0 (.k (.int 2)) (.call 0 none (.cons (.v 0) (.cons (.v 5) .nil)) .nil)))]
/-- 11 _law_bag: 0=script 1=cells 2=cell 3=mixed -/
def e11_0 : E := (.bi .abs 0 (.cons (.v 2) .nil))
def b11_0 : List S := [
  .set (.nm 3) (.op .mod 0 (.bi .int 0 (.cons (.op .add 0 (.op .add 0 (.op .mul 0 (.v 3) (.k (.int 48271))) (.op .mod 0 (.bi .int 0 (.cons (.v 2) .nil)) (.k (.int 2147483629)))) (.k (.int 5))) .nil)) (.k (.int 2147483647)))]
def b11 : List S := [
  .set (.nm 1) (.co 0 (.nm 2) (.seq (.sl 0 (.v 0) .no (.so (.k (.int 63))))) .no e11_0 [2]),
  .set (.nm 3) (.op .add 0 (.k (.int 17539)) (.bi .len 0 (.cons (.v 1) .nil))),
  .for (.nm 2) (.seq (.v 1)) b11_0 [2] false,
  .ret (.lst 2 (.cons (.rev 2 (.v 1)) (.cons (.k (.int 0)) (.cons (.v 3) .nil))))]
/-- 12 _law_draw: 0=bag 1=below 2=cell 3=found -/
def b12_0 : List S := [
  .set (.nm 2) (.me .pop (.ix (.v 0) (.k (.int 0))) .nil),
  .put (.v 0) (.k (.int 1)) (.ite (.cm .gt (.v 2) (.op .pow 0 (.k (.int 10)) (.k (.int 9)))) (.v 2) (.k (.int 0)))]
def b12 : List S := [
  .whl (.an (.cm .eq (.ix (.v 0) (.k (.int 1))) (.k (.int 0))) (.cm .ne (.ix (.v 0) (.k (.int 0))) (.lst 0 .nil))) b12_0 [2] true,
  .ite (.cm .gt (.ix (.v 0) (.k (.int 1))) (.k (.int 0))) [
    .set (.nm 3) (.op .mod 0 (.bi .int 0 (.cons (.ix (.v 0) (.k (.int 1))) .nil)) (.v 1)),
    .put (.v 0) (.k (.int 1)) (.op .fdiv 1 (.ix (.v 0) (.k (.int 1))) (.v 1)),
    .ret (.v 3)] [],
  .put (.v 0) (.k (.int 2)) (.op .mod 1 (.bi .int 0 (.cons (.op .add 0 (.op .mul 0 (.ix (.v 0) (.k (.int 2))) (.k (.int 48271))) (.k (.int 13))) .nil)) (.k (.int 2147483647))),
  .ret (.op .mod 0 (.bi .int 0 (.cons (.op .fdiv 0 (.op .mod 0 (.bi .int 0 (.cons (.op .mul 0 (.ix (.v 0) (.k (.int 2))) (.ix (.v 0) (.k (.int 2)))) .nil)) (.k (.int 2147483629))) (.k (.int 7))) .nil)) (.v 1))]
/-- 13 _law_pick: 0=bag 1=some -/
def b13 : List S := [
  .ret (.ix (.v 1) (.call 12 none (.cons (.v 0) (.cons (.bi .len 0 (.cons (.v 1) .nil)) .nil)) .nil))]
/-- 14 _law_powers: 0=q 1=most 2=found 3=turn -/
def b14_0 : List S := [
  .ex (.me .append (.v 2) (.cons (.op .mul 0 (.ix (.v 2) (.neg (.k (.int 1)))) (.v 0)) .nil))]
def b14 : List S := [
  .set (.nm 2) (.lst 1 (.cons (.k (.int 1)) .nil)),
  .for (.nm 3) (.rng (.cons (.v 1) .nil)) b14_0 [3] false,
  .ret (.v 2)]
/-- 15 _law_ways: 0=powers 1=n 2=r 3=sort 4=low -/
def b15 : List S := [
  .ite (.cm .eq (.v 3) (.k (.str "same"))) [
    .ret (.tup (.cons (.ix (.v 0) (.v 2)) (.cons (.op .sub 0 (.ix (.v 0) (.op .add 0 (.v 2) (.k (.int 1)))) (.ix (.v 0) (.v 2))) (.cons (.op .sub 0 (.ix (.v 0) (.op .add 0 (.v 1) (.k (.int 1)))) (.ix (.v 0) (.op .add 0 (.v 2) (.k (.int 1))))) .nil))))] [],
  .ite (.cm .eq (.v 3) (.k (.str "alternating"))) [
    .ret (.tup (.cons (.ix (.v 0) (.v 2)) (.cons (.k (.int 0)) (.cons (.op .sub 0 (.ix (.v 0) (.v 1)) (.ix (.v 0) (.v 2))) .nil))))] [],
  .set (.nm 4) (.op .mul 0 (.k (.int 2)) (.v 2)),
  .ret (.tup (.cons (.ix (.v 0) (.v 4)) (.cons (.op .sub 0 (.ix (.v 0) (.op .add 0 (.v 4) (.k (.int 1)))) (.ix (.v 0) (.v 4))) (.cons (.op .sub 0 (.ix (.v 0) (.op .add 0 (.op .mul 0 (.k (.int 2)) (.v 1)) (.k (.int 1)))) (.ix (.v 0) (.op .add 0 (.v 4) (.k (.int 1))))) .nil))))]
/-- 16 _law_ranks: 0=q 1=n 2=sort 3=row 4=powers 5=size 6=later 7=r 8=many 9=zero 10=one 11=two -/
def b16_0 : List S := [
  .set (.tu [.nm 9, .nm 10, .nm 11]) (.call 15 none (.cons (.v 4) (.cons (.v 5) (.cons (.v 7) (.cons (.v 2) .nil)))) .nil),
  .put (.v 6) (.v 7) (.op .add 0 (.ix (.v 6) (.v 7)) (.op .mul 0 (.v 8) (.v 9))),
  .put (.v 6) (.op .add 0 (.v 7) (.k (.int 1))) (.op .add 0 (.ix (.v 6) (.op .add 0 (.v 7) (.k (.int 1)))) (.op .mul 0 (.v 8) (.v 10))),
  .put (.v 6) (.op .add 0 (.v 7) (.k (.int 2))) (.op .add 0 (.ix (.v 6) (.op .add 0 (.v 7) (.k (.int 2)))) (.op .mul 0 (.v 8) (.v 11)))]
def b16_1 : List S := [
  .set (.nm 6) (.op .mul 1 (.lst 0 (.cons (.k (.int 0)) .nil)) (.op .add 0 (.v 5) (.k (.int 4)))),
  .for (.tu [.nm 7, .nm 8]) (.enu (.v 3)) b16_0 [7, 8, 9, 10, 11] false,
  .set (.nm 3) (.sl 0 (.v 6) .no (.so (.op .add 0 (.v 5) (.k (.int 2)))))]
def b16 : List S := [
  .set (.tu [.nm 3, .nm 4]) (.tup (.cons (.lst 0 (.cons (.k (.int 1)) .nil)) (.cons (.call 14 none (.cons (.v 0) (.cons (.op .add 0 (.op .mul 0 (.k (.int 2)) (.v 1)) (.k (.int 2))) .nil)) .nil) .nil))),
  .for (.nm 5) (.rng (.cons (.v 1) .nil)) b16_1 [5, 6, 7, 8, 9, 10, 11] true,
  .ret (.bi .tuple 0 (.cons (.v 3) .nil))]
/-- 17 _law_power: 0=q 1=n 2=found 3=turn -/
def b17_0 : List S := [
  .set (.nm 2) (.op .mul 0 (.v 2) (.v 0))]
def b17 : List S := [
  .set (.nm 2) (.k (.int 1)),
  .for (.nm 3) (.rng (.cons (.v 1) .nil)) b17_0 [3] false,
  .ret (.v 2)]
/-- 18 _law_put: 0=p 1=n 2=r 3=k 4=sign 5=is_put 6=power 7=many -/
def b18 : List S := [
  .set (.tu [.nm 6, .nm 7]) (.tup (.cons (.call 17 none (.cons (.v 0) (.cons (.v 3) .nil)) .nil) (.cons (.ix (.call 16 none (.cons (.v 0) (.cons (.v 1) (.cons (.k (.str "same")) .nil))) .nil) (.v 2)) .nil))),
  .ret (.op .fdiv 0 (.op .mul 0 (.v 7) (.op .add 0 (.v 6) (.ite (.v 5) (.v 4) (.op .sub 0 (.k (.int 0)) (.v 4))))) (.op .mul 0 (.k (.int 2)) (.v 6)))]
/-- 19 _law_kind_number: 0=p 1=n 2=kind 3=r 4=many -/
def b19 : List S := [
  .set (.nm 3) (.ix (.v 2) (.k (.int 1))),
  .ite (.cm .eq (.ix (.v 2) (.k (.int 0))) (.k (.str "alternating"))) [
    .ret (.ix (.call 16 none (.cons (.v 0) (.cons (.v 1) (.cons (.k (.str "alternating")) .nil))) .nil) (.v 3))] [],
  .set (.nm 4) (.ix (.call 16 none (.cons (.v 0) (.cons (.v 1) (.cons (.k (.str "same")) .nil))) .nil) (.v 3)),
  .ite (.cm .eq (.v 0) (.k (.int 2))) [
    .ret (.op .sub 0 (.v 4) (.ix (.call 16 none (.cons (.k (.int 2)) (.cons (.v 1) (.cons (.k (.str "alternating")) .nil))) .nil) (.v 3)))] [],
  .ite (.cm .eq (.op .band 0 (.v 3) (.k (.int 1))) (.k (.int 1))) [
    .ret (.op .fdiv 0 (.v 4) (.k (.int 2)))] [],
  .ret (.call 18 none (.cons (.v 0) (.cons (.v 1) (.cons (.v 3) (.cons (.op .fdiv 0 (.v 3) (.k (.int 2))) (.cons (.ix (.v 2) (.k (.int 2))) (.cons (.or (.cm .eq (.op .band 0 (.v 0) (.k (.int 3))) (.k (.int 1))) (.cm .eq (.op .band 0 (.v 3) (.k (.int 3))) (.k (.int 0)))) .nil)))))) .nil)]
/-- 20 _law_kinds: 0=p 1=n 2=found 3=r -/
def e20_0 : E := (.tup (.cons (.k (.str "alternating")) (.cons (.v 3) .nil)))
def b20_0 : List S := [
  .ex (.me .extend (.v 2) (.cons (.ite (.cm .eq (.v 0) (.k (.int 2))) (.lst 0 (.cons (.tup (.cons (.k (.str "same")) (.cons (.v 3) .nil))) .nil)) (.lst 0 (.cons (.tup (.cons (.k (.str "same")) (.cons (.v 3) (.cons (.k (.int 1)) .nil)))) (.cons (.tup (.cons (.k (.str "same")) (.cons (.v 3) (.cons (.neg (.k (.int 1))) .nil)))) .nil)))) .nil))]
def b20 : List S := [
  .set (.nm 2) (.co 1 (.nm 3) (.rng (.cons (.k (.int 0)) (.cons (.op .add 0 (.v 1) (.k (.int 1))) (.cons (.k (.int 2)) .nil)))) .no e20_0 [3]),
  .for (.nm 3) (.rng (.cons (.k (.int 1)) (.cons (.op .add 0 (.v 1) (.k (.int 1))) .nil))) b20_0 [3] false,
  .ret (.v 2)]
/-- 21 _law_squares: 0=p 1=n 2=found 3=high 4=i -/
def b21_0 : List S := [
  .set (.nm 2) (.op .mul 0 (.v 2) (.op .sub 0 (.v 3) (.call 17 none (.cons (.v 0) (.cons (.v 4) .nil)) .nil)))]
def b21 : List S := [
  .set (.tu [.nm 2, .nm 3]) (.tup (.cons (.k (.int 1)) (.cons (.call 17 none (.cons (.v 0) (.cons (.v 1) .nil)) .nil) .nil))),
  .for (.nm 4) (.rng (.cons (.v 1) .nil)) b21_0 [4] false,
  .ret (.v 2)]
/-- 22 _law_form_number: 0=p 1=n 2=kind 3=r 4=sign 5=k 6=many -/
def b22 : List S := [
  .set (.tu [.nm 3, .nm 4]) (.v 2),
  .set (.nm 5) (.op .fdiv 0 (.v 3) (.k (.int 2))),
  .ite (.cm .gt (.v 0) (.k (.int 2))) [
    .set (.nm 6) (.ix (.call 16 none (.cons (.v 0) (.cons (.v 1) (.cons (.k (.str "same")) .nil))) .nil) (.v 3)),
    .ite (.cm .eq (.v 3) (.k (.int 0))) [
      .ret (.k (.int 1))] [],
    .ret (.ite (.cm .eq (.op .band 0 (.v 3) (.k (.int 1))) (.k (.int 1))) (.op .fdiv 0 (.v 6) (.k (.int 2))) (.op .fdiv 0 (.op .mul 0 (.v 6) (.op .add 0 (.call 17 none (.cons (.v 0) (.cons (.v 5) .nil)) .nil) (.v 4))) (.op .mul 0 (.k (.int 2)) (.call 17 none (.cons (.v 0) (.cons (.v 5) .nil)) .nil))))] [],
  .set (.nm 6) (.ix (.call 16 none (.cons (.k (.int 2)) (.cons (.v 1) (.cons (.k (.str "alternating")) .nil))) .nil) (.op .mul 0 (.k (.int 2)) (.v 5))),
  .ite (.cm .eq (.op .band 0 (.v 3) (.k (.int 1))) (.k (.int 0))) [
    .ret (.op .mul 0 (.v 6) (.op .fdiv 0 (.op .add 0 (.call 17 none (.cons (.k (.int 4)) (.cons (.v 5) .nil)) .nil) (.op .mul 0 (.v 4) (.call 17 none (.cons (.k (.int 2)) (.cons (.v 5) .nil)) .nil))) (.k (.int 2))))] [],
  .ret (.op .mul 0 (.v 6) (.op .sub 0 (.call 17 none (.cons (.k (.int 2)) (.cons (.v 1) .nil)) .nil) (.call 17 none (.cons (.k (.int 4)) (.cons (.v 5) .nil)) .nil)))]
/-- 23 _law_form_kinds: 0=p 1=n 2=found 3=r -/
def b23_0 : List S := [
  .ex (.me .extend (.v 2) (.cons (.ite (.an (.cm .eq (.v 0) (.k (.int 2))) (.cm .eq (.op .band 0 (.v 3) (.k (.int 1))) (.k (.int 1)))) (.lst 0 (.cons (.tup (.cons (.v 3) (.cons (.k (.int 0)) .nil))) .nil)) (.lst 0 (.cons (.tup (.cons (.v 3) (.cons (.k (.int 1)) .nil))) (.cons (.tup (.cons (.v 3) (.cons (.neg (.k (.int 1))) .nil))) .nil)))) .nil))]
def b23 : List S := [
  .set (.nm 2) (.lst 1 (.cons (.tup (.cons (.k (.int 0)) (.cons (.k (.int 1)) .nil))) .nil)),
  .for (.nm 3) (.rng (.cons (.k (.int 1)) (.cons (.op .add 0 (.v 1) (.k (.int 1))) .nil))) b23_0 [3] false,
  .ret (.v 2)]
/-- 24 law: 0=script 1=bag 2=turn 3=p 4=n 5=kind 6=again 7=due 8=told 9=many 10=same 11=total 12=more 13=forms 14=own -/
def b24_0 : List S := [
  .set (.nm 7) (.call 19 none (.cons (.v 3) (.cons (.v 4) (.cons (.v 5) .nil))) .nil),
  .ite (.cm .ne (.bi .repr 0 (.cons (.lst 0 (.cons (.call 7 none (.cons (.v 3) (.cons (.v 4) (.cons (.v 5) .nil))) .nil) (.cons (.call 7 (some [2, 1, 0]) .nil (.cons (.v 5) (.cons (.v 4) (.cons (.v 3) .nil)))) .nil))) .nil)) (.bi .repr 0 (.cons (.lst 0 (.cons (.v 7) (.cons (.v 7) .nil))) .nil))) [
    .ret (.k (.bl false))] [],
  .set (.nm 7) (.op .fdiv 0 (.call 21 none (.cons (.v 3) (.cons (.v 4) .nil)) .nil) (.v 7)),
  .ite (.cm .ne (.bi .repr 0 (.cons (.lst 0 (.cons (.call 9 none (.cons (.v 3) (.cons (.v 4) (.cons (.v 5) .nil))) .nil) (.cons (.call 9 (some [2, 1, 0]) .nil (.cons (.v 5) (.cons (.v 4) (.cons (.v 3) .nil)))) .nil))) .nil)) (.bi .repr 0 (.cons (.lst 0 (.cons (.v 7) (.cons (.v 7) .nil))) .nil))) [
    .ret (.k (.bl false))] []]
def e24_0 : E := (.call 13 none (.cons (.v 1) (.cons (.call 20 none (.cons (.v 3) (.cons (.v 4) .nil)) .nil) .nil)) .nil)
def b24_1 : List S := [
  .set (.nm 7) (.call 22 none (.cons (.v 3) (.cons (.v 4) (.cons (.v 5) .nil))) .nil),
  .set (.nm 8) (.lst 0 (.cons (.call 10 none (.cons (.v 3) (.cons (.v 4) (.cons (.v 5) .nil))) .nil) (.cons (.call 10 (some [2, 1, 0]) .nil (.cons (.v 5) (.cons (.v 4) (.cons (.v 3) .nil)))) .nil))),
  .ite (.cm .ne (.bi .repr 0 (.cons (.v 8) .nil)) (.bi .repr 0 (.cons (.lst 0 (.cons (.v 7) (.cons (.v 7) .nil))) .nil))) [
    .ret (.k (.bl false))] []]
def e24_1 : E := (.call 13 none (.cons (.v 1) (.cons (.call 23 none (.cons (.v 3) (.cons (.v 4) .nil)) .nil) .nil)) .nil)
def e24_2 : E := (.tup (.cons (.v 5) (.cons (.call 19 none (.cons (.v 3) (.cons (.v 4) (.cons (.v 5) .nil))) .nil) .nil)))
def e24_3 : E := (.cm .ne (.op .mod 0 (.bi .int 0 (.cons (.call 21 none (.cons (.v 3) (.cons (.v 4) .nil)) .nil) .nil)) (.v 9)) (.k (.int 0)))
def e24_4 : E := (.v 9)
def e24_5 : E := (.call 22 none (.cons (.v 3) (.cons (.v 4) (.cons (.v 14) .nil))) .nil)
def b24_2 : List S := [
  .set (.nm 3) (.call 13 none (.cons (.v 1) (.cons (.lst 0 (.cons (.k (.int 2)) (.cons (.k (.int 2)) (.cons (.k (.int 3)) (.cons (.k (.int 3)) (.cons (.k (.int 5)) (.cons (.k (.int 7)) (.cons (.k (.int 11)) (.cons (.k (.int 13)) (.cons (.k (.int 101)) (.cons (.k (.int 997)) .nil))))))))))) .nil)) .nil),
  .set (.nm 4) (.op .add 0 (.k (.int 1)) (.call 12 none (.cons (.v 1) (.cons (.call 13 none (.cons (.v 1) (.cons (.lst 0 (.cons (.k (.int 4)) (.cons (.k (.int 6)) (.cons (.ite (.cm .eq (.v 2) (.k (.int 0))) (.k (.int 30)) (.k (.int 6))) .nil)))) .nil)) .nil) .nil)) .nil)),
  .for (.nm 5) (.seq (.co 0 (.nm 6) (.rng (.cons (.k (.int 4)) .nil)) .no e24_0 [6])) b24_0 [5, 7] false,
  .for (.nm 5) (.seq (.co 0 (.nm 6) (.rng (.cons (.k (.int 4)) .nil)) .no e24_1 [6])) b24_1 [5, 7, 8] false,
  .set (.nm 4) (.op .add 0 (.k (.int 1)) (.call 12 none (.cons (.v 1) (.cons (.k (.int 6)) .nil)) .nil)),
  .set (.nm 7) (.bi .tuple 0 (.cons (.co 0 (.nm 5) (.seq (.call 20 none (.cons (.v 3) (.cons (.v 4) .nil)) .nil)) .no e24_2 [5]) .nil)),
  .ite (.cm .ne (.bi .repr 0 (.cons (.lst 0 (.cons (.call 8 none (.cons (.v 3) (.cons (.v 4) .nil)) .nil) (.cons (.call 8 (some [1, 0]) .nil (.cons (.v 4) (.cons (.v 3) .nil))) .nil))) .nil)) (.bi .repr 0 (.cons (.lst 0 (.cons (.v 7) (.cons (.v 7) .nil))) .nil))) [
    .ret (.k (.bl false))] [],
  .ite (.bi .any 0 (.cons (.co 0 (.tu [.nm 5, .nm 9]) (.seq (.v 7)) .no e24_3 [5, 9]) .nil)) [
    .ret (.k (.bl false))] [],
  .set (.tu [.nm 10, .nm 11]) (.tup (.cons (.call 17 none (.cons (.v 3) (.cons (.op .fdiv 0 (.op .mul 0 (.v 4) (.op .add 0 (.v 4) (.k (.int 1)))) (.k (.int 2))) .nil)) .nil) (.cons (.bi .sum 0 (.cons (.co 0 (.tu [.nm 5, .nm 9]) (.seq (.v 7)) .no e24_4 [5, 9]) .nil)) .nil))),
  .set (.nm 12) (.ite (.cm .gt (.v 3) (.k (.int 2))) (.op .sub 0 (.call 17 none (.cons (.v 3) (.cons (.op .fdiv 0 (.op .mul 0 (.v 4) (.op .sub 0 (.v 4) (.k (.int 1)))) (.k (.int 2))) .nil)) .nil) (.k (.int 1))) (.k (.int 0))),
  .set (.nm 13) (.bi .sum 0 (.cons (.co 0 (.nm 14) (.seq (.call 23 none (.cons (.v 3) (.cons (.v 4) .nil)) .nil)) .no e24_5 [14]) .nil)),
  .ite (.or (.cm .ne (.v 11) (.op .add 0 (.v 10) (.v 12))) (.cm .ne (.v 13) (.v 10))) [
    .ret (.k (.bl false))] []]
def b24 : List S := [
  .set (.nm 1) (.call 11 none (.cons (.v 0) .nil) .nil),
  .for (.nm 2) (.rng (.cons (.k (.int 2)) .nil)) b24_2 [2, 3, 4, 5, 7, 8, 10, 11, 12, 13] false,
  .ret (.k (.bl true))]
def d0 : DefC := ⟨"power_of", ["number", "often"], ["number", "often", "found", "step"], b0⟩
def d1 : DefC := ⟨"falls", ["q", "n", "k"], ["q", "n", "k", "found", "i"], b1⟩
def d2 : DefC := ⟨"spaces_number", ["q", "n", "k"], ["q", "n", "k"], b2⟩
def d3 : DefC := ⟨"squares_number", ["q", "n"], ["q", "n"], b3⟩
def d4 : DefC := ⟨"odd_product", ["q", "k"], ["q", "k", "found", "i"], b4⟩
def d5 : DefC := ⟨"same_number", ["q", "n", "r"], ["q", "n", "r", "k", "power"], b5⟩
def d6 : DefC := ⟨"alternating_number", ["q", "n", "r"], ["q", "n", "r", "k"], b6⟩
def d7 : DefC := ⟨"kind_number", ["p", "n", "kind"], ["p", "n", "kind", "r", "half", "sign"], b7⟩
def d8 : DefC := ⟨"kinds_row", ["p", "n"], ["p", "n", "kinds", "r", "kind"], b8⟩
def d9 : DefC := ⟨"keepers_number", ["p", "n", "kind"], ["p", "n", "kind"], b9⟩
def d10 : DefC := ⟨"form_kind_number", ["p", "n", "form_kind"], ["p", "n", "form_kind", "r", "sign", "k", "found", "four"], b10⟩
def d11 : DefC := ⟨"_law_bag", ["script"], ["script", "cells", "cell", "mixed"], b11⟩
def d12 : DefC := ⟨"_law_draw", ["bag", "below"], ["bag", "below", "cell", "found"], b12⟩
def d13 : DefC := ⟨"_law_pick", ["bag", "some"], ["bag", "some"], b13⟩
def d14 : DefC := ⟨"_law_powers", ["q", "most"], ["q", "most", "found", "turn"], b14⟩
def d15 : DefC := ⟨"_law_ways", ["powers", "n", "r", "sort"], ["powers", "n", "r", "sort", "low"], b15⟩
def d16 : DefC := ⟨"_law_ranks", ["q", "n", "sort"], ["q", "n", "sort", "row", "powers", "size", "later", "r", "many", "zero", "one", "two"], b16⟩
def d17 : DefC := ⟨"_law_power", ["q", "n"], ["q", "n", "found", "turn"], b17⟩
def d18 : DefC := ⟨"_law_put", ["p", "n", "r", "k", "sign", "is_put"], ["p", "n", "r", "k", "sign", "is_put", "power", "many"], b18⟩
def d19 : DefC := ⟨"_law_kind_number", ["p", "n", "kind"], ["p", "n", "kind", "r", "many"], b19⟩
def d20 : DefC := ⟨"_law_kinds", ["p", "n"], ["p", "n", "found", "r"], b20⟩
def d21 : DefC := ⟨"_law_squares", ["p", "n"], ["p", "n", "found", "high", "i"], b21⟩
def d22 : DefC := ⟨"_law_form_number", ["p", "n", "kind"], ["p", "n", "kind", "r", "sign", "k", "many"], b22⟩
def d23 : DefC := ⟨"_law_form_kinds", ["p", "n"], ["p", "n", "found", "r"], b23⟩
def d24 : DefC := ⟨"law", ["script"], ["script", "bag", "turn", "p", "n", "kind", "again", "due", "told", "many", "same", "total", "more", "forms", "own"], b24⟩
def ds_0 : List DefC := [d0, d1, d2, d3, d4, d5, d6, d7, d8, d9, d10, d11, d12, d13, d14, d15, d16, d17, d18, d19]
def ds_1 : List DefC := [d20, d21, d22, d23, d24]
def ds : List DefC := ds_0 ++ ds_1
def sts_0 : List Stmt := [topS 1, topS 3, topS 4, topS 5, topS 7, topS 8, topS 9, topS 11, topS 12, topS 13, topS 14, topS 16, topS 17, topS 18, topS 19, topS 20, topS 21, topS 22, topS 23, topS 24]
def sts_1 : List Stmt := [topS 25, topS 26, topS 27, topS 28, topS 29]
def sts : List Stmt := sts_0 ++ sts_1
def fre : List Str := ["abs", "any", "enumerate", "int", "len", "range", "repr", "sum", "tuple"]
def cns : List (Str × Int) := []
def bnd_0 : List (Nat × Nat × List Str × Option (List Nat)) := [(0, 2, [], none), (1, 3, [], none), (10, 0, ["form_kind", "n", "p"], some [2, 1, 0]), (10, 3, [], none), (11, 1, [], none), (12, 2, [], none), (13, 2, [], none), (14, 2, [], none), (15, 4, [], none), (16, 3, [], none), (17, 2, [], none), (18, 6, [], none), (19, 3, [], none), (2, 3, [], none), (20, 2, [], none), (21, 2, [], none), (22, 3, [], none), (23, 2, [], none), (3, 2, [], none), (4, 2, [], none)]
def bnd_1 : List (Nat × Nat × List Str × Option (List Nat)) := [(5, 3, [], none), (6, 3, [], none), (7, 0, ["kind", "n", "p"], some [2, 1, 0]), (7, 3, [], none), (8, 0, ["n", "p"], some [1, 0]), (8, 2, [], none), (9, 0, ["kind", "n", "p"], some [2, 1, 0]), (9, 3, [], none)]
def bnd : List (Nat × Nat × List Str × Option (List Nat)) := bnd_0 ++ bnd_1
abbrev C : List D := cOf cns
/-- what the defs are worth -/
abbrev F (n j : Nat) := Fn C ds n j
theorem F0 {n : Nat} (h : 0 < n) : F n 0 = exD ⟨F 0, C⟩ 4 b0 := (Fn_lt h).trans (Fn_at (d := d0) rfl)
theorem F1 {n : Nat} (h : 1 < n) : F n 1 = exD ⟨F 1, C⟩ 5 b1 := (Fn_lt h).trans (Fn_at (d := d1) rfl)
theorem F2 {n : Nat} (h : 2 < n) : F n 2 = exD ⟨F 2, C⟩ 3 b2 := (Fn_lt h).trans (Fn_at (d := d2) rfl)
theorem F3 {n : Nat} (h : 3 < n) : F n 3 = exD ⟨F 3, C⟩ 2 b3 := (Fn_lt h).trans (Fn_at (d := d3) rfl)
theorem F4 {n : Nat} (h : 4 < n) : F n 4 = exD ⟨F 4, C⟩ 4 b4 := (Fn_lt h).trans (Fn_at (d := d4) rfl)
theorem F5 {n : Nat} (h : 5 < n) : F n 5 = exD ⟨F 5, C⟩ 5 b5 := (Fn_lt h).trans (Fn_at (d := d5) rfl)
theorem F6 {n : Nat} (h : 6 < n) : F n 6 = exD ⟨F 6, C⟩ 4 b6 := (Fn_lt h).trans (Fn_at (d := d6) rfl)
theorem F7 {n : Nat} (h : 7 < n) : F n 7 = exD ⟨F 7, C⟩ 6 b7 := (Fn_lt h).trans (Fn_at (d := d7) rfl)
theorem F8 {n : Nat} (h : 8 < n) : F n 8 = exD ⟨F 8, C⟩ 5 b8 := (Fn_lt h).trans (Fn_at (d := d8) rfl)
theorem F9 {n : Nat} (h : 9 < n) : F n 9 = exD ⟨F 9, C⟩ 3 b9 := (Fn_lt h).trans (Fn_at (d := d9) rfl)
theorem F10 {n : Nat} (h : 10 < n) : F n 10 = exD ⟨F 10, C⟩ 8 b10 := (Fn_lt h).trans (Fn_at (d := d10) rfl)
theorem F11 {n : Nat} (h : 11 < n) : F n 11 = exD ⟨F 11, C⟩ 4 b11 := (Fn_lt h).trans (Fn_at (d := d11) rfl)
theorem F12 {n : Nat} (h : 12 < n) : F n 12 = exD ⟨F 12, C⟩ 4 b12 := (Fn_lt h).trans (Fn_at (d := d12) rfl)
theorem F13 {n : Nat} (h : 13 < n) : F n 13 = exD ⟨F 13, C⟩ 2 b13 := (Fn_lt h).trans (Fn_at (d := d13) rfl)
theorem F14 {n : Nat} (h : 14 < n) : F n 14 = exD ⟨F 14, C⟩ 4 b14 := (Fn_lt h).trans (Fn_at (d := d14) rfl)
theorem F15 {n : Nat} (h : 15 < n) : F n 15 = exD ⟨F 15, C⟩ 5 b15 := (Fn_lt h).trans (Fn_at (d := d15) rfl)
theorem F16 {n : Nat} (h : 16 < n) : F n 16 = exD ⟨F 16, C⟩ 12 b16 := (Fn_lt h).trans (Fn_at (d := d16) rfl)
theorem F17 {n : Nat} (h : 17 < n) : F n 17 = exD ⟨F 17, C⟩ 4 b17 := (Fn_lt h).trans (Fn_at (d := d17) rfl)
theorem F18 {n : Nat} (h : 18 < n) : F n 18 = exD ⟨F 18, C⟩ 8 b18 := (Fn_lt h).trans (Fn_at (d := d18) rfl)
theorem F19 {n : Nat} (h : 19 < n) : F n 19 = exD ⟨F 19, C⟩ 5 b19 := (Fn_lt h).trans (Fn_at (d := d19) rfl)
theorem F20 {n : Nat} (h : 20 < n) : F n 20 = exD ⟨F 20, C⟩ 4 b20 := (Fn_lt h).trans (Fn_at (d := d20) rfl)
theorem F21 {n : Nat} (h : 21 < n) : F n 21 = exD ⟨F 21, C⟩ 5 b21 := (Fn_lt h).trans (Fn_at (d := d21) rfl)
theorem F22 {n : Nat} (h : 22 < n) : F n 22 = exD ⟨F 22, C⟩ 7 b22 := (Fn_lt h).trans (Fn_at (d := d22) rfl)
theorem F23 {n : Nat} (h : 23 < n) : F n 23 = exD ⟨F 23, C⟩ 4 b23 := (Fn_lt h).trans (Fn_at (d := d23) rfl)
theorem F24 {n : Nat} (h : 24 < n) : F n 24 = exD ⟨F 24, C⟩ 15 b24 := (Fn_lt h).trans (Fn_at (d := d24) rfl)
end K60

namespace K60
open PySem Fz
section
variable (Q u v : Int)
/-- three ways to go on: by none, one, two -/
def W (n r : Nat) : Nat → Int
  | 0 => Q ^ r
  | 1 => v * Q ^ r
  | _ => u * (Q ^ n - Q ^ r)
def N : Nat → Nat → Int
  | 0, 0 => 1
  | 0, _ + 1 => 0
  | n + 1, 0 => N n 0 * W Q u v n 0 0
  | n + 1, 1 => N n 1 * W Q u v n 1 0 + N n 0 * W Q u v n 0 1
  | n + 1, r + 2 => N n (r + 2) * W Q u v n (r + 2) 0 + N n (r + 1) * W Q u v n (r + 1) 1 + N n r * W Q u v n r 2
def cc : Nat → Int
  | 0 => 1
  | 1 => v
  | r + 2 => cc (r + 1) * v * Q ^ (r + 1) + cc r * u * Q ^ r * (Q ^ (r + 1) - 1)
variable {Q u v}
theorem G_step {n r : Nat} (hQ : 2 ≤ Q) : G Q n (r + 1) * ((Q ^ (r + 1) - 1) * Q ^ r) = G Q n r * (Q ^ n - Q ^ r) := by
  have h1 : fl Q n (r + 1) = fl Q n r * (Q ^ n - Q ^ r) := rfl
  have h2 := fl_G (q := Q) n (r + 1)
  have h3 := fl_G (q := Q) n r
  have h4 := fl_front (q := Q) r r
  have h5 := fl_pos hQ (Nat.le_refl r)
  refine Int.eq_of_mul_eq_mul_right (show fl Q r r ≠ 0 by omega) ?_
  rw [h2, h3, h4] at h1
  grind
theorem N_eq (hQ : 2 ≤ Q) : ∀ n r, N Q u v n r = G Q n r * cc Q u v r
  | 0, 0 => by simp [N, G, cc]
  | 0, r + 1 => by simp [N, G]
  | n + 1, 0 => by
    rw [N, N_eq hQ n 0]
    cases n <;> simp [W, G, cc]
  | n + 1, 1 => by
    rw [N, N_eq hQ n 1, N_eq hQ n 0]
    have : G Q n 0 = 1 := by cases n <;> simp [G]
    have g : G Q (n + 1) 1 = G Q n 0 + Q ^ 1 * G Q n 1 := rfl
    rw [g, this]
    simp [W, cc]
    grind
  | n + 1, r + 2 => by
    rw [N, N_eq hQ n (r + 2), N_eq hQ n (r + 1), N_eq hQ n r]
    have g : G Q (n + 1) (r + 2) = G Q n (r + 1) + Q ^ (r + 2) * G Q n (r + 2) := rfl
    rw [g]
    have h1 := G_step (n := n) (r := r) hQ
    simp only [W, cc]
    rw [Int.pow_succ Q r, Int.pow_succ Q (r + 1), Int.pow_succ Q r] at *
    grind
theorem N_big (hQ : 2 ≤ Q) {n r : Nat} (h : n < r) : N Q u v n r = 0 := by
  rw [N_eq hQ, G_big hQ h, Int.zero_mul]
end
/-- the odd product -/
def odd (q : Int) : Nat → Int
  | 0 => 1
  | k + 1 => odd q k * (q ^ (2 * k + 1) - 1)
/-- the product with signs -/
def sgn (q : Int) : Nat → Int
  | 0 => 1
  | r + 1 => sgn q r * (q ^ (r + 1) + 1 - 2 * (((r + 1) % 2 : Nat) : Int))
section
variable {q : Int}
theorem c_same : ∀ k, cc q q (q - 1) (2 * k) = q ^ (k * (k + 1)) * odd q k ∧ cc q q (q - 1) (2 * k + 1) = q ^ ((k + 1) * k) * odd q (k + 1)
  | 0 => by simp [cc, odd, Int.pow_succ]
  | k + 1 => by
    obtain ⟨h1, h2⟩ := c_same k
    have e1 : cc q q (q - 1) (2 * (k + 1)) = q ^ ((k + 1) * (k + 1 + 1)) * odd q (k + 1) := by
      rw [show 2 * (k + 1) = 2 * k + 2 by omega, cc, h1, h2, odd]
      rw [show (k + 1) * (k + 1 + 1) = (k + 1) * k + (2 * k + 1) + 1 by rw [Nat.mul_succ, Nat.mul_succ]; omega, show k * (k + 1) = (k + 1) * k from Nat.mul_comm _ _]
      rw [Int.pow_succ q ((k + 1) * k + (2 * k + 1)), Int.pow_add q ((k + 1) * k)]
      rw [Int.pow_succ q (2 * k)]
      grind
    refine ⟨e1, ?_⟩
    rw [show 2 * (k + 1) + 1 = (2 * k + 1) + 2 by omega, cc, show 2 * k + 1 + 1 = 2 * (k + 1) by omega, e1, h2, show odd q (k + 1 + 1) = odd q (k + 1) * (q ^ (2 * (k + 1) + 1) - 1) from rfl]
    rw [show (k + 1 + 1) * (k + 1) = (k + 1) * k + (2 * (k + 1)) by rw [Nat.mul_succ (k + 1 + 1), Nat.succ_mul (k + 1)]; omega]
    rw [show (k + 1) * (k + 1 + 1) = (k + 1) * k + (2 * (k + 1)) by rw [Nat.mul_succ, Nat.mul_succ]; omega]
    rw [Int.pow_add q ((k + 1) * k), show 2 * (k + 1) = 2 * k + 1 + 1 by omega, Int.pow_succ q (2 * k + 1 + 1), Int.pow_succ q (2 * k + 1)]
    grind
theorem c_alt : ∀ k, cc q 1 0 (2 * k) = q ^ (k * (k - 1)) * odd q k ∧ cc q 1 0 (2 * k + 1) = 0
  | 0 => by simp [cc, odd]
  | k + 1 => by
    obtain ⟨h1, h2⟩ := c_alt k
    refine ⟨?_, ?_⟩
    · rw [show 2 * (k + 1) = 2 * k + 2 by omega, cc, h1, h2, odd]
      have e : (k + 1) * (k + 1 - 1) = k * (k - 1) + 2 * k := by
        cases k with
        | zero => rfl
        | succ k => simp only [Nat.add_sub_cancel]; rw [Nat.mul_succ, Nat.succ_mul (k + 1), Nat.succ_mul k, Nat.mul_succ]; omega
      rw [e, Int.pow_add]
      grind
    · rw [show 2 * (k + 1) + 1 = (2 * k + 1) + 2 by omega, cc, h2]
      simp
theorem c_cross : ∀ r, cc (q ^ 2) q (q - 1) r = q ^ (r * (r - 1) / 2) * sgn q r ∧ cc (q ^ 2) q (q - 1) (r + 1) = q ^ ((r + 1) * r / 2) * sgn q (r + 1)
  | 0 => by simp [cc, sgn, Int.pow_succ]; omega
  | r + 1 => by
    obtain ⟨h1, h2⟩ := c_cross r
    refine ⟨h2, ?_⟩
    have e1 : (r + 2) * (r + 1) / 2 = r * (r - 1) / 2 + (r + (r + 1)) := by
      have : (r + 2) * (r + 1) = r * (r - 1) + 2 * (r + (r + 1)) := by
        cases r with
        | zero => rfl
        | succ r => simp only [Nat.add_sub_cancel]; simp only [Nat.mul_add, Nat.add_mul]; omega
      rw [this, Nat.add_mul_div_left _ _ (by decide)]
    have e2 : (r + 1) * r / 2 = r * (r - 1) / 2 + r := by
      have : (r + 1) * r = r * (r - 1) + 2 * r := by
        cases r with
        | zero => rfl
        | succ r => simp only [Nat.add_sub_cancel]; simp only [Nat.mul_add, Nat.add_mul]; omega
      rw [this, Nat.add_mul_div_left _ _ (by decide)]
    have f1 : q ^ ((r + 2) * (r + 1) / 2) = q ^ (r * (r - 1) / 2) * (q ^ r * (q ^ r * q)) := by rw [e1, Int.pow_add, Int.pow_add q r, Int.pow_succ q r]
    have f2 : q ^ ((r + 1) * r / 2) = q ^ (r * (r - 1) / 2) * q ^ r := by rw [e2, Int.pow_add]
    have f3 : (q ^ 2) ^ r = q ^ r * q ^ r := by rw [← Int.pow_mul, Nat.mul_comm, Nat.mul_two, Int.pow_add]
    have f4 : (q ^ 2) ^ (r + 1) = q ^ r * q * (q ^ r * q) := by rw [← Int.pow_mul, Nat.mul_comm, Nat.mul_two, Int.pow_add, Int.pow_succ]
    have s1 : sgn q (r + 1) = sgn q r * (q ^ (r + 1) + 1 - 2 * (((r + 1) % 2 : Nat) : Int)) := rfl
    have s2 : sgn q (r + 1 + 1) = sgn q (r + 1) * (q ^ (r + 1 + 1) + 1 - 2 * (((r + 1 + 1) % 2 : Nat) : Int)) := rfl
    have c2 : cc (q ^ 2) q (q - 1) (r + 1 + 1) = cc (q ^ 2) q (q - 1) (r + 1) * (q - 1) * (q ^ 2) ^ (r + 1) + cc (q ^ 2) q (q - 1) r * q * (q ^ 2) ^ r * ((q ^ 2) ^ (r + 1) - 1) := rfl
    rw [show (r + 1 + 1) * (r + 1) / 2 = (r + 2) * (r + 1) / 2 from rfl, f1, c2, h1, h2, f2, f3, f4, s2, s1, Int.pow_succ q (r + 1), Int.pow_succ q r]
    rcases Nat.mod_two_eq_zero_or_one r with m | m
    · rw [show (r + 1) % 2 = 1 by omega, show (r + 1 + 1) % 2 = 0 by omega]
      grind
    · rw [show (r + 1) % 2 = 0 by omega, show (r + 1 + 1) % 2 = 1 by omega]
      grind
end
end K60

namespace K60
open PySem Fz
/-- f 0 + .. + f (n - 1) -/
def sm (f : Nat → Int) : Nat → Int
  | 0 => 0
  | n + 1 => sm f n + f n
theorem sm_succ (f : Nat → Int) (n : Nat) : sm f (n + 1) = sm f n + f n := rfl
theorem sm_list (f : Nat → Int) : ∀ n, ((List.range n).map f).sum = sm f n
  | 0 => rfl
  | n + 1 => by
    rw [List.range_succ, List.map_append, List.sum_append, sm_list f n]
    simp [sm]
theorem sm_add (f g : Nat → Int) : ∀ n, sm (fun i => f i + g i) n = sm f n + sm g n
  | 0 => rfl
  | n + 1 => by simp only [sm, sm_add f g n]; omega
theorem sm_mul (c : Int) (f : Nat → Int) : ∀ n, sm (fun i => c * f i) n = c * sm f n
  | 0 => by simp [sm]
  | n + 1 => by simp only [sm, sm_mul c f n, Int.mul_add]
theorem sm_congr {f g : Nat → Int} : ∀ {n}, (∀ i, i < n → f i = g i) → sm f n = sm g n
  | 0, _ => rfl
  | n + 1, h => by rw [sm_succ, sm_succ, sm_congr (n := n) (fun i hi => h i (by omega)), h n (by omega)]
theorem sm_front (f : Nat → Int) : ∀ n, sm f (n + 1) = f 0 + sm (fun i => f (i + 1)) n
  | 0 => by simp [sm]
  | n + 1 => by
    have := sm_front f n
    simp only [sm] at this ⊢
    omega
/-! ### all ranks together -/
section
variable {Q u v : Int}
theorem W_all (h : 1 + v = u) (n r : Nat) : W Q u v n r 0 + W Q u v n r 1 + W Q u v n r 2 = u * Q ^ n := by
  simp only [W]
  grind
theorem N_step (hQ : 2 ≤ Q) (h : 1 + v = u) (n : Nat) : sm (N Q u v (n + 1)) (n + 2) = u * Q ^ n * sm (N Q u v n) (n + 1) := by
  have e : ∀ r, N Q u v (n + 1) r = N Q u v n r * W Q u v n r 0 + (if 1 ≤ r then N Q u v n (r - 1) * W Q u v n (r - 1) 1 else 0) + (if 2 ≤ r then N Q u v n (r - 2) * W Q u v n (r - 2) 2 else 0) := by
    intro r
    match r with
    | 0 => simp [N]
    | 1 => simp [N]
    | r + 2 => simp [N]
  have z1 : N Q u v n (n + 1) = 0 := N_big hQ (by omega)
  have s0 : sm (fun r => N Q u v n r * W Q u v n r 0) (n + 2) = sm (fun r => N Q u v n r * W Q u v n r 0) (n + 1) := by
    rw [sm_succ, z1]; simp
  have s1 : sm (fun r => if 1 ≤ r then N Q u v n (r - 1) * W Q u v n (r - 1) 1 else 0) (n + 2) = sm (fun r => N Q u v n r * W Q u v n r 1) (n + 1) := by
    rw [sm_front]
    simp
  have s2 : sm (fun r => if 2 ≤ r then N Q u v n (r - 2) * W Q u v n (r - 2) 2 else 0) (n + 2) = sm (fun r => N Q u v n r * W Q u v n r 2) n := by
    rw [sm_front, sm_front]
    simp
  have z2 : sm (fun r => N Q u v n r * W Q u v n r 2) (n + 1) = sm (fun r => N Q u v n r * W Q u v n r 2) n := by
    have w2 : W Q u v n n 2 = 0 := by simp [W]
    rw [sm_succ, w2]; simp
  rw [sm_congr (fun r _ => e r), sm_add, sm_add, s0, s1, s2, ← z2, ← sm_add, ← sm_add, ← sm_mul]
  refine sm_congr fun r _ => ?_
  rw [← W_all h n r]
  grind
theorem N_all (hQ : 2 ≤ Q) (h : 1 + v = u) : ∀ n, sm (N Q u v n) (n + 1) = u ^ n * Q ^ (n * (n - 1) / 2)
  | 0 => by simp [sm, N]
  | n + 1 => by
    rw [N_step hQ h, N_all hQ h n]
    have e : (n + 1) * (n + 1 - 1) / 2 = n + n * (n - 1) / 2 := by
      rw [Nat.add_sub_cancel, show (n + 1) * n = n * (n - 1) + n * 2 by cases n with
        | zero => rfl
        | succ n => rw [Nat.add_sub_cancel]; grind, Nat.add_mul_div_right _ _ (by decide)]
      omega
    rw [e, Int.pow_add, Int.pow_succ]
    grind
end
/-! ### tables of every rank -/
theorem flats_all {q : Int} (hq : 2 ≤ q) (n : Nat) : ∀ m, sm (fun r => G q m r * fl q n r) (m + 1) = q ^ (m * n)
  | 0 => by simp [sm, G, fl]
  | m + 1 => by
    have ih := flats_all hq n m
    have e : ∀ r, G q (m + 1) r * fl q n r = (if 1 ≤ r then G q m (r - 1) * fl q n r else 0) + q ^ r * (G q m r * fl q n r) := by
      intro r
      match r with
      | 0 => simp [G, fl]
      | r + 1 => simp only [G, Nat.add_sub_cancel]; simp; grind
    have s1 : sm (fun r => if 1 ≤ r then G q m (r - 1) * fl q n r else 0) (m + 2) = sm (fun r => G q m r * fl q n r * (q ^ n - q ^ r)) (m + 1) := by
      rw [sm_front]
      simp [fl, Int.mul_assoc]
    have s2 : sm (fun r => q ^ r * (G q m r * fl q n r)) (m + 2) = sm (fun r => q ^ r * (G q m r * fl q n r)) (m + 1) := by
      rw [sm_succ, G_big hq (show m < m + 1 by omega)]; simp
    rw [sm_congr (fun r _ => e r), sm_add, s1, s2, ← sm_add, Nat.succ_mul, Int.pow_add, ← ih, Int.mul_comm, ← sm_mul]
    refine sm_congr fun r _ => ?_
    grind
theorem flats_min {q : Int} (hq : 2 ≤ q) {n m : Nat} : sm (fun r => G q m r * fl q n r) (min m n + 1) = q ^ (m * n) := by
  rw [← flats_all hq n m]
  by_cases h : m ≤ n
  · rw [Nat.min_eq_left h]
  · obtain ⟨d, rfl⟩ : ∃ d, m = n + d := ⟨m - n, by omega⟩
    rw [Nat.min_eq_right (by omega)]
    have k : ∀ e, sm (fun r => G q (n + d) r * fl q n r) (n + 1 + e) = sm (fun r => G q (n + d) r * fl q n r) (n + 1) := by
      intro e
      induction e with
      | zero => rfl
      | succ e ih =>
        rw [show n + 1 + (e + 1) = n + 1 + e + 1 from rfl, sm_succ, ih, fl_big (show n < n + 1 + e by omega)]; simp
    have := k d
    rw [show n + 1 + d = n + d + 1 by omega] at this
    exact this.symm
end K60

namespace K60
open PySem Fz
theorem km1 : ∀ k < 32, ∀ m < 32, k + m ≤ 31 → 22 ≤ k → k * m ≤ 198 := by decide +kernel
section
variable {n : Nat} {q : Int} (hq : 2 ≤ q) (hq2 : q ≤ 1000000) (g : List (List D))
include hq hq2
theorem Sz_q : Sz 20 q := by unfold Sz; omega
theorem Sz_pw (k : Nat) : Sz (20 * k + 1) (q ^ k) := (Sz_q hq hq2).pow k
theorem Sz_df {i m : Nat} (h : i ≤ m) : Sz (20 * m + 1) (q ^ m - q ^ i) := by
  refine (Sz_pw hq hq2 m).le ?_ ?_
  · have := pw_le' (q := q) (by omega) h; omega
  · have := pw_pos hq i; omega
theorem Sz_fl {m : Nat} : ∀ {k}, k ≤ m → Sz ((20 * m + 1) * k + 1) (fl q m k)
  | 0, _ => Sz.one
  | k + 1, h => ((Sz_fl (k := k) (by omega)).mul (Sz_df hq hq2 (show k ≤ m by omega))).mono (by rw [Nat.mul_succ]; omega)
theorem Sz_G {m k : Nat} (h : k ≤ m) : Sz ((20 * m + 1) * k + 1) (G q m k) := by
  refine (Sz_fl hq hq2 h).le (G_pos hq m k) ?_
  rw [fl_G]
  have := Int.mul_le_mul_of_nonneg_left (fl_pos hq (Nat.le_refl k)) (G_pos hq m k)
  omega
theorem dv {m k : Nat} (hm : m ≤ 31) (hk : k ≤ m) : divOk (fl q m k) (fl q k k) = true := by
  by_cases h : k ≤ 21
  · refine divOk_log (by have := fl_pos hq (Nat.le_refl k); omega) ((Sz_fl hq hq2 (Nat.le_refl k)).mono ?_)
    have : (20 * k + 1) * k ≤ (20 * 21 + 1) * 21 := Nat.mul_le_mul (by omega) h
    omega
  · rw [fl_G]
    refine divOk_q ?_ (fl_pos hq (Nat.le_refl k))
    have h1 := G_le hq hk
    have e1 := km1 k (by omega) (m - k) (by omega) (by omega) (by omega)
    have p2 : Sz (m + 1) (2 ^ m) := by
      unfold Sz
      rw [Int.natAbs_pow]
      exact Nat.pow_lt_pow_right (by decide) (Nat.lt_succ_self m)
    exact ((p2.mul (Sz_pw hq hq2 (k * (m - k)))).le (G_pos hq m k) h1).mono (by omega)
theorem power_ok (h : 0 < n) {k : Nat} (hk : k ≤ 2000) : F n 0 [.int q, .int k] g = .ok (.int (q ^ k), g) := by
  have L := forL_rng (bind := asg (.nm 3)) (body := exB ⟨F 0, C⟩ b0_0) (post := postF [3] false 0) (ok := fun _ => true) (fun i => ⟨[some (.int q), some (.int k), some (.int (q ^ i)), none], [], g⟩) 0 k (fun i r hi => by
    have e : mulOk (q ^ i) q = true := mulOk_r (by omega)
    simp [forL_cons, b0_0, e, Int.pow_succ])
  have r : rngF [.int (k : Int)] = some (rngL 0 k) := rng_1 (by omega) (by omega)
  rw [F0 h]
  rw [Int.pow_zero] at L
  simp [exD, b0, r, L]
theorem falls_ok (h : 1 < n) {m k : Nat} (hm : m ≤ 31) (hk : k ≤ m) : F n 1 [.int q, .int m, .int k] g = .ok (.int (fl q m k), g) := by
  have p1 := fun i hi => power_ok hq hq2 g (n := 1) (by decide) (k := i) hi
  have L := forL_rng (bind := asg (.nm 4)) (body := exB ⟨F 1, C⟩ b1_0) (post := postF [4] false 0) (ok := fun _ => true) (fun i => ⟨[some (.int q), some (.int m), some (.int k), some (.int (fl q m i)), none], [], g⟩) 0 k (fun i r hi => by
    have b : (20 * m + 1) * i ≤ 621 * 31 := Nat.mul_le_mul (by omega) (by omega)
    have e : mulOk (fl q m i) (q ^ m - q ^ i) = true := (Sz_fl hq hq2 (show i ≤ m by omega)).mulOk (Sz_df hq hq2 (show i ≤ m by omega)) (by omega) (by omega)
    simp [forL_cons, b1_0, e, p1 m (by omega), p1 i (by omega), fl])
  have r : rngF [.int (k : Int)] = some (rngL 0 k) := rng_1 (by omega) (by omega)
  rw [F1 h]
  rw [fl] at L
  simp [exD, b1, r, L]
theorem number_ok (h : 2 < n) {m k : Nat} (hm : m ≤ 31) (hk : k ≤ m) : F n 2 [.int q, .int m, .int k] g = .ok (.int (G q m k), g) := by
  have p1 := falls_ok hq hq2 g (n := 2) (by decide) hm hk
  have p2 := falls_ok hq hq2 g (n := 2) (by decide) (show k ≤ 31 by omega) (Nat.le_refl k)
  have e := dv hq hq2 hm hk
  have c : (k : Int) ≤ m := by omega
  rw [F2 h]
  simp [exD, b2, p1, p2, e, c, quo hq, hk]
theorem Sz_odd : ∀ k, Sz (20 * (k * k) + k + 1) (odd q k)
  | 0 => Sz.one
  | k + 1 => by
    have h1 := Sz_df hq hq2 (i := 0) (m := 2 * k + 1) (by omega)
    rw [Int.pow_zero] at h1
    have sq : (k + 1) * (k + 1) = k * k + 2 * k + 1 := by rw [Nat.mul_succ, Nat.succ_mul]; omega
    exact ((Sz_odd k).mul h1).mono (by omega)
theorem odd_ok (h : 4 < n) {k : Nat} (hk : k ≤ 31) : F n 4 [.int q, .int k] g = .ok (.int (odd q k), g) := by
  have p1 := fun i hi => power_ok hq hq2 g (n := 4) (by decide) (k := i) hi
  have L := forL_rng (bind := asg (.nm 3)) (body := exB ⟨F 4, C⟩ b4_0) (post := postF [3] false 0) (ok := fun _ => true) (fun i => ⟨[some (.int q), some (.int k), some (.int (odd q i)), none], [], g⟩) 1 k (fun i r hi => by
    have h1 := Sz_df hq hq2 (i := 0) (m := 2 * i + 1) (by omega)
    rw [Int.pow_zero] at h1
    have b : i * i ≤ 31 * 31 := Nat.mul_le_mul (by omega) (by omega)
    have e : mulOk (odd q i) (q ^ (2 * i + 1) - 1) = true := (Sz_odd hq hq2 i).mulOk h1 (by omega) (by omega)
    have e2 : mulOk 2 (1 + (i : Int)) = true := mulOk_l (by decide)
    have e3 : 2 * (1 + (i : Int)) - 1 = ((2 * i + 1 : Nat) : Int) := by omega
    simp [forL_cons, b4_0, e, e2, e3, p1 (2 * i + 1) (by omega), odd, -Int.natCast_add])
  have r : rngF [.int 1, .int ((k : Int) + 1)] = some (rngL 1 k) := rng_2 (by omega) (by omega) (by omega)
  rw [F4 h]
  rw [odd] at L
  simp [exD, b4, r, L]
end
end K60

namespace K60
open PySem Fz
def nm : Nat → Str
  | 0 => "same"
  | 1 => "alternating"
  | _ => "crossed"
def Qf (q : Int) : Nat → Int
  | 0 => q
  | 1 => q
  | _ => q ^ 2
def uf (q : Int) : Nat → Int
  | 0 => q
  | 1 => 1
  | _ => q
def vf (q : Int) : Nat → Int
  | 0 => q - 1
  | 1 => 0
  | _ => q - 1
theorem fd2 (a : Nat) : Int.fdiv (a : Int) 2 = ((a / 2 : Nat) : Int) := fdiv_nat a 2
theorem fm2 (a : Nat) : Int.fmod (a : Int) 2 = ((a % 2 : Nat) : Int) := fmod_nat a 2
theorem nn (j : Nat) : (j : Int) * ((j : Int) - 1) = ((j * (j - 1) : Nat) : Int) := by
  cases j with
  | zero => rfl
  | succ j => simp only [Nat.add_sub_cancel]; push_cast; grind
theorem even_half (j : Nat) : 2 ∣ j * (j - 1) := by
  cases j with
  | zero => exact ⟨0, rfl⟩
  | succ j =>
    simp only [Nat.add_sub_cancel]
    rcases Nat.mod_two_eq_zero_or_one j with h | h
    · exact Nat.dvd_mul_left_of_dvd (Nat.dvd_of_mod_eq_zero h) _
    · exact Nat.dvd_mul_right_of_dvd (Nat.dvd_of_mod_eq_zero (by omega)) _
section
variable {n : Nat} {q : Int} (hq : 2 ≤ q) (hq2 : q ≤ 1000) (g : List (List D))
include hq hq2
theorem q6 : q ≤ 1000000 := by omega
theorem same_ok (h : 5 < n) {m r : Nat} (hm : m ≤ 31) (hr : r ≤ m) : F n 5 [.int q, .int m, .int r] g = .ok (.int (G q m r * cc q q (q - 1) r), g) := by
  have h6 := q6 hq hq2
  have p1 := number_ok hq h6 g (n := 5) (by decide) hm hr
  have p2 := fun k hk => power_ok hq h6 g (n := 5) (by decide) (k := k) hk
  have p3 := fun k hk => odd_ok hq h6 g (n := 5) (by decide) (k := k) hk
  have d2 : ∀ x, divOk x 2 = true := fun x => divOk_s (by decide) (by decide)
  have b : (20 * m + 1) * r ≤ 621 * 31 := Nat.mul_le_mul (by omega) (by omega)
  have sG := Sz_G hq h6 hr
  have key : ∀ (k pw : Nat), pw ≤ 272 → k ≤ 16 → cc q q (q - 1) r = q ^ pw * odd q k → mulOk (G q m r) (q ^ pw) = true ∧ mulOk (G q m r * q ^ pw) (odd q k) = true := fun k pw h1 h2 _ => by
    have s2 := Sz_pw hq h6 pw
    have s3 := Sz_odd hq h6 k
    have b2 : k * k ≤ 16 * 16 := Nat.mul_le_mul h2 h2
    exact ⟨sG.mulOk s2 (by omega) (by omega), (sG.mul s2).mulOk s3 (by omega) (by omega)⟩
  rw [F5 h]
  rcases Nat.mod_two_eq_zero_or_one r with e | e
  · obtain ⟨j, rfl⟩ : ∃ j, r = 2 * j := ⟨r / 2, by omega⟩
    have c := (c_same (q := q) j).1
    have b4 : j * (j + 1) ≤ 16 * 17 := Nat.mul_le_mul (by omega) (by omega)
    obtain ⟨m1, m2⟩ := key j (j * (j + 1)) b4 (by omega) c
    have f1 : (((2 * j : Nat) : Int) + 1).fdiv 2 = (j : Int) := by rw [show ((2 * j : Nat) : Int) + 1 = ((2 * j + 1 : Nat) : Int) by omega, fd2]; congr 1; omega
    have f2 : ((2 * j : Nat) : Int).fmod 2 = 0 := by rw [fm2]; omega
    have m0 : mulOk (j : Int) ((j : Int) + 1) = true := mulOk_l (by omega)
    have cst : (j : Int) * ((j : Int) + 1) = ((j * (j + 1) : Nat) : Int) := by push_cast; rfl
    simp [exD, b5, d2, f1, f2, m0, cst, p1, p2 _ (show j * (j + 1) ≤ 2000 by omega), p3 j (by omega), m1, m2, c, Int.mul_assoc, -Int.natCast_add, -Int.natCast_mul]
  · obtain ⟨j, rfl⟩ : ∃ j, r = 2 * j + 1 := ⟨r / 2, by omega⟩
    have c := (c_same (q := q) j).2
    have b4 : (j + 1) * j ≤ 16 * 16 := Nat.mul_le_mul (by omega) (by omega)
    obtain ⟨m1, m2⟩ := key (j + 1) ((j + 1) * j) (by omega) (by omega) c
    have f1 : (((2 * j + 1 : Nat) : Int) + 1).fdiv 2 = ((j + 1 : Nat) : Int) := by rw [show ((2 * j + 1 : Nat) : Int) + 1 = ((2 * j + 1 + 1 : Nat) : Int) by omega, fd2]; congr 1; omega
    have f2 : ((2 * j + 1 : Nat) : Int).fmod 2 = 1 := by rw [fm2]; omega
    have m0 : mulOk ((j + 1 : Nat) : Int) (((j + 1 : Nat) : Int) - 1) = true := mulOk_l (by omega)
    have cst := nn (j + 1)
    rw [Nat.add_sub_cancel] at cst
    simp [exD, b5, d2, f1, f2, m0, cst, p1, p2 _ (show (j + 1) * j ≤ 2000 by omega), p3 (j + 1) (by omega), m1, m2, c, Int.mul_assoc, -Int.natCast_add, -Int.natCast_mul]
theorem alt_ok (h : 6 < n) {m r : Nat} (hm : m ≤ 31) (hr : r ≤ m) : F n 6 [.int q, .int m, .int r] g = .ok (.int (G q m r * cc q 1 0 r), g) := by
  have h6 := q6 hq hq2
  have p1 := number_ok hq h6 g (n := 6) (by decide) hm hr
  have p2 := fun k hk => power_ok hq h6 g (n := 6) (by decide) (k := k) hk
  have p3 := fun k hk => odd_ok hq h6 g (n := 6) (by decide) (k := k) hk
  have d2 : ∀ x, divOk x 2 = true := fun x => divOk_s (by decide) (by decide)
  have b : (20 * m + 1) * r ≤ 621 * 31 := Nat.mul_le_mul (by omega) (by omega)
  have sG := Sz_G hq h6 hr
  rw [F6 h]
  rcases Nat.mod_two_eq_zero_or_one r with e | e
  · obtain ⟨j, rfl⟩ : ∃ j, r = 2 * j := ⟨r / 2, by omega⟩
    have c := (c_alt (q := q) j).1
    have b4 : j * (j - 1) ≤ 16 * 16 := Nat.mul_le_mul (by omega) (by omega)
    have s2 := Sz_pw hq h6 (j * (j - 1))
    have s3 := Sz_odd hq h6 j
    have b2 : j * j ≤ 16 * 16 := Nat.mul_le_mul (by omega) (by omega)
    have m1 : mulOk (G q m (2 * j)) (q ^ (j * (j - 1))) = true := sG.mulOk s2 (by omega) (by omega)
    have m2 : mulOk (G q m (2 * j) * q ^ (j * (j - 1))) (odd q j) = true := (sG.mul s2).mulOk s3 (by omega) (by omega)
    have f1 : ((2 * j : Nat) : Int).fdiv 2 = (j : Int) := by rw [fd2]; congr 1; omega
    have f2 : ((2 * j : Nat) : Int).fmod 2 = 0 := by rw [fm2]; omega
    have m0 : mulOk (j : Int) ((j : Int) - 1) = true := mulOk_l (by omega)
    simp [exD, b6, d2, f1, f2, m0, nn, p1, p2 _ (show j * (j - 1) ≤ 2000 by omega), p3 j (by omega), m1, m2, c, Int.mul_assoc, -Int.natCast_add, -Int.natCast_mul]
  · obtain ⟨j, rfl⟩ : ∃ j, r = 2 * j + 1 := ⟨r / 2, by omega⟩
    have c := (c_alt (q := q) j).2
    have f2 : ((2 * j + 1 : Nat) : Int).fmod 2 = 1 := by rw [fm2]; omega
    simp [exD, b6, f2, c, -Int.natCast_add, -Int.natCast_mul]
theorem Sz_sg (r : Nat) : Sz (20 * (r + 1) + 3) (q ^ (r + 1) + 1 - 2 * (((r + 1) % 2 : Nat) : Int)) := by
  have p := pw_pos hq (r + 1)
  have s3 : Sz (20 * (r + 1) + 3) (q ^ (r + 1) + 1) := ((Sz_pw hq (q6 hq hq2) (r + 1)).add Sz.one).mono (by omega)
  have e : (0 : Int) ≤ (((r + 1) % 2 : Nat) : Int) ∧ (((r + 1) % 2 : Nat) : Int) ≤ 1 := by omega
  generalize (((r + 1) % 2 : Nat) : Int) = x at e ⊢
  generalize q ^ (r + 1) = y at *
  exact s3.le (by omega) (by omega)
theorem Sz_sgn : ∀ r, Sz (20 * (r * r) + 3 * r + 1 + 20 * r) (sgn q r)
  | 0 => Sz.one
  | r + 1 => by
    have sq : (r + 1) * (r + 1) = r * r + 2 * r + 1 := by rw [Nat.mul_succ, Nat.succ_mul]; omega
    exact ((Sz_sgn r).mul (Sz_sg hq hq2 r)).mono (by omega)
end
end K60

namespace K60
open PySem Fz
section
variable {n : Nat} {q : Int} (hq : 2 ≤ q) (hq2 : q ≤ 1000) (g : List (List D))
include hq hq2
/-- the three ways as data -/
def wy (q : Int) (s n r : Nat) : D := .tup [.int (W (Qf q s) (uf q s) (vf q s) n r 0), .int (W (Qf q s) (uf q s) (vf q s) n r 1), .int (W (Qf q s) (uf q s) (vf q s) n r 2)]
theorem wy_eq {m r : Nat} (s : Nat) : wy q s m r = match s with
    | 0 => .tup [.int (q ^ r), .int ((q - 1) * q ^ r), .int (q ^ (m + 1) - q ^ (r + 1))]
    | 1 => .tup [.int (q ^ r), .int 0, .int (q ^ m - q ^ r)]
    | _ => .tup [.int (q ^ (2 * r)), .int ((q - 1) * q ^ (2 * r)), .int (q ^ (2 * m + 1) - q * q ^ (2 * r))] := by
  match s with
  | 0 =>
    have : q * (q ^ m - q ^ r) = q ^ (m + 1) - q ^ (r + 1) := by rw [Int.pow_succ, Int.pow_succ]; grind
    simp [wy, W, Qf, uf, vf, this]
  | 1 => simp [wy, W, Qf, uf, vf]
  | _ + 2 =>
    have : q * (q ^ (2 * m) - q ^ (2 * r)) = q ^ (2 * m + 1) - q * q ^ (2 * r) := by rw [Int.pow_succ]; grind
    simp [wy, W, Qf, uf, vf, ← Int.pow_mul, this]
end
end K60

namespace K60
open PySem Fz
def pws (q : Int) (m : Nat) : List D := rl (m + 1) fun j => q ^ j
section
variable {n : Nat} {q : Int} (hq : 2 ≤ q) (hq2 : q ≤ 1000) (g : List (List D))
include hq hq2
theorem powers_ok (h : 14 < n) {m : Nat} (hm : m ≤ 1000) : F n 14 [.int q, .int m] g = .ok (.lst (pws q m), g) := by
  have L := forL_rng (bind := asg (.nm 3)) (body := exB ⟨F 14, C⟩ b14_0) (post := postF [3] false 1) (ok := fun _ => true) (fun i => ⟨[some (.int q), some (.int m), some (.ref 0), none], [pws q i], g⟩) 0 m (fun i r hi => by
    have e : mulOk (q ^ i) q = true := mulOk_r (by omega)
    have a : ixI (i + 1) (-1) = some i := ixI_neg (k := 1) (by decide) (by omega)
    have l : i + 1 < mxLen := Nat.lt_of_lt_of_le (show i + 1 < 10000 by omega) (by decide)
    simp [forL_cons, b14_0, pws, e, a, rl_get (Nat.lt_succ_self i), l, rl_succ (m := i + 1), Int.pow_succ])
  have r : rngF [.int (m : Int)] = some (rngL 0 m) := rng_1 (by omega) (by omega)
  have p0 : pws q 0 = [.int 1] := by simp [pws, rl]
  have p1 : okRets (pws q m) = true := rl_ok
  rw [F14 h]
  rw [p0] at L
  simp [exD, b14, r, L, newL_1, rsL_ok _ p1]
theorem lways_ok (h : 15 < n) {M m r : Nat} (hM : 2 * m + 1 ≤ M) (hr : r ≤ m) (s : Nat) : F n 15 [.lst (pws q M), .int m, .int r, .str (nm s)] g = .ok (wy q s m r, g) := by
  have c1 : (m : Int) + 1 = ((m + 1 : Nat) : Int) := by omega
  have c2 : (r : Int) + 1 = ((r + 1 : Nat) : Int) := by omega
  have c3 : 2 * (m : Int) + 1 = ((2 * m + 1 : Nat) : Int) := by omega
  have c4 : 2 * (r : Int) = ((2 * r : Nat) : Int) := by omega
  have c5 : ((2 * r : Nat) : Int) + 1 = ((2 * r + 1 : Nat) : Int) := by omega
  have e3 : ∀ x, mulOk 2 x = true := fun x => mulOk_l (by omega)
  have ix : ∀ j : Nat, j ≤ M → ixI (M + 1) (j : Int) = some j := fun j hj => ixI_nat (by omega)
  have gt : ∀ j : Nat, j ≤ M → (rl (M + 1) fun j => q ^ j)[j]? = some (.int (q ^ j)) := fun j hj => rl_get (by omega)
  rw [F15 h, wy_eq hq hq2]
  match s with
  | 0 =>
    have x : (q - 1) * q ^ r = q ^ (r + 1) - q ^ r := by rw [Int.pow_succ]; grind
    simp only [exD, b15]
    simp [nm, pws, c1, c2, ix r (by omega), ix (r + 1) (by omega), ix (m + 1) (by omega), gt r (by omega), gt (r + 1) (by omega), gt (m + 1) (by omega), newT_ok', x, -Int.natCast_add]
  | 1 =>
    have e : ¬ (("alternating" : Str) = "same") := by decide
    simp only [exD, b15]
    simp [nm, pws, ix r (by omega), ix m (by omega), gt r (by omega), gt m (by omega), newT_ok', e]
  | _ + 2 =>
    have e : ¬ (("crossed" : Str) = "same") := by decide
    have e4 : ¬ (("crossed" : Str) = "alternating") := by decide
    have x : (q - 1) * q ^ (2 * r) = q ^ (2 * r + 1) - q ^ (2 * r) := by rw [Int.pow_succ]; grind
    have x2 : q * q ^ (2 * r) = q ^ (2 * r + 1) := by rw [Int.pow_succ]; grind
    simp only [exD, b15]
    simp [nm, pws, e3, c3, c4, c5, ix (2 * r) (by omega), ix (2 * r + 1) (by omega), ix (2 * m + 1) (by omega), gt (2 * r) (by omega), gt (2 * r + 1) (by omega), gt (2 * m + 1) (by omega), newT_ok', e, e4, x, x2, -Int.natCast_add, -Int.natCast_mul]
end
/-! ### the rows -/
/-- what a row of r first ranks gives, at rank j -/
def ac (Q u v : Int) (n i j : Nat) : Int :=
  (if j < i then N Q u v n j * W Q u v n j 0 else 0) + (if 1 ≤ j ∧ j - 1 < i then N Q u v n (j - 1) * W Q u v n (j - 1) 1 else 0) + (if 2 ≤ j ∧ j - 2 < i then N Q u v n (j - 2) * W Q u v n (j - 2) 2 else 0)
section
variable {Q u v : Int}
theorem ac_0 {n j : Nat} : ac Q u v n 0 j = 0 := by simp [ac]
theorem ac_succ {n i j : Nat} : ac Q u v n (i + 1) j = if j = i + 2 then ac Q u v n i (i + 2) + N Q u v n i * W Q u v n i 2 else if j = i + 1 then ac Q u v n i (i + 1) + N Q u v n i * W Q u v n i 1 else if j = i then ac Q u v n i i + N Q u v n i * W Q u v n i 0 else ac Q u v n i j := by
  by_cases h2 : j = i + 2
  · subst h2
    have z1 : ¬ i + 2 < i := by omega
    have z2 : ¬ i + 1 < i := by omega
    simp [ac, z1, z2]
  · by_cases h1 : j = i + 1
    · subst h1
      simp [ac]
      omega
    · by_cases h0 : j = i
      · subst h0
        simp [ac]
        omega
      · simp only [h2, h1, h0, if_false]
        unfold ac
        have a1 : (j < i + 1) = (j < i) := by apply propext; omega
        have a2 : (1 ≤ j ∧ j - 1 < i + 1) = (1 ≤ j ∧ j - 1 < i) := by apply propext; omega
        have a3 : (2 ≤ j ∧ j - 2 < i + 1) = (2 ≤ j ∧ j - 2 < i) := by apply propext; omega
        simp only [a1, a2, a3]
theorem ac_N (hQ : 2 ≤ Q) {n j : Nat} (h : j ≤ n + 1) : ac Q u v n (n + 1) j = N Q u v (n + 1) j := by
  unfold ac
  match j with
  | 0 => simp [N]
  | 1 =>
    by_cases e : 1 < n + 1
    · simp [N, e]
    · obtain rfl : n = 0 := by omega
      simp [N]
  | j + 2 =>
    rw [N]
    by_cases e : j + 2 < n + 1
    · have e1 : j + 1 < n + 1 := by omega
      have e2 : j < n + 1 := by omega
      simp [e, e1, e2]
    · have z : N Q u v n (j + 2) = 0 := N_big hQ (by omega)
      have e1 : j + 1 < n + 1 := by omega
      have e2 : j < n + 1 := by omega
      simp [z, e1, e2]
theorem ac_end (hQ : 2 ≤ Q) {n : Nat} : ac Q u v n (n + 1) (n + 2) = 0 := by
  unfold ac
  have e : ¬ n + 2 < n + 1 := by omega
  simp [W]
end
end K60

namespace K60
open PySem Fz
theorem forL_enu {bind : D → Wd → Option Wd} {body : Wd → R (Fl × Wd)} {post : Wd → Option Wd} {ok : Wd → Bool} {m : Nat} {f : Nat → Int} (st : Nat → Wd) (h : ∀ (i : Nat) r, i < m → forL bind body post ok (.tup [.int i, .int (f i)] :: r) (st i) = forL bind body post ok r (st (i + 1))) :
    forL bind body post ok (enuL 0 (rl m f)) (st 0) = .ok (.nx, st m) := by
  have := forL_run (bind := bind) (body := body) (post := post) (ok := ok) (f := fun i => .tup [.int i, .int (f i)]) st (enuL 0 (rl m f)) 0 (fun i hi => by
    have hi' : i < m := by rw [enuL_len, rl_len] at hi; exact hi
    have e := enuL_get (rl m f) 0 i _ (rl_get hi')
    rw [List.getElem?_eq_getElem hi] at e
    rw [Nat.zero_add, Option.some.inj e, Int.zero_add]) (fun i r h1 _ => h i r (by rw [enuL_len, rl_len] at h1; omega))
  rw [enuL_len, rl_len, Nat.zero_add] at this
  exact this
def B : Nat → Int
  | 0 => 1
  | n + 1 => B n * (3 * 1000 ^ (2 * n + 1))
theorem B_pos : ∀ n, 1 ≤ B n
  | 0 => by simp [B]
  | n + 1 => by
    have h1 := B_pos n
    have h2 := pw_pos' (q := 1000) (by decide) (2 * n + 1)
    rw [B]
    have := Int.mul_le_mul h1 (show 1 ≤ 3 * 1000 ^ (2 * n + 1) by omega) (by decide) (by omega)
    omega
theorem B_mono {n m : Nat} (h : n ≤ m) : B n ≤ B m := by
  obtain ⟨d, rfl⟩ : ∃ d, m = n + d := ⟨m - n, by omega⟩
  induction d with
  | zero => exact Int.le_refl _
  | succ d ih =>
    have ih := ih (by omega)
    have h1 := B_pos (n + d)
    have h2 := pw_pos' (q := 1000) (by decide) (2 * (n + d) + 1)
    show B n ≤ B (n + d) * (3 * 1000 ^ (2 * (n + d) + 1))
    have := Int.mul_le_mul_of_nonneg_left (show 1 ≤ 3 * 1000 ^ (2 * (n + d) + 1) by omega) (show 0 ≤ B (n + d) by omega)
    omega
theorem B_31 : (B 31).natAbs < 10 ^ 3000 := by decide +kernel
theorem B_31' : (B 31).natAbs < 2 ^ 10000 := by decide +kernel
section
variable {Q u v : Int} {Y : Int}
theorem NW {n : Nat} (hQ : 2 ≤ Q) (hN : ∀ r, 0 ≤ N Q u v n r ∧ N Q u v n r ≤ B n) (hW : ∀ r k, r ≤ n → 0 ≤ W Q u v n r k ∧ W Q u v n r k ≤ 1000 ^ (2 * n + 1)) (r k : Nat) : 0 ≤ N Q u v n r * W Q u v n r k ∧ N Q u v n r * W Q u v n r k ≤ B n * 1000 ^ (2 * n + 1) := by
  have p := pw_pos' (q := 1000) (by decide) (2 * n + 1)
  have b := B_pos n
  by_cases h : r ≤ n
  · have h1 := hN r
    have h2 := hW r k h
    exact ⟨Int.mul_nonneg h1.1 h2.1, Int.mul_le_mul h1.2 h2.2 h2.1 (by omega)⟩
  · rw [N_big hQ (by omega), Int.zero_mul]
    exact ⟨Int.le_refl _, Int.mul_nonneg (by omega) (by omega)⟩
theorem N_bnd (hQ : 2 ≤ Q) (hW : ∀ n r k, r ≤ n → 0 ≤ W Q u v n r k ∧ W Q u v n r k ≤ 1000 ^ (2 * n + 1)) : ∀ n r, 0 ≤ N Q u v n r ∧ N Q u v n r ≤ B n
  | 0, 0 => by simp [N, B]
  | 0, r + 1 => by simp [N, B]
  | n + 1, 0 => by
    have h := NW hQ (N_bnd hQ hW n) (hW n) 0 0
    rw [N, B]
    generalize N Q u v n 0 * W Q u v n 0 0 = a at *
    have : B n * (3 * 1000 ^ (2 * n + 1)) = 3 * (B n * 1000 ^ (2 * n + 1)) := by grind
    rw [this]
    generalize B n * 1000 ^ (2 * n + 1) = b at *
    omega
  | n + 1, 1 => by
    have h := NW hQ (N_bnd hQ hW n) (hW n) 1 0
    have h2 := NW hQ (N_bnd hQ hW n) (hW n) 0 1
    rw [N, B]
    generalize N Q u v n 1 * W Q u v n 1 0 = a at *
    generalize N Q u v n 0 * W Q u v n 0 1 = c at *
    have : B n * (3 * 1000 ^ (2 * n + 1)) = 3 * (B n * 1000 ^ (2 * n + 1)) := by grind
    rw [this]
    generalize B n * 1000 ^ (2 * n + 1) = b at *
    omega
  | n + 1, r + 2 => by
    have h := NW hQ (N_bnd hQ hW n) (hW n) (r + 2) 0
    have h2 := NW hQ (N_bnd hQ hW n) (hW n) (r + 1) 1
    have h3 := NW hQ (N_bnd hQ hW n) (hW n) r 2
    rw [N, B]
    generalize N Q u v n (r + 2) * W Q u v n (r + 2) 0 = a at *
    generalize N Q u v n (r + 1) * W Q u v n (r + 1) 1 = c at *
    generalize N Q u v n r * W Q u v n r 2 = d at *
    have : B n * (3 * 1000 ^ (2 * n + 1)) = 3 * (B n * 1000 ^ (2 * n + 1)) := by grind
    rw [this]
    generalize B n * 1000 ^ (2 * n + 1) = b at *
    omega
end
section
variable {n : Nat} {q : Int} (hq : 2 ≤ q) (hq2 : q ≤ 1000) (g : List (List D))
include hq hq2
theorem Q_2 (s : Nat) : 2 ≤ Qf q s := by
  match s with
  | 0 => exact hq
  | 1 => exact hq
  | _ + 2 =>
    show 2 ≤ q ^ 2
    have := Int.mul_le_mul hq hq (by decide) (by omega)
    rw [Int.pow_succ, Int.pow_succ, Int.pow_zero, Int.one_mul]
    omega
theorem W_bnd (s : Nat) (n r k : Nat) (h : r ≤ n) : 0 ≤ W (Qf q s) (uf q s) (vf q s) n r k ∧ W (Qf q s) (uf q s) (vf q s) n r k ≤ 1000 ^ (2 * n + 1) := by
  have mono : ∀ e, q ^ e ≤ 1000 ^ e := fun e => by
    induction e with
    | zero => simp
    | succ e ih => rw [Int.pow_succ, Int.pow_succ]; exact Int.mul_le_mul ih hq2 (by omega) (by have := pw_pos' (q := 1000) (by decide) e; omega)
  have m1 := mono (2 * n + 1)
  have qs : Qf q s ^ r ≤ q ^ (2 * n) ∧ Qf q s ^ n ≤ q ^ (2 * n) ∧ 1 ≤ Qf q s ^ r ∧ Qf q s ^ r ≤ Qf q s ^ n := by
    have hQ := Q_2 hq hq2 s
    refine ⟨?_, ?_, pw_pos' (by omega) r, pw_le' (by omega) h⟩
    · match s with
      | 0 => exact pw_le' (by omega) (by omega)
      | 1 => exact pw_le' (by omega) (by omega)
      | _ + 2 => show (q ^ 2) ^ r ≤ _; rw [← Int.pow_mul]; exact pw_le' (by omega) (by omega)
    · match s with
      | 0 => exact pw_le' (by omega) (by omega)
      | 1 => exact pw_le' (by omega) (by omega)
      | _ + 2 => show (q ^ 2) ^ n ≤ _; rw [← Int.pow_mul]; exact Int.le_refl _
  have us : 0 ≤ uf q s ∧ uf q s ≤ q ∧ 0 ≤ vf q s ∧ vf q s ≤ q := by
    match s with
    | 0 => simp [uf, vf]; omega
    | 1 => simp [uf, vf]; omega
    | _ + 2 => simp [uf, vf]; omega
  have p := pw_pos hq (2 * n)
  have e : q ^ (2 * n + 1) = q * q ^ (2 * n) := by rw [Int.pow_succ, Int.mul_comm]
  rw [e] at m1
  have q1 := Int.mul_le_mul_of_nonneg_right (show 1 ≤ q by omega) (show 0 ≤ q ^ (2 * n) by omega)
  obtain ⟨a1, a2, a3, a4⟩ := qs
  obtain ⟨b1, b2, b4, b5⟩ := us
  match k with
  | 0 => show 0 ≤ Qf q s ^ r ∧ Qf q s ^ r ≤ _; omega
  | 1 =>
    show 0 ≤ vf q s * Qf q s ^ r ∧ vf q s * Qf q s ^ r ≤ _
    have := Int.mul_le_mul b5 a1 (by omega) (by omega)
    exact ⟨Int.mul_nonneg b4 (by omega), by omega⟩
  | _ + 2 =>
    show 0 ≤ uf q s * (Qf q s ^ n - Qf q s ^ r) ∧ uf q s * (Qf q s ^ n - Qf q s ^ r) ≤ _
    have := Int.mul_le_mul b2 (show Qf q s ^ n - Qf q s ^ r ≤ q ^ (2 * n) by omega) (by omega) (by omega)
    exact ⟨Int.mul_nonneg b1 (by omega), by omega⟩
theorem N_B (s m r : Nat) : 0 ≤ N (Qf q s) (uf q s) (vf q s) m r ∧ N (Qf q s) (uf q s) (vf q s) m r ≤ B m := N_bnd (Q_2 hq hq2 s) (W_bnd hq hq2 s) m r
theorem Sz_N (s : Nat) {m : Nat} (hm : m ≤ 31) (r : Nat) : Sz 10000 (N (Qf q s) (uf q s) (vf q s) m r) := by
  have h := N_B hq hq2 s m r
  have h2 := B_mono hm
  have h3 := B_31'
  unfold Sz
  generalize (2 : Nat) ^ 10000 = x at *
  omega
theorem fig_N (s : Nat) {m : Nat} (hm : m ≤ 31) (r : Nat) : (N (Qf q s) (uf q s) (vf q s) m r).natAbs < 10 ^ 3000 := by
  have h := N_B hq hq2 s m r
  have h2 := B_mono hm
  have h3 := B_31
  generalize (10 : Nat) ^ 3000 = x at *
  omega
theorem Sz_W (s : Nat) {m r k : Nat} (hm : m ≤ 31) (hr : r ≤ m) : Sz 1000 (W (Qf q s) (uf q s) (vf q s) m r k) := by
  have h := W_bnd hq hq2 s m r k hr
  have h2 := pw_le' (q := 1000) (by decide) (show 2 * m + 1 ≤ 63 by omega)
  have h3 : ((1000 : Int) ^ 63).natAbs < 2 ^ 1000 := by decide +kernel
  unfold Sz
  generalize (2 : Nat) ^ 1000 = x at *
  generalize (1000 : Int) ^ 63 = y at *
  omega
end
end K60

namespace K60
open PySem Fz
/-- a row of ranks -/
def row (q : Int) (s m : Nat) : List D := rl (m + 1) fun r => N (Qf q s) (uf q s) (vf q s) m r
theorem row_len {q : Int} {s m : Nat} : (row q s m).length = m + 1 := rl_len
theorem row_ok {q : Int} {s m : Nat} : okRets (row q s m) = true := rl_ok
theorem row_0 {q : Int} {s : Nat} : row q s 0 = [.int 1] := by simp [row, rl, N]
theorem mul0 {k : Nat} (h : k ≤ 100000) {w : Wd} : opF .mul 1 (.lst [.int 0]) (.int k) w = .ok (.ref w.m.length, { w with m := w.m ++ [rl k fun _ => 0] }) := by
  rw [op_mulL (by omega) (show 1 * k ≤ mxLen by rw [Nat.one_mul]; exact le_mx h), rl_rep, newL_1 (by rw [rl_len]; exact le_mx h)]
section
variable {n : Nat} {q : Int} (hq : 2 ≤ q) (hq2 : q ≤ 1000) (g : List (List D))
include hq hq2
theorem lranks_ok (h : 16 < n) {m : Nat} (hm : m ≤ 31) (s : Nat) : F n 16 [.int q, .int m, .str (nm s)] g = .ok (.tup (row q s m), g) := by
  have hQ := Q_2 hq hq2 s
  have p1 := powers_ok hq hq2 g (n := 16) (by decide) (m := 2 * m + 2) (by omega)
  have p2 := fun {i r : Nat} (hi : i < m) (hr : r ≤ i) => lways_ok hq hq2 g (n := 16) (by decide) (M := 2 * m + 2) (m := i) (r := r) (by omega) hr s
  -- one row
  have L1 : ∀ i, i < m → forL (asg (.tu [.nm 7, .nm 8])) (exB ⟨F 16, C⟩ b16_0) (postF [7, 8, 9, 10, 11] false 1) (fun _ => true) (enuL 0 (row q s i)) ⟨[some (.int q), some (.int m), some (.str (nm s)), some (.lst (row q s i)), some (.lst (pws q (2 * m + 2))), some (.int i), some (.ref 0), none, none, none, none, none], [rl (i + 4) fun _ => 0], g⟩ =
      .ok (.nx, ⟨[some (.int q), some (.int m), some (.str (nm s)), some (.lst (row q s i)), some (.lst (pws q (2 * m + 2))), some (.int i), some (.ref 0), none, none, none, none, none], [rl (i + 4) fun j => ac (Qf q s) (uf q s) (vf q s) i (i + 1) j], g⟩) := fun i hi => by
    have z : (rl (i + 4) fun _ => 0) = rl (i + 4) fun j => ac (Qf q s) (uf q s) (vf q s) i 0 j := rl_congr fun j _ => ac_0.symm
    rw [z]
    refine forL_enu (m := i + 1) (f := fun r => N (Qf q s) (uf q s) (vf q s) i r) (fun r => ⟨[some (.int q), some (.int m), some (.str (nm s)), some (.lst (row q s i)), some (.lst (pws q (2 * m + 2))), some (.int i), some (.ref 0), none, none, none, none, none], [rl (i + 4) fun j => ac (Qf q s) (uf q s) (vf q s) i r j], g⟩) fun r w hr => ?_
    have hr : r ≤ i := by omega
    have c1 : (r : Int) + 1 = ((r + 1 : Nat) : Int) := by omega
    have c2 : (r : Int) + 2 = ((r + 2 : Nat) : Int) := by omega
    have ix : ∀ j : Nat, j < i + 4 → ixI (i + 4) (j : Int) = some j := fun j hj => ixI_nat hj
    have mu : ∀ k, mulOk (N (Qf q s) (uf q s) (vf q s) i r) (W (Qf q s) (uf q s) (vf q s) i r k) = true := fun k => (Sz_N hq hq2 s (by omega) r).mulOk (Sz_W hq hq2 s (by omega) hr) (by decide) (by decide)
    have fin : (rl (i + 4) fun j => ac (Qf q s) (uf q s) (vf q s) i (r + 1) j) = rl (i + 4) fun j => if j = r + 2 then ac (Qf q s) (uf q s) (vf q s) i r (r + 2) + N (Qf q s) (uf q s) (vf q s) i r * W (Qf q s) (uf q s) (vf q s) i r 2 else if j = r + 1 then ac (Qf q s) (uf q s) (vf q s) i r (r + 1) + N (Qf q s) (uf q s) (vf q s) i r * W (Qf q s) (uf q s) (vf q s) i r 1 else if j = r then ac (Qf q s) (uf q s) (vf q s) i r r + N (Qf q s) (uf q s) (vf q s) i r * W (Qf q s) (uf q s) (vf q s) i r 0 else ac (Qf q s) (uf q s) (vf q s) i r j := rl_congr fun j _ => ac_succ
    rw [fin]
    simp [forL_cons, b16_0, p2 hi hr, rsL_ok _ (show okRets (pws q (2 * m + 2)) = true from rl_ok), wy, c1, c2, ix r (by omega), ix (r + 1) (by omega), ix (r + 2) (by omega), mu, rl_get (show r < i + 4 by omega), rl_get (show r + 1 < i + 4 by omega), rl_get (show r + 2 < i + 4 by omega), rl_set, -Int.natCast_add]
  have L := forL_rng (bind := asg (.nm 5)) (body := exB ⟨F 16, C⟩ b16_1) (post := postF [5, 6, 7, 8, 9, 10, 11] true 0) (ok := fun _ => true) (fun i => ⟨[some (.int q), some (.int m), some (.str (nm s)), some (.lst (row q s i)), some (.lst (pws q (2 * m + 2))), none, none, none, none, none, none, none], [], g⟩) 0 m (fun i r hi => by
    have c1 : (i : Int) + 4 = ((i + 4 : Nat) : Int) := by omega
    have c2 : (i : Int) + 2 = ((i + 2 : Nat) : Int) := by omega
    have tk : cut (rl (i + 4) fun j => ac (Qf q s) (uf q s) (vf q s) i (i + 1) j) none (some ((i + 2 : Nat) : Int)) = row q s (i + 1) := by
      rw [cut_to, rl_take (by omega)]
      exact rl_congr fun j hj => ac_N hQ (by omega)
    have nl : ∀ w, newL 0 (row q s (i + 1)) w = .ok (.lst (row q s (i + 1)), w) := fun w => newL_0 (le_mx (by rw [row_len]; omega))
    have n0 : ∀ w, newL 0 [D.int 0] w = .ok (.lst [.int 0], w) := fun w => newL_0 (le_mx (show 1 ≤ 100000 by decide))
    simp [forL_cons, b16_1, n0, c1, c2, mul0 (show i + 4 ≤ 100000 by omega), L1 i hi, tk, nl, gc_eq, rsL_ok _ (row_ok (q := q) (s := s) (m := i + 1)), rsL_ok _ (show okRets (pws q (2 * m + 2)) = true from rl_ok), -Int.natCast_add])
  have r : rngF [.int (m : Int)] = some (rngL 0 m) := rng_1 (by omega) (by omega)
  have c1 : 2 * (m : Int) + 2 = ((2 * m + 2 : Nat) : Int) := by omega
  have m2 : mulOk 2 (m : Int) = true := mulOk_l (by decide)
  have nt : ∀ w, newT (row q s m) w = .ok (.tup (row q s m), w) := fun w => newT_ok' (le_mx (by rw [row_len]; omega))
  rw [F16 h]
  rw [row_0] at L
  simp only [exD, b16]
  simp [m2, c1, p1, newL_0, newT_ok', r, L, nt, rsL_ok _ (row_ok (q := q) (s := s) (m := m)), -Int.natCast_add]
end
end K60

namespace K60
open PySem Fz
/-- a kind -/
inductive Kd where
  | alt (r : Nat) | two (r : Nat) | odd (r : Nat) (s : Int)
def Kd.d : Kd → D
  | .alt r => .tup [.str "alternating", .int r]
  | .two r => .tup [.str "same", .int r]
  | .odd r s => .tup [.str "same", .int r, .int s]
def sN (p : Int) (m r : Nat) : Int := N p p (p - 1) m r
def aN (p : Int) (m r : Nat) : Int := N p 1 0 m r
/-- half of them -/
def hf (x p : Int) (k : Nat) (s : Int) : Int := (x * (p ^ k + s)).fdiv (2 * p ^ k)
def kn (p : Int) (m : Nat) : Kd → Int
  | .alt r => aN p m r
  | .two r => sN 2 m r - aN 2 m r
  | .odd r s => if r % 2 = 1 then (sN p m r).fdiv 2 else hf (sN p m r) p (r / 2) (if p % 4 = 1 ∨ r % 4 = 0 then s else -s)
/-- a kind of tables of m letters -/
def Vk (p : Int) (m : Nat) : Kd → Prop
  | .alt r => r % 2 = 0 ∧ r ≤ m
  | .two r => p = 2 ∧ 1 ≤ r ∧ r ≤ m
  | .odd r s => p ≠ 2 ∧ 1 ≤ r ∧ r ≤ m ∧ (s = 1 ∨ s = -1)
def blk (p : Int) (r : Nat) : List Kd := if p = 2 then [.two r] else [.odd r 1, .odd r (-1)]
def evs (m : Nat) : List Kd := (List.range (m / 2 + 1)).map fun i => .alt (2 * i)
def kl (p : Int) (m : Nat) : Nat → List Kd
  | 0 => evs m
  | i + 1 => kl p m i ++ blk p (i + 1)
def kinds (p : Int) (m : Nat) : List Kd := kl p m m
theorem evs_ok {p : Int} {m : Nat} : ∀ k ∈ evs m, Vk p m k := fun k h => by
  obtain ⟨i, hi, rfl⟩ := List.mem_map.mp h
  have := List.mem_range.mp hi
  exact ⟨by omega, by omega⟩
theorem kl_ok {p : Int} {m : Nat} : ∀ i, i ≤ m → ∀ k ∈ kl p m i, Vk p m k
  | 0, _, k, h => evs_ok k h
  | i + 1, hi, k, h => by
    rcases List.mem_append.mp h with h | h
    · exact kl_ok i (by omega) k h
    · unfold blk at h
      split at h
      · rename_i hp
        rw [List.mem_singleton.mp h]
        exact ⟨hp, by omega, hi⟩
      · rename_i hp
        rcases List.mem_cons.mp h with rfl | h
        · exact ⟨hp, by omega, hi, .inl rfl⟩
        · rw [List.mem_singleton.mp h]
          exact ⟨hp, by omega, hi, .inr rfl⟩
theorem kl_len {p : Int} {m : Nat} : ∀ i, (kl p m i).length ≤ m + 1 + 2 * i ∧ 0 < (kl p m i).length
  | 0 => by simp [kl, evs]; omega
  | i + 1 => by
    have := kl_len (p := p) (m := m) i
    have : (blk p (i + 1)).length ≤ 2 := by unfold blk; split <;> simp
    rw [kl, List.length_append]
    omega
theorem d_ok (l : List Kd) : okRets (l.map Kd.d) = true := okRets_all fun d hd => by
  obtain ⟨k, _, rfl⟩ := List.mem_map.mp hd
  cases k <;> rfl
theorem stepL_map (lo c : Int) : ∀ n, stepL lo c n = (List.range n).map fun i : Nat => D.int (lo + i * c)
  | 0 => rfl
  | n + 1 => by
    rw [List.range_succ_eq_map, List.map_cons, List.map_map, stepL, stepL_map (lo + c) c n]
    congr 1
    · simp
    · refine List.map_congr_left fun i _ => ?_
      show D.int _ = D.int _
      congr 1
      have : ((Nat.succ i : Nat) : Int) = i + 1 := rfl
      rw [this, Int.add_mul, Int.one_mul]
      omega
theorem rng_ev {m : Nat} (h : m ≤ 1000) : rngF [.int 0, .int ((m : Int) + 1), .int 2] = some (stepL 0 2 (m / 2 + 1)) := by
  have e : (Builtin.Range.rangeSize 0 ((m : Int) + 1) 2).toNat = m / 2 + 1 := by
    unfold Builtin.Range.rangeSize
    simp
    omega
  have s : Builtin.Range.small 0 ((m : Int) + 1) 2 = true := by
    unfold Builtin.Range.small Builtin.Range.rangeSize Builtin.Range.rangeFitsLong
    simp
    omega
  unfold rngF
  simp [s, e]
section
variable {n : Nat} {p : Int} (g : List (List D))
theorem kinds_ok (h : 20 < n) {m : Nat} (hm : m ≤ 100) : F n 20 [.int p, .int m] g = .ok (.lst ((kinds p m).map Kd.d), g) := by
  have r1 := rng_ev (m := m) (by omega)
  have r2 : rngF [.int 1, .int ((m : Int) + 1)] = some (rngL 1 m) := rng_2 (by omega) (by omega) (by omega)
  have co := coL_map (bind := asg (.nm 3)) (test := evC ⟨F 20, C⟩ .no) (elt := evE ⟨F 20, C⟩ e20_0) (ok := fun _ => true) (own := [3]) (σ := [some (.int p), some (.int m), none, none]) (m := []) (g := g) (fun d => .tup [.str "alternating", d]) (stepL 0 2 (m / 2 + 1)) []
    (by rw [stepL_length]; exact le_mx (by simp; omega)) (fun x hx r acc hacc => by
      rw [coL_cons]
      simp [e20_0, newT_ok', hacc])
  have ev : (stepL 0 2 (m / 2 + 1)).map (fun d => D.tup [.str "alternating", d]) = (evs m).map Kd.d := by
    rw [stepL_map, evs, List.map_map, List.map_map]
    refine List.map_congr_left fun i _ => ?_
    simp [Kd.d]
    omega
  rw [ev, List.nil_append] at co
  have L := forL_rng (bind := asg (.nm 3)) (body := exB ⟨F 20, C⟩ b20_0) (post := postF [3] false 1) (ok := fun _ => true) (fun i => ⟨[some (.int p), some (.int m), some (.ref 0), none], [(kl p m i).map Kd.d], g⟩) 1 m (fun i r hi => by
    have hl := (kl_len (p := p) (m := m) i).1
    have l1 : (kl p m i).length + 1 ≤ mxLen := le_mx (by omega)
    have l2 : (kl p m i).length + 2 ≤ mxLen := le_mx (by omega)
    have c1 : 1 + (i : Int) = ((i + 1 : Nat) : Int) := by omega
    have n1 : ∀ (a : D) w, newL 0 [a] w = .ok (.lst [a], w) := fun a w => newL_0 (show 1 ≤ mxLen by decide)
    have n2 : ∀ (a b : D) w, newL 0 [a, b] w = .ok (.lst [a, b], w) := fun a b w => newL_0 (show 2 ≤ mxLen by decide)
    by_cases hp : p = 2
    · simp [forL_cons, b20_0, c1, hp, newT_ok', n1, deq, kl, blk, Kd.d, l1, -Int.natCast_add]
      subst hp
      intro h
      omega
    · simp [forL_cons, b20_0, c1, hp, newT_ok', n1, n2, deq, kl, blk, Kd.d, l2, -Int.natCast_add])
  have n0 : ∀ w, newL 1 ((evs m).map Kd.d) w = .ok (.ref w.m.length, { w with m := w.m ++ [(evs m).map Kd.d] }) := fun w => newL_1 (le_mx (by simp [evs]; omega))
  rw [F20 h]
  rw [show kl p m 0 = evs m from rfl] at L
  simp [exD, b20, r1, r2, co, n0, L, rsL_ok _ (d_ok _), kinds]
end
end K60

namespace K60
open PySem Fz
theorem B_31s : (B 31).natAbs < 2 ^ 9700 := by decide +kernel
theorem fig_Sz {x : Int} (h : Sz 9800 x) : x.natAbs < 10 ^ 3000 := by
  have e : (2 : Nat) ^ 9800 < 10 ^ 3000 := by decide +kernel
  exact Nat.lt_trans h e
theorem Sz.fd {b : Nat} {x y : Int} (h : Sz b x) (hx : 0 ≤ x) (hy : 1 ≤ y) : Sz b (x.fdiv y) ∧ 0 ≤ x.fdiv y := by
  have e : x.fdiv y = x / y := Int.fdiv_eq_ediv_of_nonneg x (by omega)
  have h0 : 0 ≤ x / y := Int.ediv_nonneg hx (by omega)
  have h1 : x / y ≤ x := Int.ediv_le_self y hx
  rw [e]
  exact ⟨h.le h0 h1, h0⟩
section
variable {n : Nat} {p : Int} (hq : 2 ≤ p) (hq2 : p ≤ 1000) (g : List (List D))
include hq hq2
theorem s_bnd {m : Nat} (hm : m ≤ 31) (r : Nat) : 0 ≤ sN p m r ∧ Sz 9700 (sN p m r) := by
  have h := N_B hq hq2 0 m r
  refine ⟨h.1, ?_⟩
  have h2 := B_mono hm
  have h3 := B_31s
  unfold Sz
  have h1 : 0 ≤ sN p m r ∧ sN p m r ≤ B m := h
  generalize (2 : Nat) ^ 9700 = x at *
  omega
theorem a_bnd {m : Nat} (hm : m ≤ 31) (r : Nat) : 0 ≤ aN p m r ∧ Sz 9700 (aN p m r) := by
  have h := N_B hq hq2 1 m r
  refine ⟨h.1, ?_⟩
  have h2 := B_mono hm
  have h3 := B_31s
  unfold Sz
  have h1 : 0 ≤ aN p m r ∧ aN p m r ≤ B m := h
  generalize (2 : Nat) ^ 9700 = x at *
  omega
theorem same_ok' (h : 5 < n) {m r : Nat} (hm : m ≤ 31) (hr : r ≤ m) : F n 5 [.int p, .int m, .int r] g = .ok (.int (sN p m r), g) := by
  rw [same_ok hq hq2 g h hm hr, sN, N_eq hq]
theorem alt_ok' (h : 6 < n) {m r : Nat} (hm : m ≤ 31) (hr : r ≤ m) : F n 6 [.int p, .int m, .int r] g = .ok (.int (aN p m r), g) := by
  rw [alt_ok hq hq2 g h hm hr, aN, N_eq hq]
theorem lpower_ok (h : 17 < n) {k : Nat} (hk : k ≤ 2000) : F n 17 [.int p, .int k] g = .ok (.int (p ^ k), g) := by
  have L := forL_rng (bind := asg (.nm 3)) (body := exB ⟨F 17, C⟩ b17_0) (post := postF [3] false 0) (ok := fun _ => true) (fun i => ⟨[some (.int p), some (.int k), some (.int (p ^ i)), none], [], g⟩) 0 k (fun i r hi => by
    have e : mulOk (p ^ i) p = true := mulOk_r (by omega)
    simp [forL_cons, b17_0, e, Int.pow_succ])
  have r : rngF [.int (k : Int)] = some (rngL 0 k) := rng_1 (by omega) (by omega)
  rw [F17 h]
  rw [Int.pow_zero] at L
  simp [exD, b17, r, L]
theorem half_ok {x s : Int} {k : Nat} (hx : 0 ≤ x ∧ Sz 9700 x) (hk : k ≤ 31) (hs : s = 1 ∨ s = -1) : mulOk x (p ^ k + s) = true ∧ mulOk 2 (p ^ k) = true ∧ divOk (x * (p ^ k + s)) (2 * p ^ k) = true ∧ 0 ≤ hf x p k s ∧ Sz 9700 (hf x p k s) := by
  have s1 := Sz_pw hq (q6 hq hq2) k
  have pp := pw_pos hq k
  have s2 : Sz (20 * k + 2) (p ^ k + s) := (s1.add (show Sz 1 s by unfold Sz; rcases hs with rfl | rfl <;> decide)).mono (by omega)
  have s3 : Sz (20 * k + 3) (2 * p ^ k) := ((show Sz 2 2 by unfold Sz; decide).mul s1).mono (by omega)
  have nn : 0 ≤ x * (p ^ k + s) := Int.mul_nonneg hx.1 (by omega)
  refine ⟨hx.2.mulOk s2 (by omega) (by omega), mulOk_l (by decide), divOk_log (by omega) (s3.mono (by omega)), ?_⟩
  unfold hf
  rw [Int.fdiv_eq_ediv_of_nonneg _ (by omega)]
  have h1 : 0 ≤ x * (p ^ k + s) / (2 * p ^ k) := Int.ediv_nonneg nn (by omega)
  have h2 : x * (p ^ k + s) / (2 * p ^ k) ≤ x := by
    refine Int.ediv_le_of_le_mul (by omega) ?_
    exact Int.mul_le_mul_of_nonneg_left (by omega) hx.1
  exact ⟨h1, hx.2.le h1 h2⟩
theorem row_at (s : Nat) {m r : Nat} (hr : r ≤ m) : ixI (row p s m).length (r : Int) = some r ∧ (row p s m)[r]? = some (.int (N (Qf p s) (uf p s) (vf p s) m r)) := ⟨by rw [row_len]; exact ixI_nat (by omega), rl_get (by omega)⟩
theorem put_ok (h : 18 < n) {m r k : Nat} (hm : m ≤ 31) (hr : r ≤ m) (hk : k ≤ 31) {s : Int} (hs : s = 1 ∨ s = -1) (b : Bool) : F n 18 [.int p, .int m, .int r, .int k, .int s, .bl b] g = .ok (.int (hf (sN p m r) p k (if b then s else -s)), g) := by
  have p1 := lpower_ok hq hq2 g (n := 18) (by decide) (k := k) (by omega)
  have p2 := lranks_ok hq hq2 g (n := 18) (by decide) hm 0
  obtain ⟨i1, i2⟩ := row_at hq hq2 0 hr
  have hs2 : -s = 1 ∨ -s = -1 := by omega
  obtain ⟨a1, a2, a3, _⟩ := half_ok hq hq2 (s_bnd hq hq2 hm r) hk hs
  obtain ⟨b1, _, b3, _⟩ := half_ok hq hq2 (s_bnd hq hq2 hm r) hk hs2
  rw [F18 h]
  have e1 : N (Qf p 0) (uf p 0) (vf p 0) m r = sN p m r := rfl
  rw [e1] at i2
  simp only [nm] at p2
  cases b with
  | true => simp [exD, b18, p1, p2, i1, i2, newT_ok', a1, a2, a3, hf]
  | false => simp [exD, b18, p1, p2, i1, i2, newT_ok', b1, a2, b3, hf, Int.sub_eq_add_neg] 
omit hq2 in
theorem G_1 {m r : Nat} (h : r ≤ m) : 1 ≤ G p m r := by
  have h1 := G_pos hq m r
  have h2 := fl_G (q := p) m r
  have h3 := fl_pos hq h
  by_cases e : G p m r = 0
  · rw [e, Int.zero_mul] at h2
    omega
  · omega
omit hq2 in
theorem odd_1 : ∀ k, 1 ≤ odd p k
  | 0 => by simp [odd]
  | k + 1 => by
    have h1 := odd_1 k
    have h2 := pw_le hq (show 1 ≤ 2 * k + 1 by omega)
    rw [Int.pow_succ, Int.pow_zero, Int.one_mul] at h2
    have := Int.mul_le_mul h1 (show 1 ≤ p ^ (2 * k + 1) - 1 by omega) (by decide) (by omega)
    rw [odd]
    omega
omit hq2 in
theorem odd_2 (h3 : 3 ≤ p) (k : Nat) : 2 ≤ odd p (k + 1) := by
  have h1 := odd_1 hq k
  have h2 := pw_le hq (show 1 ≤ 2 * k + 1 by omega)
  rw [Int.pow_succ, Int.pow_zero, Int.one_mul] at h2
  have := Int.mul_le_mul h1 (show 2 ≤ p ^ (2 * k + 1) - 1 by omega) (by decide) (by omega)
  rw [odd]
  omega
omit hq2 in
theorem mul1 {a b c : Int} (h1 : 1 ≤ a) (h2 : c ≤ b) (h3 : 0 ≤ c) : c ≤ a * b := by
  have := Int.mul_le_mul h1 h2 h3 (by omega)
  omega
omit hq2 in
theorem s_1 {m r : Nat} (h : r ≤ m) : 1 ≤ sN p m r := by
  rw [sN, N_eq hq]
  refine mul1 hq (G_1 hq h) ?_ (by decide)
  rcases Nat.mod_two_eq_zero_or_one r with e | e
  · obtain ⟨j, rfl⟩ : ∃ j, r = 2 * j := ⟨r / 2, by omega⟩
    rw [(c_same j).1]
    exact mul1 hq (pw_pos hq _) (odd_1 hq j) (by decide)
  · obtain ⟨j, rfl⟩ : ∃ j, r = 2 * j + 1 := ⟨r / 2, by omega⟩
    rw [(c_same j).2]
    exact mul1 hq (pw_pos hq _) (odd_1 hq _) (by decide)
omit hq2 in
theorem a_1 {m r : Nat} (h : r ≤ m) (e : r % 2 = 0) : 1 ≤ aN p m r := by
  rw [aN, N_eq hq]
  refine mul1 hq (G_1 hq h) ?_ (by decide)
  obtain ⟨j, rfl⟩ : ∃ j, r = 2 * j := ⟨r / 2, by omega⟩
  rw [(c_alt j).1]
  exact mul1 hq (pw_pos hq _) (odd_1 hq j) (by decide)
omit hq2 in
theorem d_1 {m r : Nat} (h : r ≤ m) (h1 : 1 ≤ r) : 1 ≤ sN p m r - aN p m r := by
  rw [sN, aN, N_eq hq, N_eq hq, ← Int.mul_sub]
  refine mul1 hq (G_1 hq h) ?_ (by decide)
  rcases Nat.mod_two_eq_zero_or_one r with e | e
  · obtain ⟨j, rfl⟩ : ∃ j, r = 2 * j := ⟨r / 2, by omega⟩
    rw [(c_same j).1, (c_alt j).1, ← Int.sub_mul, Int.mul_comm]
    refine mul1 hq (odd_1 hq j) ?_ (by decide)
    have := pw_lt hq (show j * (j - 1) < j * (j + 1) from Nat.mul_lt_mul_of_pos_left (by omega) (by omega))
    omega
  · obtain ⟨j, rfl⟩ : ∃ j, r = 2 * j + 1 := ⟨r / 2, by omega⟩
    rw [(c_same j).2, (c_alt j).2, Int.sub_zero]
    exact mul1 hq (pw_pos hq _) (odd_1 hq _) (by decide)
omit hq2 in
theorem hf_1 (h3 : 3 ≤ p) {m r : Nat} {s : Int} (h : r ≤ m) (h1 : 1 ≤ r) (e : r % 2 = 0) (hs : s = 1 ∨ s = -1) : 1 ≤ hf (sN p m r) p (r / 2) s := by
  obtain ⟨j, rfl⟩ : ∃ j, r = 2 * (j + 1) := ⟨r / 2 - 1, by omega⟩
  have e : 2 * (j + 1) / 2 = j + 1 := by omega
  rw [e]
  have k1 : p ^ (j + 1) * 2 ≤ sN p m (2 * (j + 1)) := by
    rw [sN, N_eq hq]
    have pp := pw_pos hq (j + 1)
    refine mul1 hq (G_1 hq h) ?_ (by omega)
    rw [(c_same (j + 1)).1]
    exact Int.mul_le_mul (pw_le hq (Nat.le_mul_of_pos_right _ (by omega))) (odd_2 hq h3 j) (by decide) (by have := pw_pos hq ((j + 1) * (j + 1 + 1)); omega)
  have k2 := pw_le hq (show 1 ≤ j + 1 by omega)
  rw [Int.pow_succ, Int.pow_zero, Int.one_mul] at k2
  unfold hf
  rw [Int.fdiv_eq_ediv_of_nonneg _ (by omega)]
  refine (Int.le_ediv_iff_mul_le (by omega)).mpr ?_
  generalize p ^ (j + 1) = P at *
  generalize sN p m (2 * (j + 1)) = x at *
  have := Int.mul_le_mul k1 (show 2 ≤ P + s by omega) (by decide) (by omega)
  omega
theorem kn_bnd {m : Nat} (hm : m ≤ 31) {k : Kd} (hk : Vk p m k) : 1 ≤ kn p m k ∧ Sz 9700 (kn p m k) := by
  cases k with
  | alt r => exact ⟨a_1 hq hk.2 hk.1, (a_bnd hq hq2 hm r).2⟩
  | two r =>
    obtain ⟨rfl, h1, h2⟩ := hk
    have k1 := d_1 hq h2 h1
    have k2 := (s_bnd hq hq2 hm r).2
    have k3 := (a_bnd hq hq2 hm r).1
    exact ⟨k1, k2.le (show 0 ≤ sN 2 m r - aN 2 m r by omega) (by show sN 2 m r - aN 2 m r ≤ _; omega)⟩
  | odd r s =>
    obtain ⟨hp, h1, h2, hs⟩ := hk
    have h3 : 3 ≤ p := by omega
    have hs' : (if p % 4 = 1 ∨ r % 4 = 0 then s else -s) = 1 ∨ (if p % 4 = 1 ∨ r % 4 = 0 then s else -s) = -1 := by
      split <;> omega
    have sb := s_bnd hq hq2 hm r
    show 1 ≤ (if r % 2 = 1 then (sN p m r).fdiv 2 else hf (sN p m r) p (r / 2) (if p % 4 = 1 ∨ r % 4 = 0 then s else -s)) ∧ Sz 9700 (if r % 2 = 1 then (sN p m r).fdiv 2 else hf (sN p m r) p (r / 2) (if p % 4 = 1 ∨ r % 4 = 0 then s else -s))
    split
    · rename_i e
      refine ⟨?_, (Sz.fd sb.2 sb.1 (by decide)).1⟩
      obtain ⟨j, rfl⟩ : ∃ j, r = 2 * j + 1 := ⟨r / 2, by omega⟩
      have : 2 ≤ sN p m (2 * j + 1) := by
        rw [sN, N_eq hq]
        refine mul1 hq (G_1 hq h2) ?_ (by decide)
        rw [(c_same j).2]
        exact mul1 hq (pw_pos hq _) (odd_2 hq h3 _) (by decide)
      rw [Int.fdiv_eq_ediv_of_nonneg _ (by decide)]
      omega
    · exact ⟨hf_1 hq h3 h2 h1 (by omega) hs', (half_ok hq hq2 sb (by omega) hs').2.2.2.2⟩
end
end K60

namespace K60
open PySem Fz
theorem fm4 (p : Int) : p.fmod 4 = p % 4 := Int.fmod_eq_emod_of_nonneg _ (by decide)
theorem fm2' (p : Int) : p.fmod 2 = p % 2 := Int.fmod_eq_emod_of_nonneg _ (by decide)
section
variable {n : Nat} {p : Int} (hq : 2 ≤ p) (hq2 : p ≤ 1000) (g : List (List D))
include hq hq2
theorem kind_ok (h : 7 < n) {m : Nat} (hm : m ≤ 31) {k : Kd} (hk : Vk p m k) : F n 7 [.int p, .int m, k.d] g = .ok (.int (kn p m k), g) := by
  have d2 : ∀ x, divOk x 2 = true := fun x => divOk_s (by decide) (by decide)
  rw [F7 h]
  cases k with
  | alt r =>
    have p1 := alt_ok' hq hq2 g (n := 7) (by decide) hm hk.2
    simp [exD, b7, Kd.d, p1, kn]
  | two r =>
    obtain ⟨rfl, h1, h2⟩ := hk
    have p1 := alt_ok' hq hq2 g (n := 7) (by decide) hm h2
    have p2 := same_ok' hq hq2 g (n := 7) (by decide) hm h2
    have e1 : ¬ (("same" : Str) = "alternating") := by decide
    simp [exD, b7, Kd.d, p1, p2, kn, e1]
  | odd r s =>
    obtain ⟨hp, h1, h2, hs⟩ := hk
    have p2 := same_ok' hq hq2 g (n := 7) (by decide) hm h2
    have p3 := power_ok hq (q6 hq hq2) g (n := 7) (by decide) (k := r / 2) (by omega)
    have e1 : ¬ (("same" : Str) = "alternating") := by decide
    have c1 : (r : Int).fmod 2 = ((r % 2 : Nat) : Int) := fm2 r
    have c2 : (r : Int).fdiv 2 = ((r / 2 : Nat) : Int) := fd2 r
    have c4 : (r : Int).fmod 4 = ((r % 4 : Nat) : Int) := fmod_nat r 4
    have sb := s_bnd hq hq2 hm r
    obtain ⟨a1, a2, a3, _⟩ := half_ok hq hq2 (k := r / 2) sb (by omega) hs
    obtain ⟨b1, _, b3, _⟩ := half_ok hq hq2 (k := r / 2) sb (by omega) (show -s = 1 ∨ -s = -1 by omega)
    by_cases e : r % 2 = 1
    · simp [exD, b7, Kd.d, p2, kn, e1, hp, c1, e, d2, -Int.natCast_emod]
    · have e0 : r % 2 = 0 := by omega
      by_cases f1 : p % 4 = 1
      · simp [exD, b7, Kd.d, p2, p3, kn, e1, hp, c1, c2, e0, d2, fm4, f1, a1, a2, a3, hf, -Int.natCast_emod, -Int.natCast_ediv]
      · by_cases f2 : r % 4 = 0
        · simp [exD, b7, Kd.d, p2, p3, kn, e1, hp, c1, c2, c4, e0, d2, fm4, f1, f2, a1, a2, a3, hf, -Int.natCast_emod, -Int.natCast_ediv]
        · have f2' : ¬ ((r % 4 : Nat) : Int) = 0 := by omega
          simp [exD, b7, Kd.d, p2, p3, kn, e1, hp, c1, c2, c4, e0, d2, fm4, f1, f2, f2', b1, a2, b3, hf, -Int.natCast_emod, -Int.natCast_ediv]
theorem lkind_ok (h : 19 < n) {m : Nat} (hm : m ≤ 31) {k : Kd} (hk : Vk p m k) : F n 19 [.int p, .int m, k.d] g = .ok (.int (kn p m k), g) := by
  have d2 : ∀ x, divOk x 2 = true := fun x => divOk_s (by decide) (by decide)
  have l0 := lranks_ok hq hq2 g (n := 19) (by decide) hm 0
  have l1 := lranks_ok hq hq2 g (n := 19) (by decide) hm 1
  simp only [nm] at l0 l1
  rw [F19 h]
  cases k with
  | alt r =>
    obtain ⟨i1, i2⟩ := row_at hq hq2 1 hk.2
    rw [show N (Qf p 1) (uf p 1) (vf p 1) m r = aN p m r from rfl] at i2
    simp [exD, b19, Kd.d, l1, i1, i2, kn]
  | two r =>
    obtain ⟨rfl, h1, h2⟩ := hk
    obtain ⟨i1, i2⟩ := row_at hq hq2 1 h2
    rw [show N (Qf 2 1) (uf 2 1) (vf 2 1) m r = aN 2 m r from rfl] at i2
    obtain ⟨i3, i4⟩ := row_at hq hq2 0 h2
    rw [show N (Qf 2 0) (uf 2 0) (vf 2 0) m r = sN 2 m r from rfl] at i4
    have e1 : ¬ (("same" : Str) = "alternating") := by decide
    simp [exD, b19, Kd.d, l0, l1, i1, i2, i3, i4, kn, e1]
  | odd r s =>
    obtain ⟨hp, h1, h2, hs⟩ := hk
    obtain ⟨i3, i4⟩ := row_at hq hq2 0 h2
    rw [show N (Qf p 0) (uf p 0) (vf p 0) m r = sN p m r from rfl] at i4
    have e1 : ¬ (("same" : Str) = "alternating") := by decide
    have c1 : Builtin.bitAnd (r : Int) 1 = ((r % 2 : Nat) : Int) := by rw [PyProof.Rows.bitAnd_m1]; omega
    have c2 : (r : Int).fdiv 2 = ((r / 2 : Nat) : Int) := fd2 r
    have c4 : Builtin.bitAnd (r : Int) 3 = ((r % 4 : Nat) : Int) := by rw [PyProof.Rows.bitAnd_m2]; omega
    have c5 : Builtin.bitAnd p 3 = p % 4 := PyProof.Rows.bitAnd_m2 p
    have pu := put_ok hq hq2 g (n := 19) (by decide) hm h2 (k := r / 2) (by omega) hs
    by_cases e : r % 2 = 1
    · simp [exD, b19, Kd.d, l0, i3, i4, kn, e1, hp, c1, e, d2, -Int.natCast_emod]
    · have e0 : r % 2 = 0 := by omega
      by_cases f1 : p % 4 = 1
      · simp [exD, b19, Kd.d, l0, i3, i4, kn, e1, hp, c1, c2, e0, d2, c5, f1, pu, -Int.natCast_emod, -Int.natCast_ediv]
      · by_cases f2 : r % 4 = 0
        · simp [exD, b19, Kd.d, l0, i3, i4, kn, e1, hp, c1, c2, c4, c5, e0, d2, f1, f2, pu, -Int.natCast_emod, -Int.natCast_ediv]
        · have f2' : ¬ ((r % 4 : Nat) : Int) = 0 := by omega
          simp [exD, b19, Kd.d, l0, i3, i4, kn, e1, hp, c1, c2, c4, c5, e0, d2, f1, f2, f2', pu, -Int.natCast_emod, -Int.natCast_ediv]
theorem squares_ok (h : 3 < n) {m : Nat} (hm : m ≤ 31) : F n 3 [.int p, .int m] g = .ok (.int (fl p m m), g) := by
  have p1 := falls_ok hq (q6 hq hq2) g (n := 3) (by decide) hm (Nat.le_refl m)
  rw [F3 h]
  simp [exD, b3, p1]
theorem lsquares_ok (h : 21 < n) {m : Nat} (hm : m ≤ 31) : F n 21 [.int p, .int m] g = .ok (.int (fl p m m), g) := by
  have h6 := q6 hq hq2
  have p1 := fun k (hk : k ≤ 2000) => lpower_ok hq hq2 g (n := 21) (by decide) (k := k) hk
  have L := forL_rng (bind := asg (.nm 4)) (body := exB ⟨F 21, C⟩ b21_0) (post := postF [4] false 0) (ok := fun _ => true) (fun i => ⟨[some (.int p), some (.int m), some (.int (fl p m i)), some (.int (p ^ m)), none], [], g⟩) 0 m (fun i r hi => by
    have b : (20 * m + 1) * i ≤ 621 * 31 := Nat.mul_le_mul (by omega) (by omega)
    have e : mulOk (fl p m i) (p ^ m - p ^ i) = true := (Sz_fl hq h6 (show i ≤ m by omega)).mulOk (Sz_df hq h6 (show i ≤ m by omega)) (by omega) (by omega)
    simp [forL_cons, b21_0, e, p1 i (by omega), fl])
  have r : rngF [.int (m : Int)] = some (rngL 0 m) := rng_1 (by omega) (by omega)
  rw [F21 h]
  rw [fl] at L
  simp [exD, b21, p1 m (by omega), newT_ok', r, L]
theorem Sz_s {m : Nat} (hm : m ≤ 30) {r : Nat} (hr : r ≤ m) : Sz 9000 (sN p m r) := by
  have h0 := fun r => (N_B hq hq2 0 m r).1
  have h1 : sm (N p p (p - 1) m) (m + 1) = p ^ m * p ^ (m * (m - 1) / 2) := N_all hq (by omega) m
  have h2 : ∀ k, r < k → sN p m r ≤ sm (N p p (p - 1) m) k := by
    have nn : ∀ k, 0 ≤ sm (N p p (p - 1) m) k := by
      intro k
      induction k with
      | zero => exact Int.le_refl _
      | succ k ih => have := h0 k; rw [sm_succ]; exact Int.add_nonneg ih this
    intro k
    induction k with
    | zero => omega
    | succ k ih =>
      intro hk
      rw [sm_succ]
      have n1 := nn k
      have n2 : 0 ≤ N p p (p - 1) m k := h0 k
      by_cases e : r = k
      · subst e
        show N p p (p - 1) m r ≤ _
        omega
      · have := ih (by omega)
        omega
  have h3 := h2 (m + 1) (by omega)
  rw [h1, ← Int.pow_add] at h3
  have b : m * (m - 1) ≤ 30 * 29 := Nat.mul_le_mul hm (by omega)
  have h4 := pw_le hq (show m + m * (m - 1) / 2 ≤ 465 by omega)
  have h5 : (p : Int) ^ 465 ≤ 1000 ^ 465 := by
    have : ∀ e, p ^ e ≤ 1000 ^ e := fun e => by
      induction e with
      | zero => simp
      | succ e ih => rw [Int.pow_succ, Int.pow_succ]; exact Int.mul_le_mul ih hq2 (by omega) (Int.pow_nonneg (by decide))
    exact this 465
  have h6 : ((1000 : Int) ^ 465).natAbs < 2 ^ 9000 := by decide +kernel
  have h7 := h0 r
  have h7 : 0 ≤ sN p m r := h7
  unfold Sz
  generalize (2 : Nat) ^ 9000 = x at *
  generalize (1000 : Int) ^ 465 = y at *
  omega
theorem kn_le {m : Nat} (hm : m ≤ 31) {k : Kd} (hk : Vk p m k) : ∃ r ≤ m, kn p m k ≤ sN p m r := by
  cases k with
  | alt r =>
    refine ⟨r, hk.2, ?_⟩
    by_cases h : 1 ≤ r
    · have := d_1 hq hk.2 h
      show aN p m r ≤ _
      omega
    · have : r = 0 := by omega
      subst this
      show aN p m 0 ≤ _
      rw [aN, sN, N_eq hq, N_eq hq]
      exact Int.le_refl _
  | two r =>
    obtain ⟨rfl, h1, h2⟩ := hk
    have k3 := (a_bnd hq hq2 hm r).1
    exact ⟨r, h2, by show sN 2 m r - aN 2 m r ≤ _; omega⟩
  | odd r s =>
    obtain ⟨hp, h1, h2, hs⟩ := hk
    refine ⟨r, h2, ?_⟩
    have sb := s_bnd hq hq2 hm r
    show (if r % 2 = 1 then (sN p m r).fdiv 2 else hf (sN p m r) p (r / 2) (if p % 4 = 1 ∨ r % 4 = 0 then s else -s)) ≤ _
    split
    · rw [Int.fdiv_eq_ediv_of_nonneg _ (by decide)]
      omega
    · have hs' : (if p % 4 = 1 ∨ r % 4 = 0 then s else -s) = 1 ∨ (if p % 4 = 1 ∨ r % 4 = 0 then s else -s) = -1 := by
        split <;> omega
      generalize (if p % 4 = 1 ∨ r % 4 = 0 then s else -s) = t at hs'
      have pp := pw_pos hq (r / 2)
      unfold hf
      rw [Int.fdiv_eq_ediv_of_nonneg _ (by omega)]
      exact Int.ediv_le_of_le_mul (by omega) (Int.mul_le_mul_of_nonneg_left (by omega) sb.1)
theorem keepers_ok (h : 9 < n) {m : Nat} (hm : m ≤ 30) {k : Kd} (hk : Vk p m k) : F n 9 [.int p, .int m, k.d] g = .ok (.int ((fl p m m).fdiv (kn p m k)), g) ∧ divOk (fl p m m) (kn p m k) = true := by
  have p1 := squares_ok hq hq2 g (n := 9) (by decide) (show m ≤ 31 by omega)
  have p2 := kind_ok hq hq2 g (n := 9) (by decide) (show m ≤ 31 by omega) hk
  have hb := kn_bnd hq hq2 (show m ≤ 31 by omega) hk
  have e : divOk (fl p m m) (kn p m k) = true := by
    obtain ⟨r, hr, hle⟩ := kn_le hq hq2 (show m ≤ 31 by omega) hk
    exact divOk_log (by omega) ((Sz_s hq hq2 hm hr).le (by omega) hle)
  rw [F9 h]
  have kd : ∀ ρ φ, rs ρ φ k.d = some k.d := fun ρ φ => rs_ok _ (by cases k <;> rfl)
  exact ⟨by simp [exD, b9, p1, p2, e, kd], e⟩
end
end K60

namespace K60
open PySem Fz
/-- a form's kind: its letters, its sign -/
def fd (k : Nat × Int) : D := .tup [.int k.1, .int k.2]
def fn' (p : Int) (m : Nat) (k : Nat × Int) : Int :=
  if p = 2 then (if k.1 % 2 = 1 then aN 2 m (2 * (k.1 / 2)) * (2 ^ m - 4 ^ (k.1 / 2)) else aN 2 m (2 * (k.1 / 2)) * (4 ^ (k.1 / 2) + k.2 * 2 ^ (k.1 / 2)).fdiv 2)
  else if k.1 = 0 then 1 else if k.1 % 2 = 1 then (sN p m k.1).fdiv 2 else hf (sN p m k.1) p (k.1 / 2) k.2
def Vf (p : Int) (m : Nat) (k : Nat × Int) : Prop := k.1 ≤ m ∧ (k.1 % 2 = 0 ∨ p ≠ 2 → k.2 = 1 ∨ k.2 = -1)
def fblk (p : Int) (r : Nat) : List (Nat × Int) := if p = 2 ∧ r % 2 = 1 then [(r, 0)] else [(r, 1), (r, -1)]
def fkl (p : Int) : Nat → List (Nat × Int)
  | 0 => [(0, 1)]
  | i + 1 => fkl p i ++ fblk p (i + 1)
theorem fkl_ok {p : Int} {m : Nat} : ∀ i, i ≤ m → ∀ k ∈ fkl p i, Vf p m k
  | 0, _, k, h => by rw [List.mem_singleton.mp h]; exact ⟨Nat.zero_le _, fun _ => .inl rfl⟩
  | i + 1, hi, k, h => by
    rcases List.mem_append.mp h with h | h
    · exact fkl_ok i (by omega) k h
    · unfold fblk at h
      split at h
      · rename_i hp
        rw [List.mem_singleton.mp h]
        exact ⟨hi, fun z => by rcases z with z | z <;> simp_all⟩
      · rcases List.mem_cons.mp h with rfl | h
        · exact ⟨hi, fun _ => .inl rfl⟩
        · rw [List.mem_singleton.mp h]
          exact ⟨hi, fun _ => .inr rfl⟩
theorem fkl_len {p : Int} : ∀ i, (fkl p i).length ≤ 1 + 2 * i ∧ 0 < (fkl p i).length
  | 0 => by simp [fkl]
  | i + 1 => by
    have := fkl_len (p := p) i
    have : (fblk p (i + 1)).length ≤ 2 := by unfold fblk; split <;> simp
    rw [fkl, List.length_append]
    omega
theorem fd_ok (l : List (Nat × Int)) : okRets (l.map fd) = true := okRets_all fun d hd => by
  obtain ⟨k, _, rfl⟩ := List.mem_map.mp hd
  rfl
section
variable {n : Nat} {p : Int} (g : List (List D))
theorem fkinds_ok (h : 23 < n) {m : Nat} (hm : m ≤ 100) : F n 23 [.int p, .int m] g = .ok (.lst ((fkl p m).map fd), g) := by
  have r2 : rngF [.int 1, .int ((m : Int) + 1)] = some (rngL 1 m) := rng_2 (by omega) (by omega) (by omega)
  have L := forL_rng (bind := asg (.nm 3)) (body := exB ⟨F 23, C⟩ b23_0) (post := postF [3] false 1) (ok := fun _ => true) (fun i => ⟨[some (.int p), some (.int m), some (.ref 0), none], [(fkl p i).map fd], g⟩) 1 m (fun i r hi => by
    have hl := (fkl_len (p := p) i).1
    have l1 : (fkl p i).length + 1 ≤ mxLen := le_mx (by omega)
    have l2 : (fkl p i).length + 2 ≤ mxLen := le_mx (by omega)
    have c1 : 1 + (i : Int) = ((i + 1 : Nat) : Int) := by omega
    have c2 : Builtin.bitAnd ((i + 1 : Nat) : Int) 1 = (((i + 1) % 2 : Nat) : Int) := by rw [PyProof.Rows.bitAnd_m1]; omega
    have n1 : ∀ (a : D) w, newL 0 [a] w = .ok (.lst [a], w) := fun a w => newL_0 (show 1 ≤ mxLen by decide)
    have n2 : ∀ (a b : D) w, newL 0 [a, b] w = .ok (.lst [a, b], w) := fun a b w => newL_0 (show 2 ≤ mxLen by decide)
    by_cases hp : p = 2
    · subst hp
      by_cases e : (i + 1) % 2 = 1
      · have e' : fblk 2 (i + 1) = [(i + 1, 0)] := by unfold fblk; rw [if_pos ⟨rfl, e⟩]
        simp [forL_cons, b23_0, c1, c2, e, newT_ok', n1, deq, fkl, e', fd, l1, -Int.natCast_add, -Int.natCast_emod]
      · have e' : fblk 2 (i + 1) = [(i + 1, 1), (i + 1, -1)] := by unfold fblk; rw [if_neg (fun z => e z.2)]
        have e2 : ¬ (((i + 1) % 2 : Nat) : Int) = 1 := by omega
        simp [forL_cons, b23_0, c1, c2, e, e2, newT_ok', n1, n2, deq, fkl, e', fd, l2, -Int.natCast_add, -Int.natCast_emod]
    · have e' : fblk p (i + 1) = [(i + 1, 1), (i + 1, -1)] := by unfold fblk; rw [if_neg (fun z => hp z.1)]
      simp [forL_cons, b23_0, c1, hp, newT_ok', n1, n2, deq, fkl, e', fd, l2, -Int.natCast_add])
  have n0 : ∀ (a : D) w, newL 1 [a] w = .ok (.ref w.m.length, { w with m := w.m ++ [[a]] }) := fun a w => newL_1 (show 1 ≤ mxLen by decide)
  rw [F23 h]
  rw [show (fkl p 0).map fd = [.tup [.int 0, .int 1]] from rfl] at L
  simp [exD, b23, r2, n0, newT_ok', L, rsL_ok _ (fd_ok _)]
end
section
variable {n : Nat} {p : Int} (hq : 2 ≤ p) (hq2 : p ≤ 1000) (g : List (List D))
include hq hq2
theorem two_ok {m r : Nat} (hm : m ≤ 31) (hr : r ≤ m) {s : Int} : mulOk (aN 2 m (2 * (r / 2))) (2 ^ m - 4 ^ (r / 2)) = true ∧ (s = 1 ∨ s = -1 → mulOk s (2 ^ (r / 2)) = true ∧ mulOk (aN 2 m (2 * (r / 2))) ((4 ^ (r / 2) + s * 2 ^ (r / 2)).fdiv 2) = true) ∧
    Sz 9800 (aN 2 m (2 * (r / 2)) * (2 ^ m - 4 ^ (r / 2))) ∧ (s = 1 ∨ s = -1 → Sz 9800 (aN 2 m (2 * (r / 2)) * (4 ^ (r / 2) + s * 2 ^ (r / 2)).fdiv 2)) := by
  have ab := a_bnd (p := 2) (by decide) (by decide) hm (2 * (r / 2))
  have t : ∀ k, k ≤ 62 → Sz 63 ((2 : Int) ^ k) := fun k hk => by
    unfold Sz
    rw [Int.natAbs_pow]
    exact Nat.pow_lt_pow_right (by decide) (by omega)
  have e4 : (4 : Int) ^ (r / 2) = 2 ^ (2 * (r / 2)) := by rw [Int.pow_mul]; rfl
  have s1 : Sz 64 ((2 : Int) ^ m - 4 ^ (r / 2)) := by rw [e4]; exact ((t m (by omega)).sub (t _ (by omega))).mono (by decide)
  have s2 : s = 1 ∨ s = -1 → Sz 70 ((4 ^ (r / 2) + s * 2 ^ (r / 2)).fdiv 2) := fun hs => by
    have h1 := t (2 * (r / 2)) (by omega)
    have h2 := pw_le' (q := 2) (by decide) (show r / 2 ≤ 2 * (r / 2) by omega)
    have h3 := pw_pos' (q := 2) (by decide) (r / 2)
    rw [e4, Int.fdiv_eq_ediv_of_nonneg _ (by decide)]
    refine (((t (2 * (r / 2)) (by omega)).add (t (2 * (r / 2)) (by omega))).mono (show _ ≤ 70 by decide)).le ?_ ?_
    · rcases hs with rfl | rfl <;> omega
    · rcases hs with rfl | rfl <;> omega
  refine ⟨ab.2.mulOk s1 (by decide) (by decide), fun hs => ⟨mulOk_l (by rcases hs with rfl | rfl <;> decide), ab.2.mulOk (s2 hs) (by decide) (by decide)⟩, (ab.2.mul s1).mono (by decide), fun hs => (ab.2.mul (s2 hs)).mono (by decide)⟩
theorem fn_Sz {m : Nat} (hm : m ≤ 31) {k : Nat × Int} (hk : Vf p m k) : Sz 9800 (fn' p m k) := by
  obtain ⟨r, s⟩ := k
  obtain ⟨h1, h2⟩ := hk
  have h1 : r ≤ m := h1
  obtain ⟨_, _, t1, t2⟩ := two_ok hq hq2 hm h1 (s := s)
  have sb := s_bnd hq hq2 hm r
  unfold fn'
  split
  · rename_i hp
    split
    · exact t1
    · rename_i e
      have e : ¬ r % 2 = 1 := e
      exact t2 (h2 (.inl (show r % 2 = 0 by omega)))
  · rename_i hp
    split
    · exact Sz.one.mono (by decide)
    · split
      · exact ((Sz.fd sb.2 sb.1 (by decide)).1).mono (by decide)
      · exact ((half_ok hq hq2 (k := r / 2) sb (by omega) (h2 (.inr hp))).2.2.2.2).mono (by decide)
theorem form_ok (h : 10 < n) {m : Nat} (hm : m ≤ 31) {k : Nat × Int} (hk : Vf p m k) : F n 10 [.int p, .int m, fd k] g = .ok (.int (fn' p m k), g) := by
  have d2 : ∀ x, divOk x 2 = true := fun x => divOk_s (by decide) (by decide)
  obtain ⟨r, s⟩ := k
  obtain ⟨h1, h2⟩ := hk
  have h1 : r ≤ m := h1
  have h2 : r % 2 = 0 ∨ p ≠ 2 → s = 1 ∨ s = -1 := h2
  obtain ⟨m1, m2, _, _⟩ := two_ok hq hq2 hm h1 (s := s)
  have c1 : (r : Int).fmod 2 = ((r % 2 : Nat) : Int) := fm2 r
  have c2 : (r : Int).fdiv 2 = ((r / 2 : Nat) : Int) := fd2 r
  have c3 : 2 * ((r / 2 : Nat) : Int) = ((2 * (r / 2) : Nat) : Int) := by omega
  have m0 : ∀ x, mulOk 2 x = true := fun x => mulOk_l (by decide)
  rw [F10 h]
  by_cases hp : p = 2
  · subst hp
    have p1 := alt_ok' (p := 2) (by decide) (by decide) g (n := 10) (by decide) hm (show 2 * (r / 2) ≤ m by omega)
    have p4 := power_ok (q := 4) (by decide) (by decide) g (n := 10) (by decide) (k := r / 2) (by omega)
    have p2 := fun k hk => power_ok (q := 2) (by decide) (by decide) g (n := 10) (by decide) (k := k) hk
    by_cases e : r % 2 = 1
    · simp [exD, b10, fd, c1, c2, c3, m0, p1, p4, p2 m (by omega), newT_ok', e, d2, m1, fn', -Int.natCast_emod, -Int.natCast_ediv, -Int.natCast_mul]
    · have e0 : r % 2 = 0 := by omega
      obtain ⟨m3, m4⟩ := m2 (h2 (.inl e0))
      simp [exD, b10, fd, c1, c2, c3, m0, p1, p4, p2 (r / 2) (by omega), newT_ok', e0, m3, m4, d2, fn', -Int.natCast_emod, -Int.natCast_ediv, -Int.natCast_mul]
  · have p5 := same_ok' hq hq2 g (n := 10) (by decide) hm h1
    have p2 := power_ok hq (q6 hq hq2) g (n := 10) (by decide) (k := r / 2) (by omega)
    obtain ⟨a1, a2, a3, _⟩ := half_ok hq hq2 (k := r / 2) (s_bnd hq hq2 hm r) (by omega) (h2 (.inr hp))
    by_cases r0 : r = 0
    · subst r0
      simp [exD, b10, fd, hp, fn', d2]
    · by_cases e : r % 2 = 1
      · simp [exD, b10, fd, hp, r0, c1, c2, e, p5, d2, fn', -Int.natCast_emod, -Int.natCast_ediv]
      · have e0 : r % 2 = 0 := by omega
        simp [exD, b10, fd, hp, r0, c1, c2, e0, p5, p2, d2, a1, a2, a3, fn', hf, -Int.natCast_emod, -Int.natCast_ediv]
theorem lform_ok (h : 22 < n) {m : Nat} (hm : m ≤ 31) {k : Nat × Int} (hk : Vf p m k) : F n 22 [.int p, .int m, fd k] g = .ok (.int (fn' p m k), g) := by
  have d2 : ∀ x, divOk x 2 = true := fun x => divOk_s (by decide) (by decide)
  obtain ⟨r, s⟩ := k
  obtain ⟨h1, h2⟩ := hk
  have h1 : r ≤ m := h1
  have h2 : r % 2 = 0 ∨ p ≠ 2 → s = 1 ∨ s = -1 := h2
  obtain ⟨m1, m2, _, _⟩ := two_ok hq hq2 hm h1 (s := s)
  have c1 : Builtin.bitAnd (r : Int) 1 = ((r % 2 : Nat) : Int) := by rw [PyProof.Rows.bitAnd_m1]; omega
  have c2 : (r : Int).fdiv 2 = ((r / 2 : Nat) : Int) := fd2 r
  have c3 : 2 * ((r / 2 : Nat) : Int) = ((2 * (r / 2) : Nat) : Int) := by omega
  have m0 : ∀ x, mulOk 2 x = true := fun x => mulOk_l (by decide)
  rw [F22 h]
  by_cases hp : p = 2
  · subst hp
    have l1 := lranks_ok (q := 2) (by decide) (by decide) g (n := 22) (by decide) hm 1
    simp only [nm] at l1
    obtain ⟨i1, i2⟩ := row_at (p := 2) (by decide) (by decide) 1 (show 2 * (r / 2) ≤ m by omega)
    rw [show N (Qf 2 1) (uf 2 1) (vf 2 1) m (2 * (r / 2)) = aN 2 m (2 * (r / 2)) from rfl] at i2
    have p4 := lpower_ok (p := 4) (by decide) (by decide) g (n := 22) (by decide) (k := r / 2) (by omega)
    have p2 := fun k hk => lpower_ok (p := 2) (by decide) (by decide) g (n := 22) (by decide) (k := k) hk
    by_cases e : r % 2 = 1
    · simp [exD, b22, fd, c1, c2, c3, m0, l1, i1, i2, p4, p2 m (by omega), e, d2, m1, fn', -Int.natCast_emod, -Int.natCast_ediv, -Int.natCast_mul]
    · have e0 : r % 2 = 0 := by omega
      obtain ⟨m3, m4⟩ := m2 (h2 (.inl e0))
      simp [exD, b22, fd, c1, c2, c3, m0, l1, i1, i2, p4, p2 (r / 2) (by omega), e0, m3, m4, d2, fn', -Int.natCast_emod, -Int.natCast_ediv, -Int.natCast_mul]
  · have l0 := lranks_ok hq hq2 g (n := 22) (by decide) hm 0
    simp only [nm] at l0
    obtain ⟨i3, i4⟩ := row_at hq hq2 0 h1
    rw [show N (Qf p 0) (uf p 0) (vf p 0) m r = sN p m r from rfl] at i4
    have p2 := lpower_ok hq hq2 g (n := 22) (by decide) (k := r / 2) (by omega)
    obtain ⟨a1, a2, a3, _⟩ := half_ok hq hq2 (k := r / 2) (s_bnd hq hq2 hm r) (by omega) (h2 (.inr hp))
    have gt : 2 < p := by omega
    by_cases r0 : r = 0
    · subst r0
      simp [exD, b22, fd, hp, gt, fn', d2, l0, i3, i4]
      simp at i3 i4
      simp [i3, i4]
    · by_cases e : r % 2 = 1
      · simp [exD, b22, fd, hp, gt, r0, c1, c2, e, l0, i3, i4, d2, fn', -Int.natCast_emod, -Int.natCast_ediv]
      · have e0 : r % 2 = 0 := by omega
        simp [exD, b22, fd, hp, gt, r0, c1, c2, e0, l0, i3, i4, p2, d2, a1, a2, a3, fn', hf, -Int.natCast_emod, -Int.natCast_ediv]
end
end K60

namespace K60
open PySem Fz
def ps : List Int := [2, 3, 5, 7, 11, 13, 101, 997]
def suml : List Int → Int
  | [] => 0
  | x :: r => x + suml r
theorem suml_eq (l : List Int) : l.sum = suml l := by
  induction l with
  | nil => rfl
  | cons x r ih => rw [List.sum_cons, ih]; rfl
def fin1 (p : Int) (m : Nat) : Bool :=
  decide (suml ((kinds p m).map (kn p m)) = p ^ (m * (m + 1) / 2) + (if 2 < p then p ^ (m * (m - 1) / 2) - 1 else 0)) && decide (suml ((fkl p m).map (fn' p m)) = p ^ (m * (m + 1) / 2)) && (kinds p m).all fun k => decide ((fl p m m).fmod (kn p m k) = 0)
theorem fin_all : ps.all (fun p => [1, 2, 3, 4, 5, 6].all fun m => fin1 p m) = true := by decide +kernel
end K60

namespace K60
open PySem Fz
/-- a kind and its number -/
def pr (p : Int) (m : Nat) (k : Kd) : D := .tup [k.d, .int (kn p m k)]
theorem pr_ok {p : Int} {m : Nat} (l : List Kd) : okRets (l.map (pr p m)) = true := okRets_all fun d hd => by
  obtain ⟨k, _, rfl⟩ := List.mem_map.mp hd
  cases k <;> rfl
theorem kd_rs {ρ : Nat → Option D} {φ : Bool} (k : Kd) : rs ρ φ k.d = some k.d := rs_ok _ (by cases k <;> rfl)
theorem fl_mono {p : Int} (hq : 2 ≤ p) {m : Nat} : ∀ {k}, k ≤ m → fl p m k ≤ p ^ (m * k)
  | 0, _ => by simp [fl]
  | k + 1, h => by
    have ih := fl_mono hq (m := m) (k := k) (by omega)
    have p1 : 1 ≤ fl p m k := fl_pos hq (by omega)
    have p2 := pw_pos hq k
    have p3 := pw_pos hq m
    have p5 := pw_pos hq (m * k)
    have p6 := pw_le hq (show k ≤ m by omega)
    rw [fl, Nat.mul_succ, Int.pow_add]
    exact Int.mul_le_mul ih (by omega) (by omega) (by omega)
section
variable {n : Nat} {p : Int} (hq : 2 ≤ p) (hq2 : p ≤ 1000)
include hq hq2
theorem fig_pw {e : Nat} (he : e ≤ 900) : (p ^ e).natAbs < 10 ^ 3000 := by
  have h1 := pw_pos hq e
  have h2 := pw_le hq he
  have h3 : p ^ 900 ≤ 1000 ^ 900 := by
    have : ∀ e, p ^ e ≤ 1000 ^ e := fun e => by
      induction e with
      | zero => simp
      | succ e ih => rw [Int.pow_succ, Int.pow_succ]; exact Int.mul_le_mul ih hq2 (by omega) (Int.pow_nonneg (by decide))
    exact this 900
  have h4 : ((1000 : Int) ^ 900).natAbs < 10 ^ 3000 := by decide +kernel
  generalize (10 : Nat) ^ 3000 = x at *
  generalize (1000 : Int) ^ 900 = y at *
  omega
theorem fig_q {m : Nat} (hm : m ≤ 30) {y : Int} (hy : 1 ≤ y) : ((fl p m m).fdiv y).natAbs < 10 ^ 3000 := by
  have h1 := fl_pos hq (Nat.le_refl m)
  have h2 := fl_mono hq (Nat.le_refl m)
  have h3 := fig_pw hq hq2 (show m * m ≤ 900 from Nat.mul_le_mul hm hm)
  have h4 := pw_pos hq (m * m)
  rw [Int.fdiv_eq_ediv_of_nonneg _ (by omega)]
  have h5 := Int.ediv_le_self y (show 0 ≤ fl p m m by omega)
  have h6 := Int.ediv_nonneg (show 0 ≤ fl p m m by omega) (show 0 ≤ y by omega)
  generalize (10 : Nat) ^ 3000 = x at *
  omega
theorem fig_kn {m : Nat} (hm : m ≤ 31) {k : Kd} (hk : Vk p m k) : (kn p m k).natAbs < 10 ^ 3000 := fig_Sz ((kn_bnd hq hq2 hm hk).2.mono (by decide))
theorem krow_ok (h : 8 < n) {m : Nat} (hm : m ≤ 31) (g : List (List D)) : F n 8 [.int p, .int m] g = .ok (.tup ((kinds p m).map (pr p m)), g) := by
  have r1 := rng_ev (m := m) (by omega)
  have r2 : rngF [.int 1, .int ((m : Int) + 1)] = some (rngL 1 m) := rng_2 (by omega) (by omega) (by omega)
  have co := coL_map (bind := asg (.nm 3)) (test := evC ⟨F 8, C⟩ .no) (elt := evE ⟨F 8, C⟩ e8_0) (ok := fun _ => true) (own := [3]) (σ := [some (.int p), some (.int m), none, none, none]) (m := []) (g := g) (fun d => .tup [.str "alternating", d]) (stepL 0 2 (m / 2 + 1)) []
    (by rw [stepL_length]; exact le_mx (by simp; omega)) (fun x hx r acc hacc => by
      rw [coL_cons]
      simp [e8_0, newT_ok', hacc])
  have ev : (stepL 0 2 (m / 2 + 1)).map (fun d => D.tup [.str "alternating", d]) = (evs m).map Kd.d := by
    rw [stepL_map, evs, List.map_map, List.map_map]
    refine List.map_congr_left fun i _ => ?_
    simp [Kd.d]
    omega
  rw [ev, List.nil_append] at co
  have L := forL_rng (bind := asg (.nm 3)) (body := exB ⟨F 8, C⟩ b8_0) (post := postF [3] false 1) (ok := fun _ => true) (fun i => ⟨[some (.int p), some (.int m), some (.ref 0), none, none], [(kl p m i).map Kd.d], g⟩) 1 m (fun i r hi => by
    have hl := (kl_len (p := p) (m := m) i).1
    have l1 : (kl p m i).length + 1 ≤ mxLen := le_mx (by omega)
    have l2 : (kl p m i).length + 2 ≤ mxLen := le_mx (by omega)
    have c1 : 1 + (i : Int) = ((i + 1 : Nat) : Int) := by omega
    have n1 : ∀ (a : D) w, newL 0 [a] w = .ok (.lst [a], w) := fun a w => newL_0 (show 1 ≤ mxLen by decide)
    have n2 : ∀ (a b : D) w, newL 0 [a, b] w = .ok (.lst [a, b], w) := fun a b w => newL_0 (show 2 ≤ mxLen by decide)
    by_cases hp : p = 2
    · simp [forL_cons, b8_0, c1, hp, newT_ok', n1, deq, kl, blk, Kd.d, l1, -Int.natCast_add]
      subst hp
      intro h
      omega
    · simp [forL_cons, b8_0, c1, hp, newT_ok', n1, n2, deq, kl, blk, Kd.d, l2, -Int.natCast_add])
  have n0 : ∀ w, newL 1 ((evs m).map Kd.d) w = .ok (.ref w.m.length, { w with m := w.m ++ [(evs m).map Kd.d] }) := fun w => newL_1 (le_mx (by simp [evs]; omega))
  have hl := (kl_len (p := p) (m := m) m).1
  have co3 : ∀ (l acc : List Kd), acc.length + l.length ≤ 200 → (∀ k ∈ l, Vk p m k) → coL (asg (.nm 4)) (evC ⟨F 8, C⟩ .no) (evE ⟨F 8, C⟩ e8_1) ((srcOf (.ref 0)).ok ((kinds p m).map Kd.d)) [4] [some (.int p), some (.int m), some (.ref 0), none, none] (l.map Kd.d) ⟨[some (.int p), some (.int m), some (.ref 0), none, none], [(kinds p m).map Kd.d], g⟩ (acc.map (pr p m)) = .ok ((acc ++ l).map (pr p m), ⟨[some (.int p), some (.int m), some (.ref 0), none, none], [(kinds p m).map Kd.d], g⟩) := by
    intro l
    induction l with
    | nil => intro acc _ _; simp
    | cons k l ih =>
      intro acc ha hv
      have kk := kind_ok hq hq2 g (n := 8) (by decide) hm (hv k List.mem_cons_self)
      have la : acc.length < mxLen := Nat.lt_of_lt_of_le (show acc.length < 1000 by simp at ha; omega) (by decide)
      rw [List.map_cons, coL_cons]
      simp [e8_1, kd_rs, kk, newT_ok', la, deqL_refl]
      have := ih (acc ++ [k]) (by simp at ha ⊢; omega) (fun k hk => hv k (List.mem_cons_of_mem _ hk))
      rw [List.map_append, List.append_assoc] at this
      simp only [src_ref, srcOf] at this
      simpa [pr, e8_1] using this
  have co4 := co3 (kinds p m) [] (by simp [kinds]; omega) (kl_ok m (Nat.le_refl m))
  have nl : ∀ w, newL 0 ((kinds p m).map (pr p m)) w = .ok (.lst ((kinds p m).map (pr p m)), w) := fun w => newL_0 (le_mx (by simp [kinds]; omega))
  have nt : ∀ w, newT ((kinds p m).map (pr p m)) w = .ok (.tup ((kinds p m).map (pr p m)), w) := fun w => newT_ok' (le_mx (by simp [kinds]; omega))
  rw [F8 h]
  rw [show kl p m 0 = evs m from rfl, show kl p m m = kinds p m from rfl] at L
  simp only [List.map_nil, List.nil_append] at co4
  simp [exD, b8, r1, r2, co, n0, L]
  simp only [src_ref, srcOf] at co4
  simp [co4, nl, nt, rsL_ok _ (pr_ok _)]
end
end K60

namespace K60
open PySem Fz
theorem coL_inv {bind : D → Wd → Option Wd} {test : Wd → R (Bool × Wd)} {elt : Wd → R (D × Wd)} {ok : Wd → Bool} {own : List Nat} {σ : List (Option D)} {m : List (List D)} (I : List D → List (List D) → Prop) :
    ∀ (xs acc : List D) (g : List (List D)), (∀ x ∈ xs, ∀ r acc g, I acc g → acc.length < mxLen → ∃ y g', I (acc ++ [y]) g' ∧ coL bind test elt ok own σ (x :: r) ⟨σ, m, g⟩ acc = coL bind test elt ok own σ r ⟨σ, m, g'⟩ (acc ++ [y])) → acc.length + xs.length ≤ mxLen → I acc g →
    ∃ ys g', ys.length = acc.length + xs.length ∧ I ys g' ∧ coL bind test elt ok own σ xs ⟨σ, m, g⟩ acc = .ok (ys, ⟨σ, m, g'⟩)
  | [], acc, g, _, _, h => ⟨acc, g, rfl, h, rfl⟩
  | x :: xs, acc, g, hx, hl, h => by
    rw [List.length_cons] at hl
    obtain ⟨y, g1, h1, e1⟩ := hx x List.mem_cons_self xs acc g h (by omega)
    obtain ⟨ys, g2, l2, h2, e2⟩ := coL_inv I xs (acc ++ [y]) g1 (fun x hx' => hx x (List.mem_cons_of_mem _ hx')) (by rw [List.length_append, List.length_singleton]; omega) h1
    exact ⟨ys, g2, by rw [l2, List.length_append, List.length_singleton, List.length_cons]; omega, h2, e1.trans e2⟩
theorem draw24 {n : Nat} (h : 12 < n) {g : List (List D)} (hg : Bag g) {m : Int} (h1 : 1 ≤ m) (h2 : m < 1000000) : ∃ (r : Nat) (g' : List (List D)), F n 12 [.g 1, .int m] g = .ok (.int r, g') ∧ Bag g' ∧ (r : Int) < m := by
  obtain ⟨r, g', e, p, r0, r1⟩ := draw_ok (P := ⟨F 12, C⟩) hg h1 (by omega)
  obtain ⟨k, rfl⟩ : ∃ k : Nat, r = (k : Int) := ⟨r.toNat, by omega⟩
  exact ⟨k, g', by rw [F12 h]; exact e, p, r1⟩
theorem pickD {g : List (List D)} (hg : Bag g) (l : List D) (h0 : 0 < l.length) (h1 : l.length < 1000000) (hr : okRets l = true) : ∃ (x : D) (g' : List (List D)), F 24 13 [.g 1, .lst l] g = .ok (x, g') ∧ Bag g' ∧ x ∈ l := by
  obtain ⟨i, hi, g', e, p⟩ := pick_ok (P := ⟨F 13, C⟩) (P2 := ⟨F 12, C⟩) (j := 12) (F12 (by decide)) hg (ds := l) h0 h1 hr
  exact ⟨l[i], g', by rw [F13 (by decide)]; exact e, p, List.getElem_mem hi⟩
theorem r2 {x : Int} (h : x.natAbs < 10 ^ 3000) {w : Wd} : biF .repr 0 [.lst [.int x, .int x]] w = .ok (.str (pd (.lst [.int x, .int x])).shown, w) := by
  refine repr_of (k := 3000) (n := 1) (Pl_lst.mpr (Pls_cons.mpr ⟨Pl_int.mpr h, Pls_cons.mpr ⟨Pl_int.mpr h, trivial⟩⟩)) (by decide) (by decide) (by decide) ?_
  unfold szB szBs szBs szBs szB
  decide
theorem fd_rs {ρ : Nat → Option D} {φ : Bool} (k : Nat × Int) : rs ρ φ (fd k) = some (fd k) := rs_ok _ rfl
/-- the slots ahead -/
def hd (sc : List Int) (t p : Int) (m : Nat) (r : List (Option D)) : List (Option D) := some (.sc (sc.map D.int)) :: some (.g 1) :: some (.int t) :: some (.int p) :: some (.int m) :: r
section
variable {p : Int} (hq : 2 ≤ p) (hq2 : p ≤ 1000)
include hq hq2
theorem loop1 {sc : List Int} {t : Int} {m : Nat} (hm : m ≤ 30) (g : List (List D)) : ∀ (l : List Kd), (∀ k ∈ l, Vk p m k) →
    forL (asg (.nm 5)) (exB ⟨F 24, C⟩ b24_0) (postF [5, 7] false 0) (fun _ => true) (l.map Kd.d) ⟨hd sc t p m [none, none, none, none, none, none, none, none, none, none], [], g⟩ = .ok (.nx, ⟨hd sc t p m [none, none, none, none, none, none, none, none, none, none], [], g⟩)
  | [], _ => rfl
  | k :: l, h => by
    have hv := h k List.mem_cons_self
    have ih := loop1 (sc := sc) (t := t) hm g l fun k hk => h k (List.mem_cons_of_mem _ hk)
    have k1 := kind_ok hq hq2 g (n := 24) (by decide) (show m ≤ 31 by omega) hv
    have k2 := lkind_ok hq hq2 g (n := 24) (by decide) (show m ≤ 31 by omega) hv
    have k3 := lsquares_ok hq hq2 g (n := 24) (by decide) (show m ≤ 31 by omega)
    obtain ⟨k4, k5⟩ := keepers_ok hq hq2 g (n := 24) (by decide) hm hv
    have f1 := fig_kn hq hq2 (show m ≤ 31 by omega) hv
    have f2 := fig_q hq hq2 hm (kn_bnd hq hq2 (show m ≤ 31 by omega) hv).1
    have n2 : ∀ (a b : D) w, newL 0 [a, b] w = .ok (.lst [a, b], w) := fun a b w => newL_0 (show 2 ≤ mxLen by decide)
    rw [List.map_cons, forL_cons]
    simp only [hd] at ih ⊢
    simp [b24_0, kd_rs, k1, k2, k3, k4, k5, n2, r2 f1, r2 f2, arr]
    simpa [b24_0] using ih
theorem loop2 {sc : List Int} {t : Int} {m : Nat} (hm : m ≤ 30) (g : List (List D)) : ∀ (l : List (Nat × Int)), (∀ k ∈ l, Vf p m k) →
    forL (asg (.nm 5)) (exB ⟨F 24, C⟩ b24_1) (postF [5, 7, 8] false 0) (fun _ => true) (l.map fd) ⟨hd sc t p m [none, none, none, none, none, none, none, none, none, none], [], g⟩ = .ok (.nx, ⟨hd sc t p m [none, none, none, none, none, none, none, none, none, none], [], g⟩)
  | [], _ => rfl
  | k :: l, h => by
    have hv := h k List.mem_cons_self
    have ih := loop2 (sc := sc) (t := t) hm g l fun k hk => h k (List.mem_cons_of_mem _ hk)
    have k1 := form_ok hq hq2 g (n := 24) (by decide) (show m ≤ 31 by omega) hv
    have k2 := lform_ok hq hq2 g (n := 24) (by decide) (show m ≤ 31 by omega) hv
    have f1 := fig_Sz (fn_Sz hq hq2 (show m ≤ 31 by omega) hv)
    have n2 : ∀ (a b : D) w, newL 0 [a, b] w = .ok (.lst [a, b], w) := fun a b w => newL_0 (show 2 ≤ mxLen by decide)
    rw [List.map_cons, forL_cons]
    simp only [hd] at ih ⊢
    simp [b24_1, fd_rs, k1, k2, n2, r2 f1, arr]
    simpa [b24_1] using ih
theorem picks1 {sc : List Int} {t : Int} {m : Nat} (hm : m ≤ 30) {g : List (List D)} (hg : Bag g) : ∃ (l : List Kd) (g' : List (List D)), Bag g' ∧ (∀ k ∈ l, Vk p m k) ∧ l.length = 4 ∧
    coL (asg (.nm 6)) (evC ⟨F 24, C⟩ .no) (evE ⟨F 24, C⟩ e24_0) (fun _ => true) [6] (hd sc t p m [none, none, none, none, none, none, none, none, none, none]) (rngL 0 4) ⟨hd sc t p m [none, none, none, none, none, none, none, none, none, none], [], g⟩ [] = .ok (l.map Kd.d, ⟨hd sc t p m [none, none, none, none, none, none, none, none, none, none], [], g'⟩) := by
  obtain ⟨ys, g1, hy, ⟨l, rfl, hl, hg1⟩, e⟩ := coL_inv (bind := asg (.nm 6)) (test := evC ⟨F 24, C⟩ .no) (elt := evE ⟨F 24, C⟩ e24_0) (ok := fun _ => true) (own := [6]) (σ := hd sc t p m [none, none, none, none, none, none, none, none, none, none]) (m := [])
    (fun acc g => ∃ l : List Kd, acc = l.map Kd.d ∧ (∀ k ∈ l, Vk p m k) ∧ Bag g) (rngL 0 4) [] g (fun x hx r acc g1 ⟨l, hl1, hl2, hg1⟩ hmx => by
      have kk := kinds_ok (p := p) g1 (n := 24) (by decide) (show m ≤ 100 by omega)
      have ln := kl_len (p := p) (m := m) m
      obtain ⟨x, g2, e2, p2, hk⟩ := pickD hg1 ((kinds p m).map Kd.d) (by simp [kinds]; omega) (by simp [kinds]; omega) (d_ok _)
      obtain ⟨k, hk1, rfl⟩ := List.mem_map.mp hk
      refine ⟨k.d, g2, ⟨l ++ [k], by rw [hl1, List.map_append]; rfl, fun r hr => ?_, p2⟩, ?_⟩
      · rcases List.mem_append.mp hr with hr | hr
        · exact hl2 r hr
        · rw [List.mem_singleton.mp hr]
          exact kl_ok m (Nat.le_refl m) k hk1
      · rw [coL_cons]
        simp only [hd]
        simp [e24_0, kk, rsL_ok _ (d_ok _), e2, hmx]) (by decide) ⟨[], rfl, fun _ h => (nomatch h), hg⟩
  rw [List.length_map] at hy
  exact ⟨l, g1, hg1, hl, hy, e⟩
theorem picks2 {sc : List Int} {t : Int} {m : Nat} (hm : m ≤ 30) {g : List (List D)} (hg : Bag g) : ∃ (l : List (Nat × Int)) (g' : List (List D)), Bag g' ∧ (∀ k ∈ l, Vf p m k) ∧ l.length = 4 ∧
    coL (asg (.nm 6)) (evC ⟨F 24, C⟩ .no) (evE ⟨F 24, C⟩ e24_1) (fun _ => true) [6] (hd sc t p m [none, none, none, none, none, none, none, none, none, none]) (rngL 0 4) ⟨hd sc t p m [none, none, none, none, none, none, none, none, none, none], [], g⟩ [] = .ok (l.map fd, ⟨hd sc t p m [none, none, none, none, none, none, none, none, none, none], [], g'⟩) := by
  obtain ⟨ys, g1, hy, ⟨l, rfl, hl, hg1⟩, e⟩ := coL_inv (bind := asg (.nm 6)) (test := evC ⟨F 24, C⟩ .no) (elt := evE ⟨F 24, C⟩ e24_1) (ok := fun _ => true) (own := [6]) (σ := hd sc t p m [none, none, none, none, none, none, none, none, none, none]) (m := [])
    (fun acc g => ∃ l : List (Nat × Int), acc = l.map fd ∧ (∀ k ∈ l, Vf p m k) ∧ Bag g) (rngL 0 4) [] g (fun x hx r acc g1 ⟨l, hl1, hl2, hg1⟩ hmx => by
      have kk := fkinds_ok (p := p) g1 (n := 24) (by decide) (show m ≤ 100 by omega)
      have ln := fkl_len (p := p) m
      obtain ⟨x, g2, e2, p2, hk⟩ := pickD hg1 ((fkl p m).map fd) (by simp; omega) (by simp; omega) (fd_ok _)
      obtain ⟨k, hk1, rfl⟩ := List.mem_map.mp hk
      refine ⟨fd k, g2, ⟨l ++ [k], by rw [hl1, List.map_append]; rfl, fun r hr => ?_, p2⟩, ?_⟩
      · rcases List.mem_append.mp hr with hr | hr
        · exact hl2 r hr
        · rw [List.mem_singleton.mp hr]
          exact fkl_ok m (Nat.le_refl m) k hk1
      · rw [coL_cons]
        simp only [hd]
        simp [e24_1, kk, rsL_ok _ (fd_ok _), e2, hmx]) (by decide) ⟨[], rfl, fun _ h => (nomatch h), hg⟩
  rw [List.length_map] at hy
  exact ⟨l, g1, hg1, hl, hy, e⟩
end
end K60

namespace K60
open PySem Fz
theorem pr_pl {p : Int} (hq : 2 ≤ p) (hq2 : p ≤ 1000) {m : Nat} (hm : m ≤ 6) {k : Kd} (hk : Vk p m k) : Pl 3000 2 (pr p m k) ∧ szB 3000 (pr p m k) ≤ 20000 := by
  have f := fig_kn hq hq2 (show m ≤ 31 by omega) hk
  have kp : Pl 3000 1 k.d ∧ szB 3000 k.d ≤ 10000 := by
    have sm : ∀ x : Int, x.natAbs ≤ 100 → x.natAbs < 10 ^ 3000 := fun x hx => Nat.lt_of_le_of_lt hx (by decide +kernel)
    cases k with
    | alt r =>
      have so : ∀ n, Pl 3000 n (.str "alternating") := fun n => show PyData.strOk _ = true by decide +kernel
      have := hk.2
      refine ⟨Pl_tup.mpr (Pls_cons.mpr ⟨so _, Pls_cons.mpr ⟨Pl_int.mpr (sm _ (by omega)), trivial⟩⟩), ?_⟩
      unfold Kd.d szB szBs szBs szBs szB
      decide +kernel
    | two r =>
      have so : ∀ n, Pl 3000 n (.str "same") := fun n => show PyData.strOk _ = true by decide +kernel
      have := hk.2.2
      refine ⟨Pl_tup.mpr (Pls_cons.mpr ⟨so _, Pls_cons.mpr ⟨Pl_int.mpr (sm _ (by omega)), trivial⟩⟩), ?_⟩
      unfold Kd.d szB szBs szBs szBs szB
      decide +kernel
    | odd r s =>
      have so : ∀ n, Pl 3000 n (.str "same") := fun n => show PyData.strOk _ = true by decide +kernel
      have h1 := hk.2.2.1
      have h2 := hk.2.2.2
      refine ⟨Pl_tup.mpr (Pls_cons.mpr ⟨so _, Pls_cons.mpr ⟨Pl_int.mpr (sm _ (by omega)), Pls_cons.mpr ⟨Pl_int.mpr (sm _ (by omega)), trivial⟩⟩⟩), ?_⟩
      unfold Kd.d szB szBs szBs szBs szBs szB
      decide +kernel
  refine ⟨Pl_tup.mpr (Pls_cons.mpr ⟨kp.1, Pls_cons.mpr ⟨Pl_int.mpr f, trivial⟩⟩), ?_⟩
  have := kp.2
  unfold pr
  generalize k.d = d at *
  unfold szB szBs szBs szBs
  have : szB 3000 (.int (kn p m k)) = 3001 := rfl
  omega
theorem rRow {p : Int} (hq : 2 ≤ p) (hq2 : p ≤ 1000) {m : Nat} (hm : m ≤ 6) {w : Wd} : biF .repr 0 [.lst [.tup ((kinds p m).map (pr p m)), .tup ((kinds p m).map (pr p m))]] w = .ok (.str (pd (.lst [.tup ((kinds p m).map (pr p m)), .tup ((kinds p m).map (pr p m))])).shown, w) := by
  have hv := kl_ok (p := p) m (Nat.le_refl m)
  have ln := (kl_len (p := p) (m := m) m).1
  have pl : Pl 3000 3 (.tup ((kinds p m).map (pr p m))) := Pl_tup.mpr (Pls_all fun d hd => by
    obtain ⟨k, hk, rfl⟩ := List.mem_map.mp hd
    exact (pr_pl hq hq2 hm (hv k hk)).1)
  have sz : szBs 3000 ((kinds p m).map (pr p m)) ≤ ((kinds p m).map (pr p m)).length * (20000 + 2) := szBs_le fun d hd => by
    obtain ⟨k, hk, rfl⟩ := List.mem_map.mp hd
    exact (pr_pl hq hq2 hm (hv k hk)).2
  rw [List.length_map] at sz
  have ln : (kinds p m).length ≤ 19 := Nat.le_trans ln (by omega)
  have sz2 := Nat.le_trans sz (Nat.mul_le_mul_right 20002 ln)
  refine repr_of (k := 3000) (n := 4) (Pl_lst.mpr (Pls_cons.mpr ⟨pl, Pls_cons.mpr ⟨pl, trivial⟩⟩)) (by decide) (by decide) (by decide) ?_
  have e : szB 3000 (.tup ((kinds p m).map (pr p m))) ≤ 380041 := by
    unfold szB
    omega
  generalize D.tup ((kinds p m).map (pr p m)) = d at *
  unfold szB szBs szBs szBs
  omega
section
variable {p : Int} (hq : 2 ≤ p) (hq2 : p ≤ 1000)
include hq hq2
/-- the second part of a turn -/
theorem part2 {sc : List Int} {t : Int} {m : Nat} (hm : m ≤ 6) (hf : fin1 p m = true) (g : List (List D)) : ∃ (x7 x10 x11 x12 x13 : Option D),
    exB ⟨F 24, C⟩ (b24_2.drop 5) ⟨hd sc t p m [none, none, none, none, none, none, none, none, none, none], [], g⟩ = .ok (.nx, ⟨hd sc t p m [none, none, x7, none, none, x10, x11, x12, x13, none], [], g⟩) := by
  have hv := kl_ok (p := p) m (Nat.le_refl m)
  have hv2 := fkl_ok (p := p) (m := m) m (Nat.le_refl m)
  have ln := (kl_len (p := p) (m := m) m).1
  have ln2 := (fkl_len (p := p) m).1
  have kk := kinds_ok (p := p) g (n := 24) (by decide) (show m ≤ 100 by omega)
  have fk := fkinds_ok (p := p) g (n := 24) (by decide) (show m ≤ 100 by omega)
  have kr := krow_ok hq hq2 (n := 24) (by decide) (show m ≤ 31 by omega) g
  have sq := lsquares_ok hq hq2 g (n := 24) (by decide) (show m ≤ 31 by omega)
  have lp := fun k hk => lpower_ok hq hq2 g (n := 24) (by decide) (k := k) hk
  unfold fin1 at hf
  obtain ⟨hf, f3⟩ := Bool.and_eq_true_iff.mp hf
  obtain ⟨f1, f2⟩ := Bool.and_eq_true_iff.mp hf
  have f1 := of_decide_eq_true f1
  have f2 := of_decide_eq_true f2
  have f3 : ∀ k ∈ kinds p m, (fl p m m).fmod (kn p m k) = 0 := fun k hk => of_decide_eq_true (List.all_eq_true.mp f3 k hk)
  have n2 : ∀ (a b : D) w, newL 0 [a, b] w = .ok (.lst [a, b], w) := fun a b w => newL_0 (show 2 ≤ mxLen by decide)
  have lk : (kinds p m).length ≤ 100 := Nat.le_trans ln (by omega)
  have nt : ∀ w, newT ((kinds p m).map (pr p m)) w = .ok (.tup ((kinds p m).map (pr p m)), w) := fun w => newT_ok' (le_mx (by rw [List.length_map]; omega))
  have nl : ∀ (f : Kd → D) w, newL 0 ((kinds p m).map f) w = .ok (.lst ((kinds p m).map f), w) := fun f w => newL_0 (le_mx (by rw [List.length_map]; omega))
  have nl2 : ∀ (f : Nat × Int → D) w, newL 0 ((fkl p m).map f) w = .ok (.lst ((fkl p m).map f), w) := fun f w => newL_0 (le_mx (by rw [List.length_map]; omega))
  -- the kinds with their numbers
  have c1 : coL (asg (.nm 5)) (evC ⟨F 24, C⟩ .no) (evE ⟨F 24, C⟩ e24_2) (fun _ => true) [5] (hd sc t p m [none, none, none, none, none, none, none, none, none, none]) ((kinds p m).map Kd.d) ⟨hd sc t p m [none, none, none, none, none, none, none, none, none, none], [], g⟩ [] = .ok ((kinds p m).map (pr p m), ⟨hd sc t p m [none, none, none, none, none, none, none, none, none, none], [], g⟩) := by
    have go : ∀ (l acc : List Kd), acc.length + l.length ≤ 200 → (∀ k ∈ l, Vk p m k) → coL (asg (.nm 5)) (evC ⟨F 24, C⟩ .no) (evE ⟨F 24, C⟩ e24_2) (fun _ => true) [5] (hd sc t p m [none, none, none, none, none, none, none, none, none, none]) (l.map Kd.d) ⟨hd sc t p m [none, none, none, none, none, none, none, none, none, none], [], g⟩ (acc.map (pr p m)) = .ok ((acc ++ l).map (pr p m), ⟨hd sc t p m [none, none, none, none, none, none, none, none, none, none], [], g⟩) := by
      intro l
      induction l with
      | nil => intro acc _ _; simp
      | cons k l ih =>
        intro acc ha hv
        have kk := lkind_ok hq hq2 g (n := 24) (by decide) (show m ≤ 31 by omega) (hv k List.mem_cons_self)
        have la : acc.length < mxLen := Nat.lt_of_lt_of_le (show acc.length < 1000 by simp at ha; omega) (by decide)
        rw [List.map_cons, coL_cons]
        have := ih (acc ++ [k]) (by simp at ha ⊢; omega) (fun k hk => hv k (List.mem_cons_of_mem _ hk))
        rw [List.map_append, List.append_assoc] at this
        simp only [hd] at this ⊢
        simp [e24_2, kd_rs, kk, newT_ok', la]
        simpa [pr, e24_2] using this
    have := go (kinds p m) [] (by simp; omega) hv
    simpa using this
  -- divisible
  have c2 : ∀ (σ : List (Option D)), σ = hd sc t p m [none, none, some (.tup ((kinds p m).map (pr p m))), none, none, none, none, none, none, none] → coL (asg (.tu [.nm 5, .nm 9])) (evC ⟨F 24, C⟩ .no) (evE ⟨F 24, C⟩ e24_3) (fun _ => true) [5, 9] σ ((kinds p m).map (pr p m)) ⟨σ, [], g⟩ [] = .ok ((kinds p m).map (fun _ => D.bl false), ⟨σ, [], g⟩) := by
    intro σ hσ
    have go : ∀ (l : List Kd) (acc : List D), acc.length + l.length ≤ 200 → (∀ k ∈ l, Vk p m k ∧ (fl p m m).fmod (kn p m k) = 0) → coL (asg (.tu [.nm 5, .nm 9])) (evC ⟨F 24, C⟩ .no) (evE ⟨F 24, C⟩ e24_3) (fun _ => true) [5, 9] σ (l.map (pr p m)) ⟨σ, [], g⟩ acc = .ok (acc ++ l.map (fun _ => D.bl false), ⟨σ, [], g⟩) := by
      intro l
      induction l with
      | nil => intro acc _ _; simp
      | cons k l ih =>
        intro acc ha hv
        obtain ⟨v1, v2⟩ := hv k List.mem_cons_self
        have v3 := (kn_bnd hq hq2 (show m ≤ 31 by omega) v1).1
        have v4 : ¬ kn p m k = 0 := by omega
        have la : acc.length < mxLen := Nat.lt_of_lt_of_le (show acc.length < 1000 by simp at ha; omega) (by decide)
        rw [List.map_cons, coL_cons]
        have := ih (acc ++ [.bl false]) (by simp at ha ⊢; omega) (fun k hk => hv k (List.mem_cons_of_mem _ hk))
        rw [List.append_assoc] at this
        subst hσ
        simp only [hd] at this ⊢
        simp [e24_3, pr, sq, v2, v4, la]
        simpa [e24_3, pr] using this
    have := go (kinds p m) [] (by simp; omega) fun k hk => ⟨hv k hk, f3 k hk⟩
    simpa using this
  have c3 : ∀ (σ : List (Option D)), σ = hd sc t p m [none, none, some (.tup ((kinds p m).map (pr p m))), none, none, none, none, none, none, none] → coL (asg (.tu [.nm 5, .nm 9])) (evC ⟨F 24, C⟩ .no) (evE ⟨F 24, C⟩ e24_4) (fun _ => true) [5, 9] σ ((kinds p m).map (pr p m)) ⟨σ, [], g⟩ [] = .ok (((kinds p m).map (kn p m)).map D.int, ⟨σ, [], g⟩) := by
    intro σ hσ
    have go : ∀ (l : List Kd) (acc : List D), acc.length + l.length ≤ 200 → coL (asg (.tu [.nm 5, .nm 9])) (evC ⟨F 24, C⟩ .no) (evE ⟨F 24, C⟩ e24_4) (fun _ => true) [5, 9] σ (l.map (pr p m)) ⟨σ, [], g⟩ acc = .ok (acc ++ (l.map (kn p m)).map D.int, ⟨σ, [], g⟩) := by
      intro l
      induction l with
      | nil => intro acc _; simp
      | cons k l ih =>
        intro acc ha
        have la : acc.length < mxLen := Nat.lt_of_lt_of_le (show acc.length < 1000 by simp at ha; omega) (by decide)
        rw [List.map_cons, coL_cons]
        have := ih (acc ++ [.int (kn p m k)]) (by simp at ha ⊢; omega)
        rw [List.append_assoc] at this
        subst hσ
        simp only [hd] at this ⊢
        simp [e24_4, pr, la]
        simpa [e24_4, pr] using this
    have := go (kinds p m) [] (by simp; omega)
    simpa using this
  have c4 : ∀ (σ : List (Option D)) (x1 x2 x3 x4 : Option D), σ = hd sc t p m [none, none, x1, none, none, x2, x3, x4, none, none] → coL (asg (.nm 14)) (evC ⟨F 24, C⟩ .no) (evE ⟨F 24, C⟩ e24_5) (fun _ => true) [14] σ ((fkl p m).map fd) ⟨σ, [], g⟩ [] = .ok (((fkl p m).map (fn' p m)).map D.int, ⟨σ, [], g⟩) := by
    intro σ x1 x2 x3 x4 hσ
    have go : ∀ (l : List (Nat × Int)) (acc : List D), acc.length + l.length ≤ 200 → (∀ k ∈ l, Vf p m k) → coL (asg (.nm 14)) (evC ⟨F 24, C⟩ .no) (evE ⟨F 24, C⟩ e24_5) (fun _ => true) [14] σ (l.map fd) ⟨σ, [], g⟩ acc = .ok (acc ++ (l.map (fn' p m)).map D.int, ⟨σ, [], g⟩) := by
      intro l
      induction l with
      | nil => intro acc _ _; simp
      | cons k l ih =>
        intro acc ha hv
        have kk := lform_ok hq hq2 g (n := 24) (by decide) (show m ≤ 31 by omega) (hv k List.mem_cons_self)
        have la : acc.length < mxLen := Nat.lt_of_lt_of_le (show acc.length < 1000 by simp at ha; omega) (by decide)
        rw [List.map_cons, coL_cons]
        have := ih (acc ++ [.int (fn' p m k)]) (by simp at ha ⊢; omega) (fun k hk => hv k (List.mem_cons_of_mem _ hk))
        rw [List.append_assoc] at this
        subst hσ
        simp only [hd] at this ⊢
        simp [e24_5, fd_rs, kk, la]
        simpa [e24_5] using this
    have := go (fkl p m) [] (by simp; omega) hv2
    simpa using this
  have d2 : ∀ x, divOk x 2 = true := fun x => divOk_s (by decide) (by decide)
  have m1 : ∀ x, mulOk (m : Int) x = true := fun x => mulOk_l (by omega)
  have q1 : (m : Int) * ((m : Int) + 1) = ((m * (m + 1) : Nat) : Int) := by push_cast; rfl
  have q2 := nn m
  have b1 : m * (m + 1) ≤ 6 * 7 := Nat.mul_le_mul hm (by omega)
  have b2 : m * (m - 1) ≤ 6 * 6 := Nat.mul_le_mul hm (by omega)
  have l1 := lp (m * (m + 1) / 2) (by omega)
  have l2 := lp (m * (m - 1) / 2) (by omega)
  have bf : ∀ l : List Kd, boolD (l.map fun _ => D.bl false) = some (l.map fun _ => false) ∧ (l.map fun _ => false).any id = false := by
    intro l
    induction l with
    | nil => exact ⟨rfl, rfl⟩
    | cons k l ih =>
      refine ⟨?_, ?_⟩
      · simp only [List.map_cons]
        rw [boolD, ih.1]
        rfl
      · simp only [List.map_cons, List.any_cons, ih.2]
        rfl
  obtain ⟨more, hmore⟩ : ∃ x, x = (if 2 < p then p ^ (m * (m - 1) / 2) - 1 else 0) := ⟨_, rfl⟩
  refine ⟨some (.tup ((kinds p m).map (pr p m))), some (.int (p ^ (m * (m + 1) / 2))), some (.int (p ^ (m * (m + 1) / 2) + more)), some (.int more), some (.int (p ^ (m * (m + 1) / 2))), ?_⟩
  unfold b24_2
  rw [show List.drop 5 _ = _ from rfl]
  refine (exB_step (w' := ⟨hd sc t p m [none, none, some (.tup ((kinds p m).map (pr p m))), none, none, none, none, none, none, none], [], g⟩) ?_).trans ?_
  · simp only [hd] at c1 ⊢
    simp [kk, c1, nl, nt]
  refine (exB_step (w' := ⟨hd sc t p m [none, none, some (.tup ((kinds p m).map (pr p m))), none, none, none, none, none, none, none], [], g⟩) ?_).trans ?_
  · have rr := fun w => rRow hq hq2 hm (w := w)
    simp only [hd]
    simp [kr, n2, rr, arr]
  refine (exB_step (w' := ⟨hd sc t p m [none, none, some (.tup ((kinds p m).map (pr p m))), none, none, none, none, none, none, none], [], g⟩) ?_).trans ?_
  · have c := c2 _ rfl
    obtain ⟨bf1, bf2⟩ := bf (kinds p m)
    simp only [hd] at c ⊢
    simp only [exS_ite, evT, evE_bi, evEs_cons, evEs_nil, evE_co, evI_seq, evE_v, List.getElem?_cons_succ, List.getElem?_cons_zero, R.bd_ok, seq_tup, R.of_some, srcOf_tup, src_nonF]
    rw [c]
    simp only [R.bd_ok, nl, bq_any, isL_lst, seq_lst, isT_lst, Option.bind_some]
    rw [bf1]
    simp [bf2]
  refine (exB_step (w' := ⟨hd sc t p m [none, none, some (.tup ((kinds p m).map (pr p m))), none, none, some (.int (p ^ (m * (m + 1) / 2))), some (.int (p ^ (m * (m + 1) / 2) + more)), none, none, none], [], g⟩) ?_).trans ?_
  · have c := c3 _ rfl
    have i1 := intD_map ((kinds p m).map (kn p m))
    have nl' : ∀ w, newL 0 (((kinds p m).map (kn p m)).map D.int) w = .ok (.lst (((kinds p m).map (kn p m)).map D.int), w) := fun w => newL_0 (le_mx (by rw [List.length_map, List.length_map]; omega))
    simp only [hd] at c ⊢
    simp only [exS_set, evE_tup, evE_bi, evEs_cons, evEs_nil, evE_co, evI_seq, evE_v, evE_call, evE_op, evE_k, List.getElem?_cons_succ, List.getElem?_cons_zero, R.bd_ok, seq_tup, R.of_some, srcOf_tup, src_nonF]
    simp [m1, q1, fd2, l1, d2, -Int.natCast_add, -Int.natCast_mul, -Int.natCast_ediv, -List.map_map]
    rw [c]
    simp only [R.bd_ok, nl', bq_sum, seq_lst, Option.bind_some, i1, R.of_some, suml_eq, f1, hmore]
    simp [newT_ok']
  refine (exB_step (w' := ⟨hd sc t p m [none, none, some (.tup ((kinds p m).map (pr p m))), none, none, some (.int (p ^ (m * (m + 1) / 2))), some (.int (p ^ (m * (m + 1) / 2) + more)), some (.int more), none, none], [], g⟩) ?_).trans ?_
  · simp only [hd]
    by_cases c : 2 < p
    · rw [if_pos c] at hmore
      simp [c, m1, q2, fd2, l2, d2, hmore, -Int.natCast_add, -Int.natCast_mul, -Int.natCast_ediv]
    · rw [if_neg c] at hmore
      simp [c, hmore]
  refine (exB_step (w' := ⟨hd sc t p m [none, none, some (.tup ((kinds p m).map (pr p m))), none, none, some (.int (p ^ (m * (m + 1) / 2))), some (.int (p ^ (m * (m + 1) / 2) + more)), some (.int more), some (.int (p ^ (m * (m + 1) / 2))), none], [], g⟩) ?_).trans ?_
  · have c := c4 _ (some (.tup ((kinds p m).map (pr p m)))) (some (.int (p ^ (m * (m + 1) / 2)))) (some (.int (p ^ (m * (m + 1) / 2) + more))) (some (.int more)) rfl
    have i1 := intD_map ((fkl p m).map (fn' p m))
    have nl' : ∀ w, newL 0 (((fkl p m).map (fn' p m)).map D.int) w = .ok (.lst (((fkl p m).map (fn' p m)).map D.int), w) := fun w => newL_0 (le_mx (by rw [List.length_map, List.length_map]; omega))
    simp only [hd] at c ⊢
    simp [fk, -List.map_map]
    rw [c]
    simp only [R.bd_ok, nl', bq_sum, seq_lst, Option.bind_some, i1, R.of_some, suml_eq, f2]
    simp
  refine (exB_step (w' := ⟨hd sc t p m [none, none, some (.tup ((kinds p m).map (pr p m))), none, none, some (.int (p ^ (m * (m + 1) / 2))), some (.int (p ^ (m * (m + 1) / 2) + more)), some (.int more), some (.int (p ^ (m * (m + 1) / 2))), none], [], g⟩) ?_).trans rfl
  simp only [hd]
  simp
end
theorem turn {sc : List Int} {i : Nat} {g : List (List D)} (hg : Bag g) : ∃ (σ : List (Option D)) (g' : List (List D)), Bag g' ∧ (σ.length = 12 ∧ σ[3]? = some none ∧ σ[6]? = some none ∧ σ[11]? = some none) ∧
    exB ⟨F 24, C⟩ b24_2 ⟨[some (.sc (sc.map D.int)), some (.g 1), some (.int (0 + i)), none, none, none, none, none, none, none, none, none, none, none, none], [], g⟩ = .ok (.nx, ⟨some (.sc (sc.map D.int)) :: some (.g 1) :: some (.int (0 + i)) :: σ, [], g'⟩) := by
  obtain ⟨x, g1, e1, p1, h1⟩ := pickD hg (([2, 2, 3, 3, 5, 7, 11, 13, 101, 997] : List Int).map D.int) (by decide) (by decide) (okRets_int _)
  obtain ⟨p, hp, rfl⟩ := List.mem_map.mp h1
  have hp : p ∈ ps := by
    have : p = 2 ∨ p = 2 ∨ p = 3 ∨ p = 3 ∨ p = 5 ∨ p = 7 ∨ p = 11 ∨ p = 13 ∨ p = 101 ∨ p = 997 := by simpa using hp
    unfold ps
    simp
    omega
  have hpp : p = 2 ∨ p = 3 ∨ p = 5 ∨ p = 7 ∨ p = 11 ∨ p = 13 ∨ p = 101 ∨ p = 997 := by simpa [ps] using hp
  have hq : 2 ≤ p := by omega
  have hq2 : p ≤ 1000 := by omega
  obtain ⟨hi, hh, eh⟩ : ∃ hi : Int, (hi = 30 ∨ hi = 6) ∧ ∀ w : Wd, w.σ = [some (.sc (sc.map D.int)), some (.g 1), some (.int (0 + i)), some (.int p), none, none, none, none, none, none, none, none, none, none, none] → evE ⟨F 24, C⟩ (.ite (.cm .eq (.v 2) (.k (.int 0))) (.k (.int 30)) (.k (.int 6))) w = .ok (.int hi, w) := by
    by_cases h : (0 + (i : Int)) = 0
    · exact ⟨30, .inl rfl, fun w hw => by simp [hw, h]⟩
    · have h' : ¬ i = 0 := by omega
      exact ⟨6, .inr rfl, fun w hw => by simp [hw, h']⟩
  obtain ⟨x, g2, e2, p2, h2⟩ := pickD p1 (([4, 6, hi] : List Int).map D.int) (show 0 < 3 by decide) (show 3 < 1000000 by decide) (okRets_int _)
  obtain ⟨y, hy, rfl⟩ := List.mem_map.mp h2
  have hy : y = 4 ∨ y = 6 ∨ y = hi := by simpa using hy
  obtain ⟨r, g3, e3, p3, h3⟩ := draw24 (n := 24) (by decide) p2 (m := y) (by omega) (by omega)
  obtain ⟨m, hm⟩ : ∃ m : Nat, m = 1 + r := ⟨_, rfl⟩
  have hmi : (m : Int) = 1 + (r : Int) := by omega
  obtain ⟨l, g4, p4, hl, _, e4⟩ := picks1 hq hq2 (sc := sc) (t := 0 + i) (m := m) (by omega) p3
  have e5 := loop1 hq hq2 (sc := sc) (t := 0 + i) (m := m) (by omega) g4 l hl
  obtain ⟨l2, g5, p5, hl2, ll2, e6⟩ := picks2 hq hq2 (sc := sc) (t := 0 + i) (m := m) (by omega) p4
  have e7 := loop2 hq hq2 (sc := sc) (t := 0 + i) (m := m) (by omega) g5 l2 hl2
  obtain ⟨r2, g6, e8, p6, h8⟩ := draw24 (n := 24) (by decide) p5 (m := 6) (by omega) (by omega)
  have m2 : (1 : Int) + r2 = ((r2 + 1 : Nat) : Int) := by omega
  have fa := fin_all
  have fa := List.all_eq_true.mp fa p hp
  have fa := List.all_eq_true.mp fa (r2 + 1) (by
    have : r2 = 0 ∨ r2 = 1 ∨ r2 = 2 ∨ r2 = 3 ∨ r2 = 4 ∨ r2 = 5 := by omega
    rcases this with rfl | rfl | rfl | rfl | rfl | rfl <;> decide)
  obtain ⟨x7, x10, x11, x12, x13, e9⟩ := part2 hq hq2 (sc := sc) (t := 0 + i) (m := r2 + 1) (by omega) fa g6
  have r4 : rngF [.int 4] = some (rngL 0 4) := rng_1 (by decide) (by decide)
  have nl1 : ∀ w, newL 0 (l.map Kd.d) w = .ok (.lst (l.map Kd.d), w) := fun w => newL_0 (le_mx (by rw [List.length_map]; omega))
  have nl2 : ∀ w, newL 0 (l2.map fd) w = .ok (.lst (l2.map fd), w) := fun w => newL_0 (le_mx (by rw [List.length_map]; omega))
  have n3 : ∀ (a b c : D) w, newL 0 [a, b, c] w = .ok (.lst [a, b, c], w) := fun a b c w => newL_0 (show 3 ≤ mxLen by decide)
  have n10 : ∀ w, newL 0 [.int 2, .int 2, .int 3, .int 3, .int 5, .int 7, .int 11, .int 13, .int 101, .int 997] w = .ok (.lst [.int 2, .int 2, .int 3, .int 3, .int 5, .int 7, .int 11, .int 13, .int 101, .int 997], w) := fun w => newL_0 (show 10 ≤ mxLen by decide)
  simp only [List.map_cons, List.map_nil] at e1 e2
  refine ⟨[some (.int p), some (.int ((r2 + 1 : Nat) : Int)), none, none, x7, none, none, x10, x11, x12, x13, none], g6, p6, ⟨rfl, rfl, rfl, rfl⟩, ?_⟩
  unfold b24_2
  refine (exB_step (w' := ⟨[some (.sc (sc.map D.int)), some (.g 1), some (.int (0 + i)), some (.int p), none, none, none, none, none, none, none, none, none, none, none], [], g1⟩) (by simp [n10, e1])).trans ?_
  refine (exB_step (w' := ⟨hd sc (0 + i) p m [none, none, none, none, none, none, none, none, none, none], [], g3⟩) ?_).trans ?_
  · simp only [exS_set, evE_op, evE_k, evE_call, evEs_cons, evEs_nil, evE_v, evE_lst, R.bd_ok, List.getElem?_cons_succ, List.getElem?_cons_zero]
    rw [eh _ rfl]
    simp [n3, e2, e3, hd, hmi]
  refine (exB_step (w' := ⟨hd sc (0 + i) p m [none, none, none, none, none, none, none, none, none, none], [], g4⟩) ?_).trans ?_
  · simp only [hd] at e4 e5 ⊢
    simp only [exS_for, evI_seq, evE_co, evI_rng, evEs_cons, evEs_nil, evE_k, R.bd_ok, r4, R.of_some]
    rw [e4]
    simp only [R.bd_ok, nl1, seq_lst, R.of_some, srcOf_lst, src_nonF]
    exact e5
  refine (exB_step (w' := ⟨hd sc (0 + i) p m [none, none, none, none, none, none, none, none, none, none], [], g5⟩) ?_).trans ?_
  · simp only [hd] at e6 e7 ⊢
    simp only [exS_for, evI_seq, evE_co, evI_rng, evEs_cons, evEs_nil, evE_k, R.bd_ok, r4, R.of_some]
    rw [e6]
    simp only [R.bd_ok, nl2, seq_lst, R.of_some, srcOf_lst, src_nonF]
    exact e7
  refine (exB_step (w' := ⟨hd sc (0 + i) p (r2 + 1) [none, none, none, none, none, none, none, none, none, none], [], g6⟩) ?_).trans ?_
  · simp only [hd]
    simp [e8, m2, -Int.natCast_add]
  exact e9
theorem main : ∀ ns : List Int, ns.length ≤ 63 → ∃ g', F 25 24 [.sc (ns.map D.int)] [] = .ok (.bl true, g') := by
  intro ns hn
  obtain ⟨g0, e0, p0⟩ := bag_ok (P := ⟨F 11, C⟩) hn
  have e0 : F 24 11 [.sc (ns.map D.int)] [] = .ok (.g 1, g0) := by rw [F11 (by decide)]; exact e0
  obtain ⟨w, ⟨g, rfl, p⟩, e⟩ := forL_rngI (bind := asg (.nm 2)) (body := exB ⟨F 24, C⟩ b24_2) (post := postF [2, 3, 4, 5, 7, 8, 10, 11, 12, 13] false 0) (ok := fun _ => true)
    (fun _ w => ∃ g, w = ⟨[some (.sc (ns.map D.int)), some (.g 1), none, none, none, none, none, none, none, none, none, none, none, none, none], [], g⟩ ∧ Bag g) 0 2 ⟨[some (.sc (ns.map D.int)), some (.g 1), none, none, none, none, none, none, none, none, none, none, none, none, none], [], g0⟩ (fun i w r hi h => by
      obtain ⟨g, rfl, p⟩ := h
      obtain ⟨σ, g', p', hs, e⟩ := turn (sc := ns) (i := i) p
      match σ, hs with
      | [x1, x2, x3, x4, x5, x6, x7, x8, x9, x10, x11, x12], hs =>
        obtain rfl : x4 = none := Option.some.inj hs.2.1
        obtain rfl : x7 = none := Option.some.inj hs.2.2.1
        obtain rfl : x12 = none := Option.some.inj hs.2.2.2
        refine ⟨_, ⟨g', rfl, p'⟩, ?_⟩
        rw [forL_cons]
        simp only [asg_nm, R.of_some, R.bd_ok, List.set_cons_succ, List.set_cons_zero]
        rw [e]
        simp) ⟨g0, rfl, p0⟩
  refine ⟨g, ?_⟩
  rw [F24 (by decide)]
  have r : rngF [.int 2] = some (rngL 0 2) := rng_1 (by decide) (by decide)
  simp [exD, b24, e0, r, e]
end K60

/-! the head of k60 (printed by wip/gen.py) -/
namespace K60
open PySem PySem.Spec PyProof.Rows L2 Fz
theorem ck : ckAll (tbOf ds fre cns bnd) 0 ds sts = true := by decide +kernel
theorem bn0 (kV doc pm : Value) (an : Option Addr) (cdv ct : Value) : ∀ (us ws zs : List Value), us.length = 2 → ws.length = 0 → arrD (none : Option (List Nat)) (us ++ ws) = some zs → bindArgs (PySem.W.fnOf (stName (topS 1)) (stName (topS 1)) (defArgs (topS 1)) (defBody (topS 1)) (defScope (topS 1)) .none kV doc pm an cdv ct) ⟨us, ([] : List Str).zip ws⟩ = pure (d0.ps.zip zs)
  | [_, _], [], _, _, _, e => by cases e; rfl
theorem bn1 (kV doc pm : Value) (an : Option Addr) (cdv ct : Value) : ∀ (us ws zs : List Value), us.length = 3 → ws.length = 0 → arrD (none : Option (List Nat)) (us ++ ws) = some zs → bindArgs (PySem.W.fnOf (stName (topS 3)) (stName (topS 3)) (defArgs (topS 3)) (defBody (topS 3)) (defScope (topS 3)) .none kV doc pm an cdv ct) ⟨us, ([] : List Str).zip ws⟩ = pure (d1.ps.zip zs)
  | [_, _, _], [], _, _, _, e => by cases e; rfl
theorem bn2 (kV doc pm : Value) (an : Option Addr) (cdv ct : Value) : ∀ (us ws zs : List Value), us.length = 0 → ws.length = 3 → arrD (some [2, 1, 0]) (us ++ ws) = some zs → bindArgs (PySem.W.fnOf (stName (topS 14)) (stName (topS 14)) (defArgs (topS 14)) (defBody (topS 14)) (defScope (topS 14)) .none kV doc pm an cdv ct) ⟨us, (["form_kind", "n", "p"] : List Str).zip ws⟩ = pure (d10.ps.zip zs)
  | [], [_, _, _], _, _, _, e => by cases e; rfl
theorem bn3 (kV doc pm : Value) (an : Option Addr) (cdv ct : Value) : ∀ (us ws zs : List Value), us.length = 3 → ws.length = 0 → arrD (none : Option (List Nat)) (us ++ ws) = some zs → bindArgs (PySem.W.fnOf (stName (topS 14)) (stName (topS 14)) (defArgs (topS 14)) (defBody (topS 14)) (defScope (topS 14)) .none kV doc pm an cdv ct) ⟨us, ([] : List Str).zip ws⟩ = pure (d10.ps.zip zs)
  | [_, _, _], [], _, _, _, e => by cases e; rfl
theorem bn4 (kV doc pm : Value) (an : Option Addr) (cdv ct : Value) : ∀ (us ws zs : List Value), us.length = 1 → ws.length = 0 → arrD (none : Option (List Nat)) (us ++ ws) = some zs → bindArgs (PySem.W.fnOf (stName (topS 16)) (stName (topS 16)) (defArgs (topS 16)) (defBody (topS 16)) (defScope (topS 16)) .none kV doc pm an cdv ct) ⟨us, ([] : List Str).zip ws⟩ = pure (d11.ps.zip zs)
  | [_], [], _, _, _, e => by cases e; rfl
theorem bn5 (kV doc pm : Value) (an : Option Addr) (cdv ct : Value) : ∀ (us ws zs : List Value), us.length = 2 → ws.length = 0 → arrD (none : Option (List Nat)) (us ++ ws) = some zs → bindArgs (PySem.W.fnOf (stName (topS 17)) (stName (topS 17)) (defArgs (topS 17)) (defBody (topS 17)) (defScope (topS 17)) .none kV doc pm an cdv ct) ⟨us, ([] : List Str).zip ws⟩ = pure (d12.ps.zip zs)
  | [_, _], [], _, _, _, e => by cases e; rfl
theorem bn6 (kV doc pm : Value) (an : Option Addr) (cdv ct : Value) : ∀ (us ws zs : List Value), us.length = 2 → ws.length = 0 → arrD (none : Option (List Nat)) (us ++ ws) = some zs → bindArgs (PySem.W.fnOf (stName (topS 18)) (stName (topS 18)) (defArgs (topS 18)) (defBody (topS 18)) (defScope (topS 18)) .none kV doc pm an cdv ct) ⟨us, ([] : List Str).zip ws⟩ = pure (d13.ps.zip zs)
  | [_, _], [], _, _, _, e => by cases e; rfl
theorem bn7 (kV doc pm : Value) (an : Option Addr) (cdv ct : Value) : ∀ (us ws zs : List Value), us.length = 2 → ws.length = 0 → arrD (none : Option (List Nat)) (us ++ ws) = some zs → bindArgs (PySem.W.fnOf (stName (topS 19)) (stName (topS 19)) (defArgs (topS 19)) (defBody (topS 19)) (defScope (topS 19)) .none kV doc pm an cdv ct) ⟨us, ([] : List Str).zip ws⟩ = pure (d14.ps.zip zs)
  | [_, _], [], _, _, _, e => by cases e; rfl
theorem bn8 (kV doc pm : Value) (an : Option Addr) (cdv ct : Value) : ∀ (us ws zs : List Value), us.length = 4 → ws.length = 0 → arrD (none : Option (List Nat)) (us ++ ws) = some zs → bindArgs (PySem.W.fnOf (stName (topS 20)) (stName (topS 20)) (defArgs (topS 20)) (defBody (topS 20)) (defScope (topS 20)) .none kV doc pm an cdv ct) ⟨us, ([] : List Str).zip ws⟩ = pure (d15.ps.zip zs)
  | [_, _, _, _], [], _, _, _, e => by cases e; rfl
theorem bn9 (kV doc pm : Value) (an : Option Addr) (cdv ct : Value) : ∀ (us ws zs : List Value), us.length = 3 → ws.length = 0 → arrD (none : Option (List Nat)) (us ++ ws) = some zs → bindArgs (PySem.W.fnOf (stName (topS 21)) (stName (topS 21)) (defArgs (topS 21)) (defBody (topS 21)) (defScope (topS 21)) .none kV doc pm an cdv ct) ⟨us, ([] : List Str).zip ws⟩ = pure (d16.ps.zip zs)
  | [_, _, _], [], _, _, _, e => by cases e; rfl
theorem bn10 (kV doc pm : Value) (an : Option Addr) (cdv ct : Value) : ∀ (us ws zs : List Value), us.length = 2 → ws.length = 0 → arrD (none : Option (List Nat)) (us ++ ws) = some zs → bindArgs (PySem.W.fnOf (stName (topS 22)) (stName (topS 22)) (defArgs (topS 22)) (defBody (topS 22)) (defScope (topS 22)) .none kV doc pm an cdv ct) ⟨us, ([] : List Str).zip ws⟩ = pure (d17.ps.zip zs)
  | [_, _], [], _, _, _, e => by cases e; rfl
theorem bn11 (kV doc pm : Value) (an : Option Addr) (cdv ct : Value) : ∀ (us ws zs : List Value), us.length = 6 → ws.length = 0 → arrD (none : Option (List Nat)) (us ++ ws) = some zs → bindArgs (PySem.W.fnOf (stName (topS 23)) (stName (topS 23)) (defArgs (topS 23)) (defBody (topS 23)) (defScope (topS 23)) .none kV doc pm an cdv ct) ⟨us, ([] : List Str).zip ws⟩ = pure (d18.ps.zip zs)
  | [_, _, _, _, _, _], [], _, _, _, e => by cases e; rfl
theorem bn12 (kV doc pm : Value) (an : Option Addr) (cdv ct : Value) : ∀ (us ws zs : List Value), us.length = 3 → ws.length = 0 → arrD (none : Option (List Nat)) (us ++ ws) = some zs → bindArgs (PySem.W.fnOf (stName (topS 24)) (stName (topS 24)) (defArgs (topS 24)) (defBody (topS 24)) (defScope (topS 24)) .none kV doc pm an cdv ct) ⟨us, ([] : List Str).zip ws⟩ = pure (d19.ps.zip zs)
  | [_, _, _], [], _, _, _, e => by cases e; rfl
theorem bn13 (kV doc pm : Value) (an : Option Addr) (cdv ct : Value) : ∀ (us ws zs : List Value), us.length = 3 → ws.length = 0 → arrD (none : Option (List Nat)) (us ++ ws) = some zs → bindArgs (PySem.W.fnOf (stName (topS 4)) (stName (topS 4)) (defArgs (topS 4)) (defBody (topS 4)) (defScope (topS 4)) .none kV doc pm an cdv ct) ⟨us, ([] : List Str).zip ws⟩ = pure (d2.ps.zip zs)
  | [_, _, _], [], _, _, _, e => by cases e; rfl
theorem bn14 (kV doc pm : Value) (an : Option Addr) (cdv ct : Value) : ∀ (us ws zs : List Value), us.length = 2 → ws.length = 0 → arrD (none : Option (List Nat)) (us ++ ws) = some zs → bindArgs (PySem.W.fnOf (stName (topS 25)) (stName (topS 25)) (defArgs (topS 25)) (defBody (topS 25)) (defScope (topS 25)) .none kV doc pm an cdv ct) ⟨us, ([] : List Str).zip ws⟩ = pure (d20.ps.zip zs)
  | [_, _], [], _, _, _, e => by cases e; rfl
theorem bn15 (kV doc pm : Value) (an : Option Addr) (cdv ct : Value) : ∀ (us ws zs : List Value), us.length = 2 → ws.length = 0 → arrD (none : Option (List Nat)) (us ++ ws) = some zs → bindArgs (PySem.W.fnOf (stName (topS 26)) (stName (topS 26)) (defArgs (topS 26)) (defBody (topS 26)) (defScope (topS 26)) .none kV doc pm an cdv ct) ⟨us, ([] : List Str).zip ws⟩ = pure (d21.ps.zip zs)
  | [_, _], [], _, _, _, e => by cases e; rfl
theorem bn16 (kV doc pm : Value) (an : Option Addr) (cdv ct : Value) : ∀ (us ws zs : List Value), us.length = 3 → ws.length = 0 → arrD (none : Option (List Nat)) (us ++ ws) = some zs → bindArgs (PySem.W.fnOf (stName (topS 27)) (stName (topS 27)) (defArgs (topS 27)) (defBody (topS 27)) (defScope (topS 27)) .none kV doc pm an cdv ct) ⟨us, ([] : List Str).zip ws⟩ = pure (d22.ps.zip zs)
  | [_, _, _], [], _, _, _, e => by cases e; rfl
theorem bn17 (kV doc pm : Value) (an : Option Addr) (cdv ct : Value) : ∀ (us ws zs : List Value), us.length = 2 → ws.length = 0 → arrD (none : Option (List Nat)) (us ++ ws) = some zs → bindArgs (PySem.W.fnOf (stName (topS 28)) (stName (topS 28)) (defArgs (topS 28)) (defBody (topS 28)) (defScope (topS 28)) .none kV doc pm an cdv ct) ⟨us, ([] : List Str).zip ws⟩ = pure (d23.ps.zip zs)
  | [_, _], [], _, _, _, e => by cases e; rfl
theorem bn18 (kV doc pm : Value) (an : Option Addr) (cdv ct : Value) : ∀ (us ws zs : List Value), us.length = 2 → ws.length = 0 → arrD (none : Option (List Nat)) (us ++ ws) = some zs → bindArgs (PySem.W.fnOf (stName (topS 5)) (stName (topS 5)) (defArgs (topS 5)) (defBody (topS 5)) (defScope (topS 5)) .none kV doc pm an cdv ct) ⟨us, ([] : List Str).zip ws⟩ = pure (d3.ps.zip zs)
  | [_, _], [], _, _, _, e => by cases e; rfl
theorem bn19 (kV doc pm : Value) (an : Option Addr) (cdv ct : Value) : ∀ (us ws zs : List Value), us.length = 2 → ws.length = 0 → arrD (none : Option (List Nat)) (us ++ ws) = some zs → bindArgs (PySem.W.fnOf (stName (topS 7)) (stName (topS 7)) (defArgs (topS 7)) (defBody (topS 7)) (defScope (topS 7)) .none kV doc pm an cdv ct) ⟨us, ([] : List Str).zip ws⟩ = pure (d4.ps.zip zs)
  | [_, _], [], _, _, _, e => by cases e; rfl
theorem bn20 (kV doc pm : Value) (an : Option Addr) (cdv ct : Value) : ∀ (us ws zs : List Value), us.length = 3 → ws.length = 0 → arrD (none : Option (List Nat)) (us ++ ws) = some zs → bindArgs (PySem.W.fnOf (stName (topS 8)) (stName (topS 8)) (defArgs (topS 8)) (defBody (topS 8)) (defScope (topS 8)) .none kV doc pm an cdv ct) ⟨us, ([] : List Str).zip ws⟩ = pure (d5.ps.zip zs)
  | [_, _, _], [], _, _, _, e => by cases e; rfl
theorem bn21 (kV doc pm : Value) (an : Option Addr) (cdv ct : Value) : ∀ (us ws zs : List Value), us.length = 3 → ws.length = 0 → arrD (none : Option (List Nat)) (us ++ ws) = some zs → bindArgs (PySem.W.fnOf (stName (topS 9)) (stName (topS 9)) (defArgs (topS 9)) (defBody (topS 9)) (defScope (topS 9)) .none kV doc pm an cdv ct) ⟨us, ([] : List Str).zip ws⟩ = pure (d6.ps.zip zs)
  | [_, _, _], [], _, _, _, e => by cases e; rfl
theorem bn22 (kV doc pm : Value) (an : Option Addr) (cdv ct : Value) : ∀ (us ws zs : List Value), us.length = 0 → ws.length = 3 → arrD (some [2, 1, 0]) (us ++ ws) = some zs → bindArgs (PySem.W.fnOf (stName (topS 11)) (stName (topS 11)) (defArgs (topS 11)) (defBody (topS 11)) (defScope (topS 11)) .none kV doc pm an cdv ct) ⟨us, (["kind", "n", "p"] : List Str).zip ws⟩ = pure (d7.ps.zip zs)
  | [], [_, _, _], _, _, _, e => by cases e; rfl
theorem bn23 (kV doc pm : Value) (an : Option Addr) (cdv ct : Value) : ∀ (us ws zs : List Value), us.length = 3 → ws.length = 0 → arrD (none : Option (List Nat)) (us ++ ws) = some zs → bindArgs (PySem.W.fnOf (stName (topS 11)) (stName (topS 11)) (defArgs (topS 11)) (defBody (topS 11)) (defScope (topS 11)) .none kV doc pm an cdv ct) ⟨us, ([] : List Str).zip ws⟩ = pure (d7.ps.zip zs)
  | [_, _, _], [], _, _, _, e => by cases e; rfl
theorem bn24 (kV doc pm : Value) (an : Option Addr) (cdv ct : Value) : ∀ (us ws zs : List Value), us.length = 0 → ws.length = 2 → arrD (some [1, 0]) (us ++ ws) = some zs → bindArgs (PySem.W.fnOf (stName (topS 12)) (stName (topS 12)) (defArgs (topS 12)) (defBody (topS 12)) (defScope (topS 12)) .none kV doc pm an cdv ct) ⟨us, (["n", "p"] : List Str).zip ws⟩ = pure (d8.ps.zip zs)
  | [], [_, _], _, _, _, e => by cases e; rfl
theorem bn25 (kV doc pm : Value) (an : Option Addr) (cdv ct : Value) : ∀ (us ws zs : List Value), us.length = 2 → ws.length = 0 → arrD (none : Option (List Nat)) (us ++ ws) = some zs → bindArgs (PySem.W.fnOf (stName (topS 12)) (stName (topS 12)) (defArgs (topS 12)) (defBody (topS 12)) (defScope (topS 12)) .none kV doc pm an cdv ct) ⟨us, ([] : List Str).zip ws⟩ = pure (d8.ps.zip zs)
  | [_, _], [], _, _, _, e => by cases e; rfl
theorem bn26 (kV doc pm : Value) (an : Option Addr) (cdv ct : Value) : ∀ (us ws zs : List Value), us.length = 0 → ws.length = 3 → arrD (some [2, 1, 0]) (us ++ ws) = some zs → bindArgs (PySem.W.fnOf (stName (topS 13)) (stName (topS 13)) (defArgs (topS 13)) (defBody (topS 13)) (defScope (topS 13)) .none kV doc pm an cdv ct) ⟨us, (["kind", "n", "p"] : List Str).zip ws⟩ = pure (d9.ps.zip zs)
  | [], [_, _, _], _, _, _, e => by cases e; rfl
theorem bn27 (kV doc pm : Value) (an : Option Addr) (cdv ct : Value) : ∀ (us ws zs : List Value), us.length = 3 → ws.length = 0 → arrD (none : Option (List Nat)) (us ++ ws) = some zs → bindArgs (PySem.W.fnOf (stName (topS 13)) (stName (topS 13)) (defArgs (topS 13)) (defBody (topS 13)) (defScope (topS 13)) .none kV doc pm an cdv ct) ⟨us, ([] : List Str).zip ws⟩ = pure (d9.ps.zip zs)
  | [_, _, _], [], _, _, _, e => by cases e; rfl
theorem bnds : BindsAll ds sts bnd := by
  intro b hb d st h1 h2
  have hb : b ∈ ([(0, 2, [], none), (1, 3, [], none), (10, 0, ["form_kind", "n", "p"], some [2, 1, 0]), (10, 3, [], none), (11, 1, [], none), (12, 2, [], none), (13, 2, [], none), (14, 2, [], none), (15, 4, [], none), (16, 3, [], none), (17, 2, [], none), (18, 6, [], none), (19, 3, [], none), (2, 3, [], none), (20, 2, [], none), (21, 2, [], none), (22, 3, [], none), (23, 2, [], none), (3, 2, [], none), (4, 2, [], none), (5, 3, [], none), (6, 3, [], none), (7, 0, ["kind", "n", "p"], some [2, 1, 0]), (7, 3, [], none), (8, 0, ["n", "p"], some [1, 0]), (8, 2, [], none), (9, 0, ["kind", "n", "p"], some [2, 1, 0]), (9, 3, [], none)] : List (Nat × Nat × List Str × Option (List Nat))) := hb
  simp only [List.mem_cons, List.not_mem_nil, or_false] at hb
  rcases hb with rfl | rfl | rfl | rfl | rfl | rfl | rfl | rfl | rfl | rfl | rfl | rfl | rfl | rfl | rfl | rfl | rfl | rfl | rfl | rfl | rfl | rfl | rfl | rfl | rfl | rfl | rfl | rfl
  · cases h1; cases h2; exact fun kV doc pm an cdv ct us ws zs l1 l2 e => bn0 kV doc pm an cdv ct us ws zs l1 l2 e
  · cases h1; cases h2; exact fun kV doc pm an cdv ct us ws zs l1 l2 e => bn1 kV doc pm an cdv ct us ws zs l1 l2 e
  · cases h1; cases h2; exact fun kV doc pm an cdv ct us ws zs l1 l2 e => bn2 kV doc pm an cdv ct us ws zs l1 l2 e
  · cases h1; cases h2; exact fun kV doc pm an cdv ct us ws zs l1 l2 e => bn3 kV doc pm an cdv ct us ws zs l1 l2 e
  · cases h1; cases h2; exact fun kV doc pm an cdv ct us ws zs l1 l2 e => bn4 kV doc pm an cdv ct us ws zs l1 l2 e
  · cases h1; cases h2; exact fun kV doc pm an cdv ct us ws zs l1 l2 e => bn5 kV doc pm an cdv ct us ws zs l1 l2 e
  · cases h1; cases h2; exact fun kV doc pm an cdv ct us ws zs l1 l2 e => bn6 kV doc pm an cdv ct us ws zs l1 l2 e
  · cases h1; cases h2; exact fun kV doc pm an cdv ct us ws zs l1 l2 e => bn7 kV doc pm an cdv ct us ws zs l1 l2 e
  · cases h1; cases h2; exact fun kV doc pm an cdv ct us ws zs l1 l2 e => bn8 kV doc pm an cdv ct us ws zs l1 l2 e
  · cases h1; cases h2; exact fun kV doc pm an cdv ct us ws zs l1 l2 e => bn9 kV doc pm an cdv ct us ws zs l1 l2 e
  · cases h1; cases h2; exact fun kV doc pm an cdv ct us ws zs l1 l2 e => bn10 kV doc pm an cdv ct us ws zs l1 l2 e
  · cases h1; cases h2; exact fun kV doc pm an cdv ct us ws zs l1 l2 e => bn11 kV doc pm an cdv ct us ws zs l1 l2 e
  · cases h1; cases h2; exact fun kV doc pm an cdv ct us ws zs l1 l2 e => bn12 kV doc pm an cdv ct us ws zs l1 l2 e
  · cases h1; cases h2; exact fun kV doc pm an cdv ct us ws zs l1 l2 e => bn13 kV doc pm an cdv ct us ws zs l1 l2 e
  · cases h1; cases h2; exact fun kV doc pm an cdv ct us ws zs l1 l2 e => bn14 kV doc pm an cdv ct us ws zs l1 l2 e
  · cases h1; cases h2; exact fun kV doc pm an cdv ct us ws zs l1 l2 e => bn15 kV doc pm an cdv ct us ws zs l1 l2 e
  · cases h1; cases h2; exact fun kV doc pm an cdv ct us ws zs l1 l2 e => bn16 kV doc pm an cdv ct us ws zs l1 l2 e
  · cases h1; cases h2; exact fun kV doc pm an cdv ct us ws zs l1 l2 e => bn17 kV doc pm an cdv ct us ws zs l1 l2 e
  · cases h1; cases h2; exact fun kV doc pm an cdv ct us ws zs l1 l2 e => bn18 kV doc pm an cdv ct us ws zs l1 l2 e
  · cases h1; cases h2; exact fun kV doc pm an cdv ct us ws zs l1 l2 e => bn19 kV doc pm an cdv ct us ws zs l1 l2 e
  · cases h1; cases h2; exact fun kV doc pm an cdv ct us ws zs l1 l2 e => bn20 kV doc pm an cdv ct us ws zs l1 l2 e
  · cases h1; cases h2; exact fun kV doc pm an cdv ct us ws zs l1 l2 e => bn21 kV doc pm an cdv ct us ws zs l1 l2 e
  · cases h1; cases h2; exact fun kV doc pm an cdv ct us ws zs l1 l2 e => bn22 kV doc pm an cdv ct us ws zs l1 l2 e
  · cases h1; cases h2; exact fun kV doc pm an cdv ct us ws zs l1 l2 e => bn23 kV doc pm an cdv ct us ws zs l1 l2 e
  · cases h1; cases h2; exact fun kV doc pm an cdv ct us ws zs l1 l2 e => bn24 kV doc pm an cdv ct us ws zs l1 l2 e
  · cases h1; cases h2; exact fun kV doc pm an cdv ct us ws zs l1 l2 e => bn25 kV doc pm an cdv ct us ws zs l1 l2 e
  · cases h1; cases h2; exact fun kV doc pm an cdv ct us ws zs l1 l2 e => bn26 kV doc pm an cdv ct us ws zs l1 l2 e
  · cases h1; cases h2; exact fun kV doc pm an cdv ct us ws zs l1 l2 e => bn27 kV doc pm an cdv ct us ws zs l1 l2 e
def fn : List He.DefD := sts.map dOf
def fa : List He.Fa := faOf ds fre cns
abbrev Rw : PySem.W.OpenRow := PySem.W.OpenLaw.row PySem.Challenge.rw_formspaces_k60_whole_kind_numbers
abbrev hk : PySem.W.Hook := He.hookD 4 fa fn
def ob (s : PySem.W.SharedT) : He.AlD := He.obsDG 4 fa fn (HandSHeadRun.getT s)
theorem ob_eq (s : PySem.W.SharedT) : ob s = hk.obs s.abs := He.obsDG_eq (HandSHeadRun.getT_eq s)
def loose_0 : List Str := ["power_of", "falls", "spaces_number", "squares_number", "odd_product", "same_number", "alternating_number", "kind_number", "kinds_row", "keepers_number", "form_kind_number", "_law_bag", "_law_draw", "_law_pick", "_law_powers", "_law_ways", "_law_ranks", "_law_power", "_law_put", "_law_kind_number"]
def loose_1 : List Str := ["_law_kinds", "_law_squares", "_law_form_number", "_law_form_kinds"]
def loose : List Str := loose_0 ++ loose_1
theorem run (w : World) : HandSHeadRun.RunEq Rw (PySem.W.view Rw.prog [29]) hk ob 2800 loose w := by
  intro os
  kernel_rfl
end K60
open PySem PySem.W PySem.Calls PyProof.Rows in
theorem PySem.Challenge.cw_formspaces_k60_whole_kind_numbers_holds : PySem.Challenge.rw_formspaces_k60_whole_kind_numbers.Holds := by
  w_on; o_law
  refine HandSHeadRun.head_any (r := K60.Rw) (q := view K60.Rw.prog [29]) (H := K60.hk) (ob := K60.ob) (M := 2800) (loose := K60.loose) (d := HandSHeadRun.topDef K60.Rw.prog 29) (kwd := []) K60.ob_eq
    (by kernel_rfl) (fun s => by kernel_rfl) K60.run (by kernel_rfl) (by kernel_rfl) (by kernel_rfl) (by rfl) (by first | assumption | decide +kernel) (by decide +kernel) ⟨rfl, rfl, rfl, rfl, rfl, by decide +kernel⟩ ?hw ?hc
  case hw => w_witness2
  case hc =>
    refine Fz.walk_ofG (l := PySem.Challenge.rw_formspaces_k60_whole_kind_numbers) (n := 63) (k := 25) (x := "script") (Fl := K60.F 25 24) rfl (by decide) (by kernel_rfl) ⟨rfl, by decide, by decide⟩ ?F (fun ns h => K60.main ns h)
    intro w mg fa h Y G hmg0
    obtain ⟨K, KX, c⟩ := Y
    have hmg : mg ("law" : PySem.Str) = some (.ref fa) := by
      have e : (HandSHeadRun.topDef K60.Rw.prog 29).name = ("law" : PySem.Str) := by kernel_rfl
      rw [← e]
      exact hmg0
    refine ⟨K, ?_⟩
    obtain ⟨fd, F, g, J, _⟩ := Fz.all_ok (P := (PySem.Challenge.rw_formspaces_k60_whole_kind_numbers).prog) (w := w) KX G c K60.ck K60.bnds 24 K60.d24 rfl
    exact Fz.end_ok (d := K60.d24) ⟨fd, F, g, J, fun _ _ _ _ => trivial⟩ rfl (fun f fd F s u => L2.FunD.bindsA (ps := ["script"]) F (fun _ _ _ _ _ _ us hl => match us, hl with | [_], _ => rfl) s [u] rfl) KX hmg
