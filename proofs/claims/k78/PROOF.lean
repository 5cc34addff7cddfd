import PyProof.Rows.All
import Wide.All
import OpenK.AllK
import Wide.FinOn
import HandS.ForMost
import HandS.ForExc
import HandS.IsInst
import HandS.Flow
import HandS.CallSlots
import HandS.TupAny
import HandS.TupLe
import HandS.More
import HandS.Deep
import HandS.RaiseMore
import HandS.Zip
import KE.GoesEnum
import HandS.Comp
import HandS.Small
import HandS.Defaults
import HandS.Codes
import HandS.Words
import HandS.Text
import KE.SortData
import PyProof.TupleOfSeq
import PyProof.CollectStr
import KE.KDictSum
import HandS.Set
import HandS.Strs
import HandS.HeadEnd
import HandS.Style
import HandS.Head0
import HandS.Head1
import HandS.Head2
import HandS.HeadHook1
import HandS.HeadHook2
import KE.DataMinMax
import PyProof.SetRoads
import HandS.Iter
import HandS.DictComp
import HandS.SetFor
import PyProof.EqAt
import PyProof.Rows.RegReprOcc
import HandS.TupMul
import HandS.DictEq
import HandS.Replace
import PyProof.Rows.StrMul
import PyProof.Rows.StrLawsPart
import HandS.Conv
import PyProof.TableCode
import PySem.Challenge.RW_lettergrounds_k78_whole_steps_along_the
set_option Elab.async false
set_option linter.all false
set_option maxRecDepth 100000
set_option maxHeartbeats 4000000
section
/-! MiA: a small interpreter over plain data, as combinators. No machine in sight. -/
namespace Mi

/-! ### data -/
inductive D where
  | non | bl (b : Bool) | int (i : Int) | str (s : List Nat) | tup (xs : List D) | lst (xs : List D) | dct (kvs : List (D × D)) | fn (i : Nat) | cup | scr (ns : List Int)
  deriving Inhabited

/-- an own exception: its class by number, its limit -/
structure Ex where
  c : Nat
  lim : Option Int
  deriving DecidableEq

abbrev Cup := Option (Int × Int)

inductive R (α : Type) where
  | ok (a : α)
  | err (e : Ex) (c : Cup)
  | no
  deriving Inhabited

def R.bind {α β : Type} : R α → (α → R β) → R β
  | .ok a, f => f a
  | .err e c, _ => .err e c
  | .no, _ => .no
@[simp] theorem R.bind_ok {α β : Type} (a : α) (f : α → R β) : (R.ok a).bind f = f a := rfl
@[simp] theorem R.bind_err {α β : Type} (e : Ex) (c : Cup) (f : α → R β) : (R.err e c : R α).bind f = .err e c := rfl
@[simp] theorem R.bind_no {α β : Type} (f : α → R β) : (R.no : R α).bind f = .no := rfl
/-- .. where nothing may be raised -/
def R.quiet {α : Type} : R α → R α
  | .ok a => .ok a
  | _ => .no
@[simp] theorem R.quiet_ok {α : Type} (a : α) : (R.ok a).quiet = .ok a := rfl
theorem R.quiet_eq_ok {α : Type} {r : R α} {a : α} (h : r.quiet = .ok a) : r = .ok a := by
  cases r with
  | ok b => exact h
  | err e c => cases h
  | no => cases h

/-- the longest sequence, text -/
abbrev line : Nat := 16777216

/-- a slot: empty, shared data, a list or dict of its own -/
inductive Sl where
  | un | sh (d : D) | ow (d : D)
  deriving Inhabited
abbrev Env := List Sl

/-! ### equality, order -/
mutual
def eqB : D → D → Bool
  | .non, .non => true
  | .bl a, .bl b => a == b
  | .bl a, .int j => decide ((if a then 1 else 0) = j)
  | .int i, .bl b => decide (i = (if b then 1 else 0))
  | .int i, .int j => decide (i = j)
  | .str x, .str y => decide (x = y)
  | .lst xs, .lst ys => eqBs xs ys
  | .tup xs, .tup ys => eqBs xs ys
  | _, _ => false
def eqBs : List D → List D → Bool
  | [], [] => true
  | x :: xs, y :: ys => eqB x y && eqBs xs ys
  | _, _ => false
end
mutual
/-- plain data: no dict, def, cup within -/
def plain : D → Bool
  | .non => true
  | .bl _ => true
  | .int _ => true
  | .str _ => true
  | .tup xs => plains xs
  | .lst xs => plains xs
  | _ => false
def plains : List D → Bool
  | [] => true
  | x :: xs => plain x && plains xs
end
mutual
def dep : D → Nat
  | .tup xs => deps xs + 1
  | .lst xs => deps xs + 1
  | _ => 0
def deps : List D → Nat
  | [] => 0
  | x :: xs => max (dep x) (deps xs)
end
/-- plain data of no great depth -/
def flat (d : D) : Bool := plain d && decide (dep d ≤ 60)
def flats (ds : List D) : Bool := plains ds && decide (deps ds ≤ 58)

/-- texts in order -/
def ltS : List Nat → List Nat → Bool
  | _, [] => false
  | [], _ :: _ => true
  | x :: xs, y :: ys => if x < y then true else if y < x then false else ltS xs ys
mutual
/-- the less one of alike data -/
def ltB : D → D → Bool
  | .bl a, .bl b => !a && b
  | .int i, .int j => decide (i < j)
  | .str x, .str y => ltS x y
  | .lst xs, .lst ys => ltBs xs ys
  | .tup xs, .tup ys => ltBs xs ys
  | _, _ => false
def ltBs : List D → List D → Bool
  | _, [] => false
  | [], _ :: _ => true
  | x :: xs, y :: ys => if eqB x y then ltBs xs ys else ltB x y
end
mutual
/-- data that can be put in order, place by place -/
def alike : D → D → Bool
  | .non, .non => true
  | .bl _, .bl _ => true
  | .int _, .int _ => true
  | .str _, .str _ => true
  | .lst xs, .lst ys => alikes xs ys
  | .tup xs, .tup ys => alikes xs ys
  | _, _ => false
def alikes : List D → List D → Bool
  | x :: xs, y :: ys => alike x y && alikes xs ys
  | _, _ => true
end

/-! ### values: the operations -/
def truth : D → Option Bool
  | .non => some false
  | .bl b => some b
  | .int i => some (decide (i ≠ 0))
  | .str s => if s.length ≤ line then some (!s.isEmpty) else none
  | .tup xs => some (!xs.isEmpty)
  | .lst xs => some (!xs.isEmpty)
  | .dct _ => none
  | .fn _ => none
  | .cup => none
  | .scr _ => none

def small (i : Int) : Bool := decide (-(2 ^ 64) < i) && decide (i < 2 ^ 64)

def pAdd : D → D → Option D
  | .int i, .int j => some (.int (i + j))
  | .str s, .str t => if s.length + t.length ≤ line then some (.str (s ++ t)) else none
  | .lst s, .lst t => if s.length + t.length ≤ line then some (.lst (s ++ t)) else none
  | .tup s, .tup t => if s.length + t.length ≤ line then some (.tup (s ++ t)) else none
  | _, _ => none
/-- list + list alone: the new list may be owned -/
def pCat : D → D → Option D
  | .lst s, .lst t => if s.length + t.length ≤ line then some (.lst (s ++ t)) else none
  | _, _ => none
def pSub : D → D → Option D
  | .int i, .int j => some (.int (i - j))
  | _, _ => none
def pMul : D → D → Option D
  | .int i, .int j => if small i || small j then some (.int (i * j)) else none
  | .lst s, .int k => if small k && decide (k < 2 ^ 32) && decide (-(2 ^ 32) < k) && decide (s.length * k.toNat ≤ line) then some (.lst (List.replicate k.toNat s).flatten) else none
  | _, _ => none
/-- list * int alone: the new list may be owned -/
def pRep : D → D → Option D
  | .lst s, .int k => if small k && decide (k < 2 ^ 32) && decide (-(2 ^ 32) < k) && decide (s.length * k.toNat ≤ line) then some (.lst (List.replicate k.toNat s).flatten) else none
  | _, _ => none
def pDiv : D → D → Option D
  | .int i, .int j => if 0 < j ∧ j < 1073741824 then some (.int (i / j)) else none
  | _, _ => none
def pMod : D → D → Option D
  | .int i, .int j => if 0 < j then some (.int (i % j)) else none
  | _, _ => none
def pPow : D → D → Option D
  | .int i, .int j => if 0 ≤ j ∧ j ≤ 1000000 ∧ i.natAbs < 2 ^ 64 then some (.int (i ^ j.toNat)) else none
  | _, _ => none
def pNeg : D → Option D
  | .int i => some (.int (-i))
  | _ => none
def pNot (d : D) : Option D := (truth d).map fun b => .bl (!b)

def pEq (x y : D) : Option D := if flat x && flat y then some (.bl (eqB x y)) else none
def pNe (x y : D) : Option D := if flat x && flat y then some (.bl (!eqB x y)) else none
def pLt : D → D → Option D
  | .int i, .int j => some (.bl (decide (i < j)))
  | .str x, .str y => some (.bl (ltS x y))
  | _, _ => none
def pLe : D → D → Option D
  | .int i, .int j => some (.bl (decide (i ≤ j)))
  | .str x, .str y => some (.bl (!ltS y x))
  | _, _ => none
def pGt : D → D → Option D
  | .int i, .int j => some (.bl (decide (j < i)))
  | .str x, .str y => some (.bl (ltS y x))
  | _, _ => none
def pGe : D → D → Option D
  | .int i, .int j => some (.bl (decide (j ≤ i)))
  | .str x, .str y => some (.bl (!ltS x y))
  | _, _ => none
def isNon : D → Bool
  | .non => true
  | _ => false
def pIsNone (x : D) : Option D := some (.bl (isNon x))
def pNotNone (x : D) : Option D := some (.bl (!isNon x))
/-- is None, is True: the right side is written -/
def pIs (x y : D) : Option D := match y with
  | .non => pIsNone x
  | .bl b => (match x with
    | .bl a => some (.bl (a == b))
    | _ => none)
  | _ => none
def pIsNot (x y : D) : Option D := match y with
  | .non => pNotNone x
  | .bl b => (match x with
    | .bl a => some (.bl (!(a == b)))
    | _ => none)
  | _ => none
/-- a text within a text -/
def isPre : List Nat → List Nat → Bool
  | [], _ => true
  | _ :: _, [] => false
  | x :: xs, y :: ys => decide (x = y) && isPre xs ys
def hasSub (x : List Nat) : List Nat → Bool
  | [] => isPre x []
  | y :: ys => isPre x (y :: ys) || hasSub x ys
/-- the keys of a dict that are served: intsD and texts -/
def isKey : D → Bool
  | .int _ => true
  | .str _ => true
  | _ => false
def dget (kvs : List (D × D)) (k : D) : Option D := match kvs with
  | [] => none
  | (a, b) :: r => if eqB a k then some b else dget r k
def dput (kvs : List (D × D)) (k v : D) : List (D × D) :=
  if (kvs.any fun p => eqB p.1 k) = true then kvs.map (fun p => if eqB p.1 k = true then (p.1, v) else p) else kvs ++ [(k, v)]
def ddel (kvs : List (D × D)) (k : D) : List (D × D) := match kvs with
  | [] => []
  | (a, b) :: r => if eqB a k then r else (a, b) :: ddel r k
def anyEq (x : D) : List D → Bool
  | [] => false
  | y :: ys => eqB y x || anyEq x ys
def pIn (x c : D) : Option D := match c with
  | .str t => (match x with
    | .str s => some (.bl (hasSub s t))
    | _ => none)
  | .lst ys => if flat x && flats ys then some (.bl (anyEq x ys)) else none
  | .tup ys => if flat x && flats ys then some (.bl (anyEq x ys)) else none
  | .dct kvs => if isKey x then some (.bl (dget kvs x).isSome) else none
  | _ => none
def pNotIn (x c : D) : Option D := match pIn x c with
  | some (.bl b) => some (.bl (!b))
  | _ => none

/-- the place of an index -/
def ixN (n : Nat) (i : Int) : Option Nat := if 0 ≤ i then (if i < n then some i.toNat else none) else if -(n : Int) ≤ i then some (i + n).toNat else none
def pIx (x i : D) : Option D := match x with
  | .dct kvs => if isKey i then dget kvs i else none
  | .lst xs => (match i with
    | .int k => (ixN xs.length k).bind fun j => xs[j]?
    | _ => none)
  | .tup xs => (match i with
    | .int k => (ixN xs.length k).bind fun j => xs[j]?
    | _ => none)
  | .str s => (match i with
    | .int k => if s.length ≤ line then (ixN s.length k).bind fun j => (s[j]?).map fun c => .str [c] else none
    | _ => none)
  | _ => none
/-- a slice's end, cut to 0 .. n -/
def sIx (n : Nat) (i : Int) : Nat := if 0 ≤ i then min i.toNat n else (i + n).toNat
def cut {α : Type} (xs : List α) (lo hi : Option Int) : List α :=
  let l := (lo.map (sIx xs.length)).getD 0
  let h := (hi.map (sIx xs.length)).getD xs.length
  (xs.drop l).take (h - l)
def oInt : Option D → Option (Option Int)
  | none => some none
  | some (.int i) => some (some i)
  | _ => none
def pSl (x : D) (lo hi : Option Int) : Option D := match x with
  | .lst xs => some (.lst (cut xs lo hi))
  | .tup xs => some (.tup (cut xs lo hi))
  | .str s => if s.length ≤ line then some (.str (cut s lo hi)) else none
  | _ => none
def pRev (x : D) : Option D := match x with
  | .lst xs => some (.lst xs.reverse)
  | .str s => if s.length ≤ line then some (.str s.reverse) else none
  | _ => none

/-! ### built-in functions -/
def pLen : D → Option D
  | .str s => if s.length ≤ line then some (.int s.length) else none
  | .tup xs => some (.int xs.length)
  | .lst xs => some (.int xs.length)
  | .dct kvs => some (.int kvs.length)
  | _ => none
/-- the items of what is walked -/
def items : D → Option (List D)
  | .str s => some (s.map fun c => .str [c])
  | .tup xs => some xs
  | .lst xs => some xs
  | .dct kvs => some (kvs.map (·.1))
  | .scr ns => some (ns.map .int)
  | _ => none
def pList (x : D) : Option D := (items x).bind fun xs => if xs.length ≤ line then some (.lst xs) else none
def notDct : D → Bool
  | .dct _ => false
  | _ => true
def pTuple (x : D) : Option D := if notDct x then (items x).bind fun xs => if xs.length ≤ line then some (.tup xs) else none else none
def allT : List D → Option Bool
  | [] => some true
  | x :: xs => (truth x).bind fun b => if b then allT xs else some false
def anyT : List D → Option Bool
  | [] => some false
  | x :: xs => (truth x).bind fun b => if b then some true else anyT xs
def pAll : D → Option D
  | .lst xs => (allT xs).map .bl
  | _ => none
def pAny : D → Option D
  | .lst xs => (anyT xs).map .bl
  | _ => none
def pAbs : D → Option D
  | .int i => some (.int (if i < 0 then -i else i))
  | _ => none
def pInt : D → Option D
  | .int i => some (.int i)
  | .bl b => some (.int (if b then 1 else 0))
  | _ => none
/-- str(x) of a text -/
def pStr : D → Option D
  | .str s => some (.str s)
  | _ => none
inductive Ty where
  | int | bool | str | tuple | list | dict
  deriving DecidableEq
def isTy (t : Ty) : D → Option Bool
  | .non => some false
  | .bl _ => some (decide (t = .bool) || decide (t = .int))
  | .int _ => some (decide (t = .int))
  | .str _ => some (decide (t = .str))
  | .tup _ => some (decide (t = .tuple))
  | .lst _ => some (decide (t = .list))
  | .dct _ => none
  | .fn _ => none
  | .cup => none
  | .scr _ => none
def pIsi (t : Ty) (x : D) : Option D := (isTy t x).map .bl
def joinS (sep : List Nat) : List (List Nat) → List Nat
  | [] => []
  | [x] => x
  | x :: y :: r => x ++ sep ++ joinS sep (y :: r)
def strsD : List D → Option (List (List Nat))
  | [] => some []
  | .str s :: r => (strsD r).map (s :: ·)
  | _ :: _ => none
def pJoin (sep xs : D) : Option D := match sep with
  | .str s => (match items xs with
    | some ys => (match xs with
      | .str _ => none
      | .dct _ => none
      | _ => (strsD ys).bind fun zs => if (zs.map (·.length)).sum + zs.length * s.length ≤ line then some (.str (joinS s zs)) else none)
    | none => none)
  | _ => none
/-- put in order: insertion, equal ones as they stood -/
def ins (x : D) : List D → List D
  | [] => [x]
  | y :: ys => if ltB y x then y :: ins x ys else x :: y :: ys
def isort : List D → List D
  | [] => []
  | x :: xs => ins x (isort xs)
def allAlike : List D → Bool
  | [] => true
  | x :: xs => alike x x && xs.all (fun y => alike x y && alike y x) && allAlike xs
def noTup : D → Bool
  | .tup _ => false
  | .non => false
  | _ => true
def isTup1 : D → Bool
  | .tup (_ :: _) => true
  | _ => false
def pSorted (x : D) : Option D := (items x).bind fun xs => if flats xs && allAlike xs && (xs.all noTup || xs.all isTup1) && decide (xs.length ≤ line) then some (.lst (isort xs)) else none
/-- each item once, as first met -/
def once : List D → List D
  | [] => []
  | x :: xs => x :: (once xs).filter fun y => !eqB x y
/-- what a set may hold: texts alone, or intsD alone -/
def isStr : D → Bool
  | .str _ => true
  | _ => false
def isInt : D → Bool
  | .int _ => true
  | _ => false
def pSortedSet (x : D) : Option D := (items x).bind fun xs => if (xs.all isStr || xs.all isInt) && decide (xs.length ≤ 4000) then some (.lst (isort (once xs))) else none
def pLenSet (x : D) : Option D := (items x).bind fun xs => if (xs.all isStr || xs.all isInt) && decide (xs.length ≤ 4000) then some (.int (once xs).length) else none

/-! ### expressions -/
abbrev EV := Env → Cup → R (D × Cup)
abbrev TV := Env → Cup → R (Bool × Cup)
abbrev IV := Env → Cup → R (List D × Cup)
abbrev FV := List D → Cup → R (D × Cup)
abbrev TG := Env → D → Option Env

def lift {α : Type} (o : Option α) (c : Cup) : R (α × Cup) := match o with
  | some a => .ok (a, c)
  | none => .no
@[simp] theorem lift_some {α : Type} (a : α) (c : Cup) : lift (some a) c = .ok (a, c) := rfl
@[simp] theorem lift_none {α : Type} (c : Cup) : lift (none : Option α) c = .no := rfl

def eK (d : D) : EV := fun _ c => .ok (d, c)
/-- a name that is shared from here on -/
def eV (i : Nat) : EV := fun ρ c => match ρ[i]? with
  | some (.sh d) => .ok (d, c)
  | _ => .no
/-- a name that is only looked at -/
def eB (i : Nat) : EV := fun ρ c => match ρ[i]? with
  | some (.sh d) => .ok (d, c)
  | some (.ow d) => .ok (d, c)
  | _ => .no
def e1 (f : D → Option D) (a : EV) : EV := fun ρ c => (a ρ c).bind fun p => lift (f p.1) p.2
def e2 (f : D → D → Option D) (a b : EV) : EV := fun ρ c => (a ρ c).bind fun p => (b ρ p.2).bind fun q => lift (f p.1 q.1) q.2
def e3 (f : D → D → D → Option D) (a b d : EV) : EV := fun ρ c => (a ρ c).bind fun p => (b ρ p.2).bind fun q => (d ρ q.2).bind fun r => lift (f p.1 q.1 r.1) r.2
def es : List EV → Env → Cup → R (List D × Cup)
  | [], _, c => .ok ([], c)
  | a :: r, ρ, c => (a ρ c).bind fun p => (es r ρ p.2).bind fun q => .ok (p.1 :: q.1, q.2)
def eTup (xs : List EV) : EV := fun ρ c => (es xs ρ c).bind fun p => .ok (.tup p.1, p.2)
def eLst (xs : List EV) : EV := fun ρ c => (es xs ρ c).bind fun p => .ok (.lst p.1, p.2)
def eDct0 : EV := fun _ c => .ok (.dct [], c)
def eAnd (a b : EV) : EV := fun ρ c => (a ρ c).bind fun p => match truth p.1 with
  | some true => b ρ p.2
  | some false => .ok p
  | none => .no
def eOr (a b : EV) : EV := fun ρ c => (a ρ c).bind fun p => match truth p.1 with
  | some true => .ok p
  | some false => b ρ p.2
  | none => .no
def tE (a : EV) : TV := fun ρ c => (a ρ c).bind fun p => lift (truth p.1) p.2
def tAnd (a b : TV) : TV := fun ρ c => (a ρ c).bind fun p => if p.1 then b ρ p.2 else .ok (false, p.2)
def tOr (a b : TV) : TV := fun ρ c => (a ρ c).bind fun p => if p.1 then .ok (true, p.2) else b ρ p.2
def tNot (a : TV) : TV := fun ρ c => (a ρ c).bind fun p => .ok (!p.1, p.2)
def eIf (t : TV) (a b : EV) : EV := fun ρ c => (t ρ c).bind fun p => if p.1 then a ρ p.2 else b ρ p.2
/-- a op b op' d -/
def eChn (f g : D → D → Option D) (a b d : EV) : EV := fun ρ c => (a ρ c).bind fun p => (b ρ p.2).bind fun q => match f p.1 q.1 with
  | some (.bl true) => (d ρ q.2).bind fun r => lift (g q.1 r.1) r.2
  | some (.bl false) => .ok (.bl false, q.2)
  | _ => .no
def eCall (m : FV) (xs : List EV) : EV := fun ρ c => (es xs ρ c).bind fun p => m p.1 p.2
def oE : Option EV → Env → Cup → R (Option Int × Cup)
  | none, _, c => .ok (none, c)
  | some a, ρ, c => (a ρ c).bind fun p => match p.1 with
    | .int i => .ok (some i, p.2)
    | _ => .no
def eSl (a : EV) (lo hi : Option EV) : EV := fun ρ c => (a ρ c).bind fun p => (oE lo ρ p.2).bind fun q => (oE hi ρ q.2).bind fun r => lift (pSl p.1 q.1 r.1) r.2
/-- cup[i] -/
def eCup (i : Nat) (k : Nat) : EV := fun ρ c => match ρ[i]? with
  | some (.sh .cup) => (match c with
    | some (x, y) => if k = 0 then .ok (.int x, c) else .ok (.int y, c)
    | none => .no)
  | _ => .no

/-- a method: chk tells what it is called on -/
def eM0 (chk : D → Bool) (f : D → Option D) (a : EV) : EV := fun ρ c => (a ρ c).bind fun p => if chk p.1 then lift (f p.1) p.2 else .no
def eM (chk : D → Bool) (f : D → D → Option D) (a b : EV) : EV := fun ρ c => (a ρ c).bind fun p => if chk p.1 then (b ρ p.2).bind fun q => lift (f p.1 q.1) q.2 else .no
def eM2 (chk : D → Bool) (f : D → D → D → Option D) (a b d : EV) : EV := fun ρ c => (a ρ c).bind fun p => if chk p.1 then (b ρ p.2).bind fun q => (d ρ q.2).bind fun r => lift (f p.1 q.1 r.1) r.2 else .no
/-! ### what is walked -/
def walk (x : D) : Option (List D) := items x
def iE (a : EV) : IV := fun ρ c => (a ρ c).bind fun p => lift (walk p.1) p.2
def okI (i : Int) : Bool := decide (-(2 ^ 62) ≤ i) && decide (i < 2 ^ 62)
/-- the intsD from lo on, n of them -/
def intsD (lo : Int) : Nat → List D
  | 0 => []
  | n + 1 => .int lo :: intsD (lo + 1) n
def iR1 (a : EV) : IV := fun ρ c => (a ρ c).bind fun p => match p.1 with
  | .int j => if okI j then .ok (intsD 0 j.toNat, p.2) else .no
  | _ => .no
def iR2 (a b : EV) : IV := fun ρ c => (a ρ c).bind fun p => (b ρ p.2).bind fun q => match p.1, q.1 with
  | .int i, .int j => if okI i && okI j then .ok (intsD i (j - i).toNat, q.2) else .no
  | _, _ => .no
def zipD : List D → List D → List D
  | x :: xs, y :: ys => .tup [x, y] :: zipD xs ys
  | _, _ => []
def seqI : D → Option (List D)
  | .dct _ => none
  | .scr _ => none
  | x => items x
def iZip (a b : EV) : IV := fun ρ c => (a ρ c).bind fun p => (b ρ p.2).bind fun q => match seqI p.1, seqI q.1 with
  | some xs, some ys => .ok (zipD xs ys, q.2)
  | _, _ => .no
def enumD (i : Int) : List D → List D
  | [] => []
  | x :: xs => .tup [.int i, x] :: enumD (i + 1) xs
def iEnum (a : EV) : IV := fun ρ c => (a ρ c).bind fun p => match seqI p.1 with
  | some xs => .ok (enumD 0 xs, p.2)
  | none => .no

/-! ### targets -/
def gN (i : Nat) : TG := fun ρ d => some (ρ.set i (.sh d))
def gs : List TG → Env → List D → Option Env
  | [], ρ, [] => some ρ
  | g :: r, ρ, d :: ds => (g ρ d).bind fun ρ' => gs r ρ' ds
  | _, _, _ => none
def gT (ts : List TG) : TG := fun ρ d => match d with
  | .tup ds => gs ts ρ ds
  | _ => none

/-! ### comprehensions -/
def wipes : List Nat → Env → Env
  | [], ρ => ρ
  | i :: r, ρ => (wipes r ρ).set i .un
def lcL (g : TG) (t : TV) (e : EV) (ρ : Env) : List D → Cup → R (List D × Cup)
  | [], c => .ok ([], c)
  | d :: ds, c => match g ρ d with
    | none => .no
    | some ρ' => (t ρ' c).bind fun p => if p.1 then (e ρ' p.2).bind fun q => (lcL g t e ρ ds q.2).bind fun r => .ok (q.1 :: r.1, r.2) else lcL g t e ρ ds p.2
def tT : TV := fun _ c => .ok (true, c)
/-- a list that is not too long -/
def fit : R (List D × Cup) → R (List D × Cup)
  | .ok q => if q.1.length ≤ line then .ok q else .no
  | .err e c => .err e c
  | .no => .no
/-- [e for g in it if t]; vs: the comprehension's own slots -/
def eLc (vs : List Nat) (it : IV) (g : TG) (t : TV) (e : EV) : EV := fun ρ c => (it ρ c).bind fun p => ((fit (lcL g t e (wipes vs ρ) p.1 p.2)).quiet).bind fun q => .ok (.lst q.1, q.2)
/-- [e for g in it if t for g1 in it1 if t1] -/
def lcL2 (g : TG) (t : TV) (vs1 : List Nat) (it1 : IV) (g1 : TG) (t1 : TV) (e : EV) (ρ : Env) : List D → Cup → R (List D × Cup)
  | [], c => .ok ([], c)
  | d :: ds, c => match g ρ d with
    | none => .no
    | some ρ' => (t ρ' c).bind fun p => if p.1 then (it1 ρ' p.2).bind fun q => (lcL g1 t1 e (wipes vs1 ρ') q.1 q.2).bind fun r => (lcL2 g t vs1 it1 g1 t1 e ρ ds r.2).bind fun u => .ok (r.1 ++ u.1, u.2)
      else lcL2 g t vs1 it1 g1 t1 e ρ ds p.2
def eLc2 (vs : List Nat) (it : IV) (g : TG) (t : TV) (vs1 : List Nat) (it1 : IV) (g1 : TG) (t1 : TV) (e : EV) : EV := fun ρ c => (it ρ c).bind fun p =>
  ((fit (lcL2 g t vs1 it1 g1 t1 e (wipes vs ρ) p.1 p.2)).quiet).bind fun q => .ok (.lst q.1, q.2)

theorem fit_ok {r : R (List D × Cup)} {q : List D × Cup} (h : fit r = .ok q) : r = .ok q ∧ q.1.length ≤ line := by
  cases r with
  | ok p =>
    have h' : (if p.1.length ≤ line then R.ok p else R.no) = .ok q := h
    by_cases hl : p.1.length ≤ line
    · rw [if_pos hl] at h'
      cases h'
      exact ⟨rfl, hl⟩
    · rw [if_neg hl] at h'
      cases h'
  | err e c => cases h
  | no => cases h
/-! ### statements -/
inductive Ctl where
  | nx | rt (d : D) | bk | ct
  deriving Inhabited
abbrev SV := Env → Cup → R (Ctl × Env × Cup)
def sSkip : SV := fun ρ c => .ok (.nx, ρ, c)
def sSeq (a b : SV) : SV := fun ρ c => (a ρ c).bind fun p => match p.1 with
  | .nx => b p.2.1 p.2.2
  | _ => .ok p
def ss : List SV → SV
  | [] => sSkip
  | [a] => a
  | a :: b :: r => sSeq a (ss (b :: r))
/-- the slots are forgotten behind it -/
def sKill (ks : List Nat) (a : SV) : SV := fun ρ c => (a ρ c).bind fun p => .ok (p.1, wipes ks p.2.1, p.2.2)
/-- the name's own object is shared from here on -/
def frz (i : Nat) (ρ : Env) : Env := match ρ[i]? with
  | some (.ow d) => ρ.set i (.sh d)
  | _ => ρ
def frzs : List Nat → Env → Env
  | [], ρ => ρ
  | i :: r, ρ => frzs r (frz i ρ)
def sFrz (is : List Nat) (a : SV) : SV := fun ρ c => a (frzs is ρ) c
def sAsg (g : TG) (e : EV) : SV := fun ρ c => (e ρ c).bind fun p => match g ρ p.1 with
  | some ρ' => .ok (.nx, ρ', p.2)
  | none => .no
/-- x = a list or dict that is new -/
def sOwn (i : Nat) (e : EV) : SV := fun ρ c => (e ρ c).bind fun p => .ok (.nx, ρ.set i (.ow p.1), p.2)
/-- a, b = x, y: stored behind all; own: which of the two are new lists or dicts -/
def sPar2 (i : Nat) (oi : Bool) (a : EV) (j : Nat) (oj : Bool) (b : EV) : SV := fun ρ c => (a ρ c).bind fun p => (b ρ p.2).bind fun q =>
  .ok (.nx, (ρ.set i (if oi then .ow p.1 else .sh p.1)).set j (if oj then .ow q.1 else .sh q.1), q.2)
/-- x[k] = v, x a list or dict of its own -/
def setD (x k v : D) : Option D := match x with
  | .lst xs => (match k with
    | .int i => (ixN xs.length i).map fun j => .lst (xs.set j v)
    | _ => none)
  | .dct kvs => if isKey k && decide (kvs.length < line) then some (.dct (dput kvs k v)) else none
  | _ => none
def sSet (i : Nat) (k v : EV) : SV := fun ρ c => match ρ[i]? with
  | some (.ow x) => (v ρ c).bind fun p => (k ρ p.2).bind fun q => (match setD x q.1 p.1 with
    | some y => .ok (.nx, ρ.set i (.ow y), q.2)
    | none => .no)
  | _ => .no
/-- cup[k] = v -/
def cupSet (k : Nat) : D → Cup → Option Cup
  | .int z, some (x, y) => some (if k = 0 then some (z, y) else some (x, z))
  | _, _ => none
def sCup (i : Nat) (k : Nat) (v : EV) : SV := fun ρ c => match ρ[i]? with
  | some (.sh .cup) => (v ρ c).bind fun p => (match cupSet k p.1 p.2 with
    | some c' => .ok (.nx, ρ, c')
    | none => .no)
  | _ => .no
def sApp (i : Nat) (v : EV) : SV := fun ρ c => match ρ[i]? with
  | some (.ow (.lst xs)) => (v ρ c).bind fun p => if xs.length < line then .ok (.nx, ρ.set i (.ow (.lst (xs ++ [p.1]))), p.2) else .no
  | _ => .no
def sExp (e : EV) : SV := fun ρ c => (e ρ c).bind fun p => .ok (.nx, ρ, p.2)
def sRet (e : EV) : SV := fun ρ c => (e ρ c).bind fun p => .ok (.rt p.1, ρ, p.2)
def sRetN : SV := fun ρ c => .ok (.rt .non, ρ, c)
def sIf (t : TV) (a b : SV) : SV := fun ρ c => (t ρ c).bind fun p => if p.1 then a ρ p.2 else b ρ p.2
def sRaise (e : Ex) : SV := fun _ c => .err e c
def sBreak : SV := fun ρ c => .ok (.bk, ρ, c)
def sCont : SV := fun ρ c => .ok (.ct, ρ, c)
def forL (g : TG) (b : SV) : List D → SV
  | [], ρ, c => .ok (.nx, ρ, c)
  | d :: ds, ρ, c => match g ρ d with
    | none => .no
    | some ρ' => (b ρ' c).bind fun p => match p.1 with
      | .nx => forL g b ds p.2.1 p.2.2
      | .ct => forL g b ds p.2.1 p.2.2
      | .bk => .ok (.nx, p.2)
      | .rt d => .ok (.rt d, p.2)
/-- for g in it: b; behind each turn the slots ks are forgotten -/
def sFor (it : IV) (g : TG) (b : SV) : SV := fun ρ c => (it ρ c).bind fun p => forL g b p.1 ρ p.2
def whL (t : TV) (b : SV) : Nat → SV
  | 0, _, _ => .no
  | n + 1, ρ, c => (t ρ c).bind fun q => if q.1 then (b ρ q.2).bind fun p => (match p.1 with
      | .nx => whL t b n p.2.1 p.2.2
      | .ct => whL t b n p.2.1 p.2.2
      | .bk => .ok (.nx, p.2)
      | .rt d => .ok (.rt d, p.2)) else .ok (.nx, ρ, q.2)
def sWhile (n : Nat) (t : TV) (b : SV) : SV := whL t b n

/-! ### defs -/
def start (n : Nat) (ds : List D) : Env := ds.map .sh ++ List.replicate (n - ds.length) .un
def mkF (ps n : Nat) (b : SV) : FV := fun ds c => if ds.length = ps then (b (start n ds) c).bind fun p => (match p.1 with
  | .rt d => .ok (d, p.2.2)
  | .nx => .ok (.non, p.2.2)
  | _ => .no) else .no
/-! ### more built-in functions, the law -/
def toBools : List D → Option (List Bool)
  | [] => some []
  | .bl b :: r => (toBools r).map (b :: ·)
  | _ :: _ => none
def pAllB : D → Option D
  | .lst xs => (toBools xs).map fun bs => .bl (bs.all id)
  | _ => none
def pAnyB : D → Option D
  | .lst xs => (toBools xs).map fun bs => .bl (bs.any id)
  | _ => none
def toInts : List D → Option (List Int)
  | [] => some []
  | .int b :: r => (toInts r).map (b :: ·)
  | _ :: _ => none
def pSum : D → Option D
  | .lst xs => (toInts xs).map fun ns => .int ns.sum
  | _ => none
/-- the greatest, the least one -/
def maxI : List Int → Int
  | [] => 0
  | [x] => x
  | x :: y :: r => max x (maxI (y :: r))
def minI : List Int → Int
  | [] => 0
  | [x] => x
  | x :: y :: r => min x (minI (y :: r))
def pMaxL : D → Option D
  | .lst xs => (toInts xs).bind fun ns => if ns = [] then none else some (.int (maxI ns))
  | _ => none
def pMinL : D → Option D
  | .lst xs => (toInts xs).bind fun ns => if ns = [] then none else some (.int (minI ns))
  | _ => none
/-- all texts, or all ints -/
def uni (xs : List D) : Bool := xs.all isStr || xs.all isInt
def pSetS (x : D) : Option D := (seqI x).bind fun xs => if uni xs && decide (xs.length ≤ 4000) then some (.lst (isort (once xs))) else none
def pSetN (x : D) : Option D := (seqI x).bind fun xs => if uni xs && decide (xs.length ≤ 4000) then some (.int (once xs).length) else none
/-- a def of two rows that gives a new list -/
def mkO (ps n : Nat) (a : SV) (e : EV) : FV := fun ds c => if ds.length = ps then (a (start n ds) c).bind fun p => (match p.1 with
  | .nx => e p.2.1 p.2.2
  | _ => .no) else .no
/-- what a law's mirror must say at the script ns -/
def LawP (cupM : FV) (nN i : Nat) (sv : SV) (ns : List Int) : Prop :=
  ∃ x y, cupM [.scr ns] none = .ok (.lst [.int x, .int y], none) ∧ ∃ ρ c, sv ((Mi.start nN [.scr ns]).set i (.sh .cup)) (some (x, y)) = .ok (.rt (.bl true), ρ, c)
def LawP_ (cupM : FV) (nN i : Nat) (sv : SV) (ns : List Int) : Prop := LawP cupM nN i sv ns
end Mi
end

section
/-! MiX: more combinators, plain Lean. -/
namespace Mi
def isDct : D → Bool
  | .dct _ => true
  | _ => false
/-- a method of two arguments -/
def eM3 (chk : D → Bool) (f : D → D → D → Option D) (a b d : EV) : EV := fun ρ c => (a ρ c).bind fun p => if chk p.1 then (b ρ p.2).bind fun q => (d ρ q.2).bind fun r => lift (f p.1 q.1 r.1) r.2 else .no
/-- d.get(k, x) -/
def pGet (x k z : D) : Option D := match x with
  | .dct kvs => if isKey k then some ((dget kvs k).getD z) else none
  | _ => none
/-- x += e, x a shared int or text -/
def sAug (i : Nat) (f : D → D → Option D) (e : EV) : SV := fun ρ c => match ρ[i]? with
  | some (.sh x) => (e ρ c).bind fun p => (match f x p.1 with
    | some d => .ok (.nx, ρ.set i (.sh d), p.2)
    | none => .no)
  | _ => .no
def pAugA : D → D → Option D
  | .int i, .int j => some (.int (i + j))
  | .str s, .str t => if s.length + t.length ≤ line then some (.str (s ++ t)) else none
  | _, _ => none
def pAugS : D → D → Option D
  | .int i, .int j => some (.int (i - j))
  | _, _ => none
/-- x += e, x a list of its own -/
def sExt (i : Nat) (e : EV) : SV := fun ρ c => match ρ[i]? with
  | some (.ow (.lst xs)) => (e ρ c).bind fun p => (match p.1 with
    | .lst ys => if xs.length + ys.length ≤ line then .ok (.nx, ρ.set i (.ow (.lst (xs ++ ys))), p.2) else .no
    | _ => .no)
  | _ => .no
/-- min, max of a list of alike data: the first of the least, greatest -/
def okMin (xs : List D) : Bool := flats xs && allAlike xs && xs.all fun x => !isNon x
def pMinD : D → Option D
  | .lst (x :: xs) => if okMin (x :: xs) then some (xs.foldl (fun a y => if ltB y a then y else a) x) else none
  | _ => none
def pMaxD : D → Option D
  | .lst (x :: xs) => if okMin (x :: xs) then some (xs.foldl (fun a y => if ltB a y then y else a) x) else none
  | _ => none
/-- range(i, j, -1) -/
def downD (i : Int) : Nat → List D
  | 0 => []
  | n + 1 => .int i :: downD (i - 1) n
def iR3 (a b d : EV) : IV := fun ρ c => (a ρ c).bind fun p => (b ρ p.2).bind fun q => (d ρ q.2).bind fun r => match p.1, q.1, r.1 with
  | .int i, .int j, .int k => if okI i && okI j && decide (k = -1) then .ok (downD i (i - j).toNat, r.2) else .no
  | _, _, _ => .no
/-- {k: v} -/
def eDisp1 (k v : EV) : EV := fun ρ c => (k ρ c).bind fun p => (v ρ p.2).bind fun q => if isKey p.1 then .ok (.dct [(p.1, q.1)], q.2) else .no
/-- {k: e for g in it if t} -/
def dcL (g : TG) (t : TV) (k e : EV) (ρ : Env) : List D → List (D × D) → Cup → R (List (D × D) × Cup)
  | [], acc, c => .ok (acc, c)
  | d :: ds, acc, c => match g ρ d with
    | none => .no
    | some ρ' => (t ρ' c).bind fun p => if p.1 then (k ρ' p.2).bind fun a => (e ρ' a.2).bind fun b => if isKey a.1 && decide (acc.length < line) then dcL g t k e ρ ds (dput acc a.1 b.1) b.2 else .no
      else dcL g t k e ρ ds acc p.2
def eDc (vs : List Nat) (it : IV) (g : TG) (t : TV) (k e : EV) : EV := fun ρ c => (it ρ c).bind fun p => ((dcL g t k e (wipes vs ρ) p.1 [] p.2).quiet).bind fun q => .ok (.dct q.1, q.2)
/-- s.count(letter) -/
def pCount (x y : D) : Option D := match x, y with
  | .str s, .str [z] => some (.int ((s.count z : Nat) : Int))
  | _, _ => none
def isLst : D → Bool
  | .lst _ => true
  | _ => false
/-- xs.count(text), xs a list of texts -/
def pLCount (x y : D) : Option D := match x, y with
  | .lst xs, .str z => (strsD xs).map fun zs => .int ((zs.count z : Nat) : Int)
  | .lst xs, .int k => (toInts xs).map fun ns => .int ((ns.count k : Nat) : Int)
  | _, _ => none
/-- the first such text taken out -/
def remL (z : List Nat) : List (List Nat) → Option (List (List Nat))
  | [] => none
  | x :: r => if x = z then some r else (remL z r).map (x :: ·)
/-- x.remove(text) -/
def sRem (i : Nat) (v : EV) : SV := fun ρ c => match ρ[i]? with
  | some (.ow (.lst xs)) => (v ρ c).bind fun p => (match p.1 with
    | .str z => (match (strsD xs).bind (remL z) with
      | some zs => .ok (.nx, ρ.set i (.ow (.lst (zs.map .str))), p.2)
      | none => .no)
    | _ => .no)
  | _ => .no
/-- d.update(e), e a new dict -/
def dmerge (kvs more : List (D × D)) : List (D × D) := more.foldl (fun a q => dput a q.1 q.2) kvs
def sUpd (i : Nat) (v : EV) : SV := fun ρ c => match ρ[i]? with
  | some (.ow (.dct kvs)) => (v ρ c).bind fun p => (match p.1 with
    | .dct more => if kvs.length + more.length ≤ line then .ok (.nx, ρ.set i (.ow (.dct (dmerge kvs more))), p.2) else .no
    | _ => .no)
  | _ => .no
/-- a text, a tuple times an int, too -/
def pMulA (x y : D) : Option D := match x, y with
  | .str s, .int n => if s.length ≤ 1000 ∧ n ≤ 1000 ∧ -1000 ≤ n then some (.str (List.replicate n.toNat s).flatten) else none
  | .tup xs, .int n => if xs.isEmpty = false ∧ 2 ≤ n ∧ n ≤ 1000 ∧ xs.length ≤ 1000 then some (.tup (List.replicate n.toNat xs).flatten) else none
  | _, _ => pMul x y
/-- max, min of two ints -/
def pMax2 (x y : D) : Option D := match x, y with
  | .int i, .int j => some (.int (if j > i then j else i))
  | _, _ => none
def pMin2 (x y : D) : Option D := match x, y with
  | .int i, .int j => some (.int (if j < i then j else i))
  | _, _ => none
/-- s.index(letter), each letter of s but once -/
def pSIdx (x y : D) : Option D := match x, y with
  | .str s, .str [z] => if z ∈ s ∧ s.Nodup then some (.int ((s.idxOf z : Nat) : Int)) else none
  | _, _ => none
/-- d.values(), d.items() -/
def iDV (e : EV) : IV := fun ρ c => (e ρ c).bind fun p => match p.1 with
  | .dct kvs => .ok (kvs.map (·.2), p.2)
  | _ => .no
def iDI (e : EV) : IV := fun ρ c => (e ρ c).bind fun p => match p.1 with
  | .dct kvs => .ok (kvs.map (fun q => .tup [q.1, q.2]), p.2)
  | _ => .no
/-- a, b, c = x, y, z -/
def sPar3 (i : Nat) (oi : Bool) (a : EV) (j : Nat) (oj : Bool) (b : EV) (k : Nat) (ok : Bool) (e : EV) : SV := fun ρ c => (a ρ c).bind fun p => (b ρ p.2).bind fun q => (e ρ q.2).bind fun r =>
  .ok (.nx, ((ρ.set i (if oi then .ow p.1 else .sh p.1)).set j (if oj then .ow q.1 else .sh q.1)).set k (if ok then .ow r.1 else .sh r.1), r.2)
/-- d.get(k); dict(d) -/
def pGet1 (x k : D) : Option D := pGet x k .non
def pDictD : D → Option D
  | .dct kvs => some (.dct kvs)
  | _ => none
/-- x = l.pop() -/
def sPop (i j : Nat) : SV := fun ρ c => match ρ[i]? with
  | some (.ow (.lst ds)) => (match ds[ds.length - 1]? with
    | some d => .ok (.nx, (ρ.set i (.ow (.lst ds.dropLast))).set j (.sh d), c)
    | none => .no)
  | _ => .no
/-- d != {}, d == {} -/
def pDNe0 : D → Option D
  | .dct kvs => some (.bl (!kvs.isEmpty))
  | _ => none
def pDEq0 : D → Option D
  | .dct kvs => some (.bl kvs.isEmpty)
  | _ => none
/-- text[lo::m] -/
def stepS (z : List Nat) (lo m : Nat) : List Nat := (List.range ((z.length - lo + m - 1) / m)).filterMap fun k => z[lo + m * k]?
def pSl3 (x : D) (lo hi st : Option Int) : Option D := match x, lo, hi, st with
  | .str z, some i, none, some m => if 0 ≤ i ∧ 2 ≤ m ∧ z.length ≤ line then some (.str (stepS z i.toNat m.toNat)) else none
  | _, _, _, _ => none
def eSl3 (a : EV) (lo hi : Option EV) (st : EV) : EV := fun ρ c => (a ρ c).bind fun p => (oE lo ρ p.2).bind fun q => (oE hi ρ q.2).bind fun r => (oE (some st) ρ r.2).bind fun u => lift (pSl3 p.1 q.1 r.1 u.1) u.2
/-- t[::-1], t a tuple -/
def pRevT : D → Option D
  | .tup xs => some (.tup xs.reverse)
  | _ => none
end Mi
end

section
/-! MiXs: still more combinators, plain Lean. -/
namespace Mi
/-- dict(d), dict(a list of pairs) -/
def pairsK : List D → Option (List (D × D))
  | [] => some []
  | .tup [k, v] :: r => if isKey k then (pairsK r).map ((k, v) :: ·) else none
  | _ => none
def pDictX : D → Option D
  | .dct kvs => some (.dct kvs)
  | .lst xs => (pairsK xs).map fun kvs => .dct (dmerge [] kvs)
  | _ => none
/-- xs.index(text), xs a list of texts -/
def pLIdx (x y : D) : Option D := match x, y with
  | .lst xs, .str z => (strsD xs).bind fun zs => if z ∈ zs then some (.int ((zs.idxOf z : Nat) : Int)) else none
  | _, _ => none
/-- list(range(i, j)), tuple(range(i, j)) -/
def rgOk (i j : Int) : Bool := decide (0 ≤ i) && decide (i ≤ 16777216) && decide (0 ≤ j) && decide (j ≤ 16777216)
def pRgL (x y : D) : Option D := match x, y with
  | .int i, .int j => if rgOk i j = true then some (.lst (intsD i (j - i).toNat)) else none
  | _, _ => none
def pRgT (x y : D) : Option D := match x, y with
  | .int i, .int j => if rgOk i j = true then some (.tup (intsD i (j - i).toNat)) else none
  | _, _ => none
/-- s.startswith(t), s.endswith(t) -/
def pStarts (x y : D) : Option D := match x, y with
  | .str s, .str t => some (.bl (decide (t.length ≤ s.length) && decide (s.take t.length = t)))
  | _, _ => none
def pEnds (x y : D) : Option D := match x, y with
  | .str s, .str t => some (.bl (decide (t.length ≤ s.length) && decide (s.drop (s.length - t.length) = t)))
  | _, _ => none
end Mi
end

section
/-! MiB: the interpreter is sound over the hand layer. -/
namespace Mi
open PySem PySem.Spec PyProof.Rows L2

/-! ### what stands for what -/
def mkS (s : List Nat) : Str := ⟨s.toArray⟩
def OkS (s : List Nat) : Prop := ∀ c ∈ s, c < 0x110000
theorem mkS_cps (s : List Nat) : (mkS s).cps.toList = s := by simp [mkS]
theorem mkS_len (s : List Nat) : (mkS s).length = s.length := by simp [mkS, Str.length]
theorem mkS_inj {s t : List Nat} (h : mkS s = mkS t) : s = t := by
  have := congrArg (fun z : Str => z.cps.toList) h
  simpa [mkS] using this
theorem mkS_of (z : Str) : z = mkS z.cps.toList := by simp [mkS]
theorem mkS_app (s t : List Nat) : mkS s ++ mkS t = mkS (s ++ t) := by
  show Str.append (mkS s) (mkS t) = _
  simp [mkS, Str.append]

inductive KeyD : Key → D → Prop
  | int (i : Int) : KeyD (.inl i) (.int i)
  | str (s : List Nat) (h : OkS s) : KeyD (.inr (mkS s)) (.str s)

mutual
inductive Rep (K : PySem.W.Frag) (ft : Nat → Addr) (ac : Addr) (F : Hp) : V → D → Prop
  | non : Rep K ft ac F .non .non
  | bl (b : Bool) : Rep K ft ac F (.bl b) (.bl b)
  | int (i : Int) : Rep K ft ac F (.int i) (.int i)
  | str (s : List Nat) (h : OkS s) : Rep K ft ac F (.str (mkS s)) (.str s)
  | tup {a : Addr} {vs : List V} {ds : List D} (h : SqT K F a vs) (r : Reps K ft ac F vs ds) : Rep K ft ac F (.ref a) (.tup ds)
  | lst {a : Addr} {vs : List V} {ds : List D} (h : F a = some (.lst vs)) (r : Reps K ft ac F vs ds) : Rep K ft ac F (.ref a) (.lst ds)
  | dct {a : Addr} {o : Obj} {ks : List (Key × V)} {ds : List (D × D)} (h : F a = some (.frz o (.dK ks))) (r : RepKs K ft ac F ks ds) : Rep K ft ac F (.ref a) (.dct ds)
  | fn (i : Nat) : Rep K ft ac F (.ref (ft i)) (.fn i)
  | cup : Rep K ft ac F (.ref ac) .cup
  | scr {a : Addr} {ns : List Int} (h : SqL K F a (ns.map V.int)) : Rep K ft ac F (.ref a) (.scr ns)
inductive Reps (K : PySem.W.Frag) (ft : Nat → Addr) (ac : Addr) (F : Hp) : List V → List D → Prop
  | nil : Reps K ft ac F [] []
  | cons {v : V} {vs : List V} {d : D} {ds : List D} (h : Rep K ft ac F v d) (t : Reps K ft ac F vs ds) : Reps K ft ac F (v :: vs) (d :: ds)
inductive RepKs (K : PySem.W.Frag) (ft : Nat → Addr) (ac : Addr) (F : Hp) : List (Key × V) → List (D × D) → Prop
  | nil : RepKs K ft ac F [] []
  | cons {k : Key} {v : V} {r : List (Key × V)} {a b : D} {s : List (D × D)} (hk : KeyD k a) (h : Rep K ft ac F v b) (t : RepKs K ft ac F r s) : RepKs K ft ac F ((k, v) :: r) ((a, b) :: s)
end

def Le (F F' : Hp) : Prop := ∀ a o, F a = some o → F' a = some o
theorem Le.refl (F : Hp) : Le F F := fun _ _ h => h
theorem Le.trans {F F' F'' : Hp} (a : Le F F') (b : Le F' F'') : Le F F'' := fun c o h => b c o (a c o h)
theorem Le.rd {F F' : Hp} (l : Le F F') {a : Addr} {u : HO} (h : Rd F a u) : Rd F' a u := by
  rcases h with h | ⟨o, h⟩
  · exact .inl (l _ _ h)
  · exact .inr ⟨o, l _ _ h⟩
theorem Le.sqL {K : PySem.W.Frag} {F F' : Hp} (l : Le F F') {a : Addr} {xs : List V} (h : SqL K F a xs) : SqL K F' a xs := by
  rcases h with h | h
  · exact .inl (l.rd h)
  · exact .inr h
theorem Le.sqT {K : PySem.W.Frag} {F F' : Hp} (l : Le F F') {a : Addr} {xs : List V} (h : SqT K F a xs) : SqT K F' a xs := by
  rcases h with h | h
  · exact .inl (l.rd h)
  · exact .inr h
theorem Le.new {F : Hp} {a : Addr} {o : HO} (h : F a = none) : Le F (upd F a o) := fun b u e => by
  rw [upd_ne (ne_of_none e h)]
  exact e

section
variable {K : PySem.W.Frag} {ft : Nat → Addr} {ac : Addr} {F F' : Hp}
mutual
theorem Rep.mono (l : Le F F') : ∀ {v : V} (d : D), Rep K ft ac F v d → Rep K ft ac F' v d
  | _, .non, h => by cases h; exact .non
  | _, .bl _, h => by cases h; exact .bl _
  | _, .int _, h => by cases h; exact .int _
  | _, .str _, h => by cases h with | str _ h => exact .str _ h
  | _, .tup ds, h => by cases h with | tup h r => exact .tup (l.sqT h) (Reps.mono l ds r)
  | _, .lst ds, h => by cases h with | lst h r => exact .lst (l _ _ h) (Reps.mono l ds r)
  | _, .dct ds, h => by cases h with | dct h r => exact .dct (l _ _ h) (RepKs.mono l ds r)
  | _, .fn i, h => by cases h; exact .fn i
  | _, .cup, h => by cases h; exact .cup
  | _, .scr _, h => by cases h with | scr h => exact .scr (l.sqL h)
theorem Reps.mono (l : Le F F') : ∀ {vs : List V} (ds : List D), Reps K ft ac F vs ds → Reps K ft ac F' vs ds
  | _, [], h => by cases h; exact .nil
  | _, d :: ds, h => by cases h with | cons h t => exact .cons (Rep.mono l d h) (Reps.mono l ds t)
theorem RepKs.mono (l : Le F F') : ∀ {ks : List (Key × V)} (ds : List (D × D)), RepKs K ft ac F ks ds → RepKs K ft ac F' ks ds
  | _, [], h => by cases h; exact .nil
  | _, (_, b) :: ds, h => by cases h with | cons hk h t => exact .cons hk (Rep.mono l b h) (RepKs.mono l ds t)
end
theorem Reps.length : ∀ {vs : List V} {ds : List D}, Reps K ft ac F vs ds → vs.length = ds.length
  | _, _, .nil => rfl
  | _, _, .cons _ t => by rw [List.length_cons, List.length_cons, Reps.length t]
theorem Reps.append : ∀ {vs us : List V} {ds es : List D}, Reps K ft ac F vs ds → Reps K ft ac F us es → Reps K ft ac F (vs ++ us) (ds ++ es)
  | _, _, _, _, .nil, h => h
  | _, _, _, _, .cons h t, k => .cons h (Reps.append t k)
theorem Reps.get : ∀ {vs : List V} {ds : List D} {i : Nat} {d : D}, Reps K ft ac F vs ds → ds[i]? = some d → ∃ v, vs[i]? = some v ∧ Rep K ft ac F v d
  | _, _, _, _, .nil, e => by simp at e
  | _, _, 0, _, .cons h _, e => by simp at e; subst e; exact ⟨_, rfl, h⟩
  | _, _, i + 1, _, .cons _ t, e => by
    obtain ⟨v, h1, h2⟩ := Reps.get (i := i) t (by simpa using e)
    exact ⟨v, by simpa using h1, h2⟩
theorem Reps.drop : ∀ {vs : List V} {ds : List D} (n : Nat), Reps K ft ac F vs ds → Reps K ft ac F (vs.drop n) (ds.drop n)
  | _, _, 0, h => h
  | _, _, _ + 1, .nil => .nil
  | _, _, n + 1, .cons _ t => Reps.drop n t
theorem Reps.take : ∀ {vs : List V} {ds : List D} (n : Nat), Reps K ft ac F vs ds → Reps K ft ac F (vs.take n) (ds.take n)
  | _, _, 0, _ => .nil
  | _, _, _ + 1, .nil => .nil
  | _, _, n + 1, .cons h t => .cons h (Reps.take n t)
theorem Reps.set {v : V} {d : D} (h : Rep K ft ac F v d) : ∀ {vs : List V} {ds : List D} (n : Nat), Reps K ft ac F vs ds → Reps K ft ac F (vs.set n v) (ds.set n d)
  | _, _, _, .nil => .nil
  | _, _, 0, .cons _ t => .cons h t
  | _, _, n + 1, .cons q t => .cons q (Reps.set h n t)
theorem Reps.rev : ∀ {vs : List V} {ds : List D}, Reps K ft ac F vs ds → Reps K ft ac F vs.reverse ds.reverse
  | _, _, .nil => .nil
  | _, _, .cons h t => by rw [List.reverse_cons, List.reverse_cons]; exact (Reps.rev t).append (.cons h .nil)
theorem RepKs.length : ∀ {ks : List (Key × V)} {ds : List (D × D)}, RepKs K ft ac F ks ds → ks.length = ds.length
  | _, _, .nil => rfl
  | _, _, .cons _ _ t => by rw [List.length_cons, List.length_cons, RepKs.length t]
end

/-! ### the world -/
structure Wd (F : Hp) (ac : Addr) (c : Cup) (H : Hp) : Prop where
  fh : Le F H
  cup : ∀ x y, c = some (x, y) → F ac = none ∧ H ac = some (.lst [.int x, .int y])
structure Gr (ac : Addr) (c c' : Cup) (F H F' H' : Hp) : Prop where
  cc : c = none ↔ c' = none
  f : Le F F'
  new : ∀ a, F a = none → H a ≠ none → F' a = none
  h : ∀ a o, H a = some o → (c ≠ none → a ≠ ac) → H' a = some o
  dom : ∀ a, H a ≠ none → H' a ≠ none
theorem Gr.refl (ac : Addr) (c : Cup) (F H : Hp) : Gr ac c c F H F H := ⟨Iff.rfl, Le.refl F, fun _ h _ => h, fun _ _ h _ => h, fun _ h => h⟩
theorem Gr.trans {ac : Addr} {c c1 c2 : Cup} {F H F1 H1 F2 H2 : Hp} (a : Gr ac c c1 F H F1 H1) (b : Gr ac c1 c2 F1 H1 F2 H2) : Gr ac c c2 F H F2 H2 where
  cc := a.cc.trans b.cc
  f := a.f.trans b.f
  new := fun x h1 h2 => b.new x (a.new x h1 h2) (a.dom x h2)
  h := fun x o e n => b.h x o (a.h x o e n) fun z => n fun q => z (a.cc.mp q)
  dom := fun x h => b.dom x (a.dom x h)
/-- a new object, shared -/
theorem Gr.laid {ac : Addr} {c : Cup} {F H : Hp} {p : Addr} {o : HO} (hf : Le F H) (h : H p = none) : Gr ac c c F H (upd F p o) (upd H p o) where
  cc := Iff.rfl
  f := Le.new (by cases e : F p with | none => rfl | some u => rw [hf _ _ e] at h; cases h)
  new := fun x h1 h2 => by rw [upd_ne (fun q : x = p => h2 (by rw [q]; exact h))]; exact h1
  h := fun x u e _ => by rw [upd_ne (ne_of_none e h)]; exact e
  dom := fun x h1 => by
    by_cases q : x = p
    · rw [q, upd_same]; exact fun z => nomatch z
    · rw [upd_ne q]; exact h1
/-- a new object, not shared -/
theorem Gr.laidO {ac : Addr} {c : Cup} {F H : Hp} {p : Addr} {o : HO} (h : H p = none) : Gr ac c c F H F (upd H p o) where
  cc := Iff.rfl
  f := Le.refl F
  new := fun x h1 _ => h1
  h := fun x u e _ => by rw [upd_ne (ne_of_none e h)]; exact e
  dom := fun x h1 => by
    by_cases q : x = p
    · rw [q, upd_same]; exact fun z => nomatch z
    · rw [upd_ne q]; exact h1
theorem Wd.free {F H : Hp} {ac : Addr} {c : Cup} (w : Wd F ac c H) {p : Addr} (h : H p = none) : F p = none := by
  cases e : F p with
  | none => rfl
  | some u => rw [w.fh _ _ e] at h; cases h
theorem Wd.laid {F H : Hp} {ac : Addr} {c : Cup} (w : Wd F ac c H) {p : Addr} (h : H p = none) (o : HO) : Wd (upd F p o) ac c (upd H p o) where
  fh := fun a u e => by
    by_cases q : a = p
    · rw [q, upd_same] at e ⊢; exact e
    · rw [upd_ne q] at e ⊢; exact w.fh a u e
  cup := fun x y e => by
    obtain ⟨h1, h2⟩ := w.cup x y e
    have q : ac ≠ p := ne_of_none h2 h
    rw [upd_ne q, upd_ne q]
    exact ⟨h1, h2⟩
theorem Wd.laidO {F H : Hp} {ac : Addr} {c : Cup} (w : Wd F ac c H) {p : Addr} (h : H p = none) (o : HO) : Wd F ac c (upd H p o) where
  fh := fun a u e => by
    have q : a ≠ p := ne_of_none (w.fh a u e) h
    rw [upd_ne q]; exact w.fh a u e
  cup := fun x y e => by
    obtain ⟨h1, h2⟩ := w.cup x y e
    have q : ac ≠ p := ne_of_none h2 h
    rw [upd_ne q]
    exact ⟨h1, h2⟩

/-- the program's constants: where its defs stand, the cup, what is wished of an exception -/
structure Sx where
  ft : Nat → Addr
  ac : Addr
  W : Ex → Cup → Hp → Hp → Prop
def Sx.q (S : Sx) : Sx := { S with W := fun _ _ _ _ => False }

/-- what a run's end asks -/
def Pst {α : Type} (S : Sx) (F : Hp) (c : Cup) (H : Hp) (r : R (α × Cup)) (k : α → Cup → Hp → Hp → Prop) : Prop := match r with
  | .ok (a, c') => ∀ F' H', Gr S.ac c c' F H F' H' → Wd F' S.ac c' H' → k a c' F' H'
  | .err e c' => ∀ F' H', Gr S.ac c c' F H F' H' → Wd F' S.ac c' H' → S.W e c' F' H'
  | .no => False
section
variable {S : Sx} {F H : Hp} {c : Cup}
theorem Pst.bind {α β : Type} {r : R (α × Cup)} {f : α × Cup → R (β × Cup)} {k : β → Cup → Hp → Hp → Prop} (h : Pst S F c H (r.bind f) k) : Pst S F c H r fun a c1 F1 H1 => Pst S F1 c1 H1 (f (a, c1)) k := by
  cases r with
  | ok p =>
    obtain ⟨a, c1⟩ := p
    intro F1 H1 g w
    show Pst S F1 c1 H1 (f (a, c1)) k
    have h' : Pst S F c H (f (a, c1)) k := h
    cases e : f (a, c1) with
    | ok q =>
      obtain ⟨b, c2⟩ := q
      rw [e] at h'
      exact fun F2 H2 g2 w2 => h' F2 H2 (g.trans g2) w2
    | err x c2 =>
      rw [e] at h'
      exact fun F2 H2 g2 w2 => h' F2 H2 (g.trans g2) w2
    | no =>
      rw [e] at h'
      exact h'
  | err x c2 => exact h
  | no => exact h
theorem Pst.from {α : Type} {r : R (α × Cup)} {k : α → Cup → Hp → Hp → Prop} {c1 : Cup} {F1 H1 : Hp} (h : Pst S F c H r k) (g : Gr S.ac c c1 F H F1 H1) : Pst S F1 c1 H1 r k := by
  cases r with
  | ok p => exact fun F2 H2 g2 w2 => h F2 H2 (g.trans g2) w2
  | err x c2 => exact fun F2 H2 g2 w2 => h F2 H2 (g.trans g2) w2
  | no => exact h
theorem Pst.imp {α : Type} {r : R (α × Cup)} {k k' : α → Cup → Hp → Hp → Prop} (h : Pst S F c H r k) (f : ∀ a c' F' H', Gr S.ac c c' F H F' H' → Wd F' S.ac c' H' → k a c' F' H' → k' a c' F' H') : Pst S F c H r k' := by
  cases r with
  | ok p =>
    obtain ⟨a, c1⟩ := p
    exact fun F1 H1 g w => f a c1 F1 H1 g w (h F1 H1 g w)
  | err x c2 => exact h
  | no => exact h
theorem Pst.lift {α : Type} {o : Option α} {k : α → Cup → Hp → Hp → Prop} (h : Pst S F c H (lift o c) k) : ∃ a, o = some a ∧ ∀ F' H', Gr S.ac c c F H F' H' → Wd F' S.ac c H' → k a c F' H' := by
  cases o with
  | none => exact h.elim
  | some a => exact ⟨a, rfl, h⟩
theorem Pst.quiet {α : Type} {r : R (α × Cup)} {k : α → Cup → Hp → Hp → Prop} (h : Pst S F c H r.quiet k) : ∃ a c', r = .ok (a, c') ∧ ∀ F' H', Gr S.ac c c' F H F' H' → Wd F' S.ac c' H' → k a c' F' H' := by
  cases r with
  | ok p => exact ⟨p.1, p.2, rfl, h⟩
  | err e c' => exact h.elim
  | no => exact h.elim
end

/-- a value that is looked at: its own object stands in the heap -/
inductive RepT (K : PySem.W.Frag) (S : Sx) (F : Hp) (c : Cup) (H : Hp) : V → D → Prop
  | rep {v : V} {d : D} (h : Rep K S.ft S.ac F v d) : RepT K S F c H v d
  | lst {a : Addr} {vs : List V} {ds : List D} (h : H a = some (.lst vs)) (n : c ≠ none → a ≠ S.ac) (r : Reps K S.ft S.ac F vs ds) : RepT K S F c H (.ref a) (.lst ds)
  | dct {a : Addr} {ks : List (Key × V)} {ds : List (D × D)} (h : H a = some (.dK ks)) (n : c ≠ none → a ≠ S.ac) (r : RepKs K S.ft S.ac F ks ds) : RepT K S F c H (.ref a) (.dct ds)
theorem RepT.grow {K : PySem.W.Frag} {S : Sx} {F H F' H' : Hp} {c c' : Cup} {v : V} {d : D} (r : RepT K S F c H v d) (g : Gr S.ac c c' F H F' H') : RepT K S F' c' H' v d := by
  cases r with
  | rep h => exact .rep (h.mono g.f)
  | lst h n r => exact .lst (g.h _ _ h n) (fun z => n fun q => z (g.cc.mp q)) (r.mono g.f)
  | dct h n r => exact .dct (g.h _ _ h n) (fun z => n fun q => z (g.cc.mp q)) (r.mono g.f)

/-- a name's own object -/
inductive Own (K : PySem.W.Frag) (S : Sx) (F H : Hp) (a : Addr) : D → Prop
  | lst {vs : List V} {ds : List D} (h : H a = some (.lst vs)) (r : Reps K S.ft S.ac F vs ds) : Own K S F H a (.lst ds)
  | dct {ks : List (Key × V)} {ds : List (D × D)} (h : H a = some (.dK ks)) (r : RepKs K S.ft S.ac F ks ds) : Own K S F H a (.dct ds)
structure EnvR (K : PySem.W.Frag) (S : Sx) (F : Hp) (c : Cup) (H : Hp) (σ : L2.St) (ρ : Env) : Prop where
  len : σ.length = ρ.length
  sh : ∀ (i : Nat) (d : D), ρ[i]? = some (.sh d) → ∃ v, σ[i]? = some (some v) ∧ Rep K S.ft S.ac F v d
  ow : ∀ (i : Nat) (d : D), ρ[i]? = some (.ow d) → ∃ a, σ[i]? = some (some (.ref a)) ∧ Own K S F H a d ∧ F a = none ∧ (c ≠ none → a ≠ S.ac)
  dist : ∀ (i j : Nat) (d e : D) (a : Addr), i ≠ j → ρ[i]? = some (.ow d) → ρ[j]? = some (.ow e) → σ[i]? = some (some (.ref a)) → σ[j]? ≠ some (some (.ref a))
theorem Own.there {K : PySem.W.Frag} {S : Sx} {F H : Hp} {a : Addr} {d : D} (o : Own K S F H a d) : H a ≠ none := by
  cases o with
  | lst h _ => rw [h]; exact fun z => nomatch z
  | dct h _ => rw [h]; exact fun z => nomatch z
theorem Own.grow {K : PySem.W.Frag} {S : Sx} {F H F' H' : Hp} {c c' : Cup} {a : Addr} {d : D} (o : Own K S F H a d) (n : c ≠ none → a ≠ S.ac) (g : Gr S.ac c c' F H F' H') : Own K S F' H' a d := by
  cases o with
  | lst h r => exact .lst (g.h _ _ h n) (r.mono g.f)
  | dct h r => exact .dct (g.h _ _ h n) (r.mono g.f)
theorem EnvR.grow {K : PySem.W.Frag} {S : Sx} {F H F' H' : Hp} {c c' : Cup} {σ : L2.St} {ρ : Env} (e : EnvR K S F c H σ ρ) (g : Gr S.ac c c' F H F' H') : EnvR K S F' c' H' σ ρ where
  len := e.len
  sh := fun i d h => let ⟨v, h1, h2⟩ := e.sh i d h; ⟨v, h1, h2.mono g.f⟩
  ow := fun i d h => by
    obtain ⟨a, h1, h2, h3, h4⟩ := e.ow i d h
    exact ⟨a, h1, h2.grow h4 g, g.new a h3 h2.there, fun z => h4 fun q => z (g.cc.mp q)⟩
  dist := e.dist

/-! ### the judgements, canonical -/
def tw (X : Cx) (e : Expr) : TE := fun σ H Q => ∀ (pins : List (Addr × Obj)) (s : Shared), Inv X pins σ H s → wpAny (model X.prog X.w) X.A (eval e X.env) (EP X pins σ Q) X.xe s
theorem pe_tw {X : Cx} {e : Expr} : PE X e (tw X e) := ⟨fun pins s _ _ _ I h => h pins s I⟩
theorem tw_of {X : Cx} {e : Expr} {t : TE} (h : PE X e t) {σ : L2.St} {H : Hp} {Q : VK} (q : t σ H Q) : tw X e σ H Q := fun pins s I => h.run pins s σ H Q I q
theorem tw_imp {X : Cx} {e : Expr} {σ : L2.St} {H : Hp} {Q Q' : VK} (h : tw X e σ H Q) (f : ∀ v H', Q v H' → Q' v H') : tw X e σ H Q' := fun pins s I =>
  thn (h pins s I) fun u s' ⟨v, H', I', r, q⟩ => ⟨v, H', I', r, f v H' q⟩
def twT (X : Cx) (e : Expr) : TT := fun σ H Q => ∀ (pins : List (Addr × Obj)) (s : Shared), Inv X pins σ H s → wpAny (model X.prog X.w) X.A (isTrue e X.env (eval e X.env)) (TP X pins σ Q) X.xe s
theorem pt_tw {X : Cx} {e : Expr} : PT X e (twT X e) := ⟨fun pins s _ _ _ I h => h pins s I⟩
theorem twT_of {X : Cx} {e : Expr} {t : TT} (h : PT X e t) {σ : L2.St} {H : Hp} {Q : Bool → Hp → Prop} (q : t σ H Q) : twT X e σ H Q := fun pins s I => h.run pins s σ H Q I q
def twW (X : Cx) (e : Expr) : TT := fun σ H Q => ∀ (wh : Sem Value) (pins : List (Addr × Obj)) (s : Shared), Inv X pins σ H s → wpAny (model X.prog X.w) X.A (isTrue e X.env wh) (TP X pins σ Q) X.xe s
theorem pw_tw {X : Cx} {e : Expr} : PW X e (twW X e) := ⟨fun wh pins s _ _ _ I h => h wh pins s I⟩
theorem twW_of {X : Cx} {e : Expr} {t : TT} (h : PW X e t) {σ : L2.St} {H : Hp} {Q : Bool → Hp → Prop} (q : t σ H Q) : twW X e σ H Q := fun wh pins s I => h.run wh pins s σ H Q I q
def twA (X : Cx) (es : List Expr) : TA := fun σ H Q => ∀ (pos : Pos) (pins : List (Addr × Obj)) (s : Shared), Inv X pins σ H s → wpAny (model X.prog X.w) X.A (spliced (backTo pos (starEach es X.env))) (AP X pins σ Q) X.xe s
theorem pa_tw {X : Cx} {es : List Expr} : PA X es (twA X es) := ⟨fun pos pins s _ _ _ I h => h pos pins s I⟩
theorem twA_of {X : Cx} {es : List Expr} {t : TA} (h : PA X es t) {σ : L2.St} {H : Hp} {Q : List V → Hp → Prop} (q : t σ H Q) : twA X es σ H Q := fun pos pins s I => h.run pos pins s σ H Q I q
def twS (X : Cx) (st : Stmt) : TS := fun D σ H => ∀ (pins : List (Addr × Obj)) (s : Shared), Inv X pins σ H s → wpAny (model X.prog X.w) X.A (exec st X.env) (SP X pins D) X.xe s
theorem ps_tw {X : Cx} {st : Stmt} : PS X st (twS X st) := ⟨fun pins s _ _ _ I h => h pins s I⟩
theorem twS_of {X : Cx} {st : Stmt} {t : TS} (h : PS X st t) {D : Ends} {σ : L2.St} {H : Hp} (q : t D σ H) : twS X st D σ H := fun pins s I => h.run pins s σ H D I q
def twSs (X : Cx) (sts : List Stmt) : TS := fun D σ H => ∀ (pins : List (Addr × Obj)) (s : Shared), Inv X pins σ H s → wpAny (model X.prog X.w) X.A (execs sts X.env) (SP X pins D) X.xe s
theorem pss_tw {X : Cx} {sts : List Stmt} : PSs X sts (twSs X sts) := ⟨fun pins s _ _ _ I h => h pins s I⟩
theorem twSs_of {X : Cx} {sts : List Stmt} {t : TS} (h : PSs X sts t) {D : Ends} {σ : L2.St} {H : Hp} (q : t D σ H) : twSs X sts D σ H := fun pins s I => h.run pins s σ H D I q
def wOp (X : Cx) (f : Value → Value → Sem Value) : R2 := fun x y H Q => ∀ (pins : List (Addr × Obj)) (s : Shared) (σ : L2.St) (v u : Value), Inv X pins σ H s → RelV x v → RelV y u → wpAny (model X.prog X.w) X.A (f v u) (EP X pins σ Q) X.xe s
theorem op_w {X : Cx} {f : Value → Value → Sem Value} : OpR X f (wOp X f) := fun pins s σ H x y v u Q I rx ry h => h pins s σ v u I rx ry
theorem wOp_of {X : Cx} {f : Value → Value → Sem Value} {r : R2} (h : OpR X f r) {x y : V} {H : Hp} {Q : VK} (q : r x y H Q) : wOp X f x y H Q := fun pins s σ v u I rx ry => h pins s σ H x y v u Q I rx ry q
def wUn (X : Cx) (f : Value → Sem Value) : V → Hp → VK → Prop := fun x H Q => ∀ (pins : List (Addr × Obj)) (s : Shared) (σ : L2.St) (v : Value), Inv X pins σ H s → RelV x v → wpAny (model X.prog X.w) X.A (f v) (EP X pins σ Q) X.xe s
theorem un_w {X : Cx} {f : Value → Sem Value} : UnR X f (wUn X f) := fun pins s σ H x v Q I rx h => h pins s σ v I rx
theorem wUn_of {X : Cx} {f : Value → Sem Value} {r : V → Hp → VK → Prop} (h : UnR X f r) {x : V} {H : Hp} {Q : VK} (q : r x H Q) : wUn X f x H Q := fun pins s σ v I rx => h pins s σ H x v Q I rx q
def wCl (X : Cx) (f : Value) : List V → Hp → VK → Prop := fun xs H Q => ∀ (pins : List (Addr × Obj)) (s : Shared) (σ : L2.St) (us : List Value), Inv X pins σ H s → Vals xs us → wpAny (model X.prog X.w) X.A (call f us) (EP X pins σ Q) X.xe s
theorem call_w {X : Cx} {f : Value} : CallR X f (wCl X f) := fun pins s σ H xs us Q I r h => h pins s σ us I r
theorem wCl_of {X : Cx} {f : Value} {r : List V → Hp → VK → Prop} (h : CallR X f r) {xs : List V} {H : Hp} {Q : VK} (q : r xs H Q) : wCl X f xs H Q := fun pins s σ us I rx => h pins s σ H xs us Q I rx q

/-- .. or what is so behind a lock -/
def LkQ (Q : VK) : VK := fun v H => Q v H ∨ ∃ d u, H d = some u ∧ Mut (some u) ∧ ∀ od, Q v (upd H d (.frz od u))
theorem ep_lk {X : Cx} {pins : List (Addr × Obj)} {σ : L2.St} {Q : VK} {u : Value} {s : Shared} (h : EP X pins σ (LkQ Q) u s) : EP X pins σ Q u s := by
  obtain ⟨v, H, I, r, q⟩ := h
  rcases q with q | ⟨d, o, hd, mu, q⟩
  · exact ⟨v, H, I, r, q⟩
  · obtain ⟨od, I1⟩ := I.lock hd mu
    exact ⟨v, _, I1, r, q od⟩
theorem tw_lk {X : Cx} {e : Expr} {σ : L2.St} {H : Hp} {Q : VK} (h : tw X e σ H (LkQ Q)) : tw X e σ H Q := fun pins s I => thn (h pins s I) fun _ _ q => ep_lk q
theorem wOp_lk {X : Cx} {f : Value → Value → Sem Value} {x y : V} {H : Hp} {Q : VK} (h : wOp X f x y H (LkQ Q)) : wOp X f x y H Q := fun pins s σ v u I rx ry => thn (h pins s σ v u I rx ry) fun _ _ q => ep_lk q
theorem wCl_lk {X : Cx} {f : Value} {xs : List V} {H : Hp} {Q : VK} (h : wCl X f xs H (LkQ Q)) : wCl X f xs H Q := fun pins s σ us I rx => thn (h pins s σ us I rx) fun _ _ q => ep_lk q
theorem twS_lk {X : Cx} {st : Stmt} {E : Ends} {σ : L2.St} {H : Hp} {d : Addr} {u : HO} (hd : H d = some u) (mu : Mut (some u)) (h : ∀ od, twS X st E σ (upd H d (.frz od u))) : twS X st E σ H := fun pins s I => by
  obtain ⟨od, I1⟩ := I.lock hd mu
  exact h od pins s I1

/-- e says what the expression pe gives: a value that is shared from here on -/
structure SE (X : Cx) (S : Sx) (pe : Expr) (e : EV) : Prop where
  run : ∀ (ρ : Env) (c : Cup) (F H : Hp) (σ : L2.St) (Q : VK), Wd F S.ac c H → EnvR X.K S F c H σ ρ → Pst S F c H (e ρ c) (fun d _ F' H' => ∀ v, Rep X.K S.ft S.ac F' v d → Q v H') → tw X pe σ H Q
/-- .. a value that is looked at -/
structure SB (X : Cx) (S : Sx) (pe : Expr) (e : EV) : Prop where
  run : ∀ (ρ : Env) (c : Cup) (F H : Hp) (σ : L2.St) (Q : VK), Wd F S.ac c H → EnvR X.K S F c H σ ρ → Pst S F c H (e ρ c) (fun d c' F' H' => ∀ v, RepT X.K S F' c' H' v d → Q v H') → tw X pe σ H Q
/-- .. a new list or dict -/
structure SO (X : Cx) (S : Sx) (pe : Expr) (e : EV) : Prop where
  run : ∀ (ρ : Env) (c : Cup) (F H : Hp) (σ : L2.St) (Q : VK), Wd F S.ac c H → EnvR X.K S F c H σ ρ → Pst S F c H (e ρ c) (fun d c' F' H' => ∀ a, Own X.K S F' H' a d → F' a = none → H a = none → (c' ≠ none → a ≠ S.ac) → Q (.ref a) H') → tw X pe σ H Q
theorem SE.b {X : Cx} {S : Sx} {pe : Expr} {e : EV} (h : SE X S pe e) : SB X S pe e := ⟨fun ρ c F H σ Q w r p => h.run ρ c F H σ Q w r (p.imp fun d c' F' H' _ _ q v hv => q v (.rep hv))⟩
structure ST (X : Cx) (S : Sx) (pe : Expr) (t : TV) : Prop where
  run : ∀ (ρ : Env) (c : Cup) (F H : Hp) (σ : L2.St) (Q : Bool → Hp → Prop), Wd F S.ac c H → EnvR X.K S F c H σ ρ → Pst S F c H (t ρ c) (fun b _ _ H' => Q b H') → twT X pe σ H Q
/-- .. whatever its 'whole' is -/
structure SW (X : Cx) (S : Sx) (pe : Expr) (t : TV) : Prop where
  run : ∀ (ρ : Env) (c : Cup) (F H : Hp) (σ : L2.St) (Q : Bool → Hp → Prop), Wd F S.ac c H → EnvR X.K S F c H σ ρ → Pst S F c H (t ρ c) (fun b _ _ H' => Q b H') → twW X pe σ H Q
structure SA (X : Cx) (S : Sx) (pes : List Expr) (xs : List EV) : Prop where
  run : ∀ (ρ : Env) (c : Cup) (F H : Hp) (σ : L2.St) (Q : List V → Hp → Prop), Wd F S.ac c H → EnvR X.K S F c H σ ρ → Pst S F c H (es xs ρ c) (fun ds _ F' H' => ∀ vs, Reps X.K S.ft S.ac F' vs ds → Q vs H') → twA X pes σ H Q
/-- one argument that is looked at -/
structure SA1 (X : Cx) (S : Sx) (pe : Expr) (e : EV) : Prop where
  run : ∀ (ρ : Env) (c : Cup) (F H : Hp) (σ : L2.St) (Q : List V → Hp → Prop), Wd F S.ac c H → EnvR X.K S F c H σ ρ → Pst S F c H (e ρ c) (fun d c' F' H' => ∀ v, RepT X.K S F' c' H' v d → Q [v] H') → twA X [pe] σ H Q

section
variable {X : Cx} {S : Sx} {pos : Pos}

/-! ### names, constants -/
theorem se_V {i : Nat} {x : Str} (h : PE X (.Name x pos) (tVar i)) : SE X S (.Name x pos) (eV i) := ⟨fun ρ c F H σ Q w r p => by
  unfold eV at p
  cases e : ρ[i]? with
  | none => rw [e] at p; exact p.elim
  | some sl =>
    cases sl with
    | un => rw [e] at p; exact p.elim
    | ow d => rw [e] at p; exact p.elim
    | sh d =>
      rw [e] at p
      obtain ⟨v, h1, h2⟩ := r.sh i d e
      exact tw_of h ⟨v, h1, p F H (Gr.refl _ _ _ _) w v h2⟩⟩
theorem sb_V {i : Nat} {x : Str} (h : PE X (.Name x pos) (tVar i)) : SB X S (.Name x pos) (eB i) := ⟨fun ρ c F H σ Q w r p => by
  unfold eB at p
  cases e : ρ[i]? with
  | none => rw [e] at p; exact p.elim
  | some sl =>
    cases sl with
    | un => rw [e] at p; exact p.elim
    | ow d =>
      rw [e] at p
      obtain ⟨a, h1, h2, h3, h4⟩ := r.ow i d e
      refine tw_of h ⟨.ref a, h1, p F H (Gr.refl _ _ _ _) w (.ref a) ?_⟩
      cases h2 with
      | lst h r => exact .lst h h4 r
      | dct h r => exact .dct h h4 r
    | sh d =>
      rw [e] at p
      obtain ⟨v, h1, h2⟩ := r.sh i d e
      exact tw_of h ⟨v, h1, p F H (Gr.refl _ _ _ _) w v (.rep h2)⟩⟩
theorem se_of {pe : Expr} {v : V} {d : D} (h : PE X pe (tC v)) (hr : ∀ F, Rep X.K S.ft S.ac F v d) : SE X S pe (eK d) := ⟨fun ρ c F H σ Q w r p =>
  tw_of h (show Q v H from p F H (Gr.refl _ _ _ _) w v (hr F))⟩
theorem se_int {i : Int} {j : Nat} : SE X S (.Constant (.int i) j pos) (eK (.int i)) := se_of pe_int fun _ => .int i
theorem se_bl {b : Bool} {j : Nat} : SE X S (.Constant (.bool b) j pos) (eK (.bl b)) := se_of pe_bl fun _ => .bl b
theorem se_non {j : Nat} : SE X S (.Constant .none j pos) (eK .non) := se_of pe_non fun _ => .non
theorem se_str {x : Str} {s : List Nat} {j : Nat} (e : x = mkS s) (h : s.all (fun c => decide (c < 0x110000)) = true) : SE X S (.Constant (.str x) j pos) (eK (.str s)) := by
  subst e
  exact se_of pe_str fun _ => .str s fun c hc => of_decide_eq_true (List.all_eq_true.mp h c hc)
/-- a module's constant -/
theorem se_glob {x : Str} {v : V} {u : Value} {d : D} (hg : Gl X x) (hm : X.mg x = some u) (r : RelV v u) (hr : ∀ F, Rep X.K S.ft S.ac F v d) (hd : (x == ("__debug__" : Str)) = false := by decide) : SE X S (.Name x pos) (eK d) := se_of (pe_glob hg hm r hd) hr
end
end Mi
end

section
/-! MiC: expressions. -/
namespace Mi
open PySem PySem.Spec PyProof.Rows L2
section
variable {X : Cx} {S : Sx} {pos : Pos}

/-! ### arguments, displays -/
theorem sa_nil : SA X S [] [] := ⟨fun ρ c F H σ Q w r p => twA_of pa_nil (show Q [] H from p F H (Gr.refl _ _ _ _) w [] .nil)⟩
theorem sa_cons {e : Expr} {pes : List Expr} {a : EV} {xs : List EV} (ha : SE X S e a) (hr : SA X S pes xs) (hs : starEach (e :: pes) X.env = (false, eval e X.env) :: starEach pes X.env := by rfl) : SA X S (e :: pes) (a :: xs) := ⟨fun ρ c F H σ Q w r p => by
  refine twA_of (pa_cons pe_tw pa_tw hs) ?_
  refine ha.run ρ c F H σ _ w r (p.bind.imp fun d c1 F1 H1 g1 w1 p1 v rv => ?_)
  refine hr.run ρ c1 F1 H1 σ _ w1 (r.grow g1) (p1.bind.imp fun ds c2 F2 H2 g2 w2 p2 vs rvs => ?_)
  exact p2 F2 H2 (Gr.refl _ _ _ _) w2 (v :: vs) (.cons (rv.mono g2.f) rvs)⟩
theorem sa1 {e : Expr} {a : EV} (ha : SB X S e a) (hs : starEach [e] X.env = (false, eval e X.env) :: starEach [] X.env := by rfl) : SA1 X S e a := ⟨fun ρ c F H σ Q w r p => by
  refine twA_of (pa_cons pe_tw pa_nil hs) ?_
  exact ha.run ρ c F H σ _ w r (p.imp fun d c1 F1 H1 g1 w1 p1 v rv => p1 v rv)⟩
theorem line_eq : (sizeLine : Nat) = line := sizeLine_eq
theorem es_length : ∀ (xs : List EV) (ρ : Env) (c : Cup) (p : List D × Cup), es xs ρ c = .ok p → p.1.length = xs.length
  | [], ρ, c, p, h => by
    have h' : R.ok (([] : List D), c) = .ok p := h
    cases h'
    rfl
  | a :: r, ρ, c, p, h => by
    unfold es at h
    cases e : a ρ c with
    | ok q =>
      rw [e] at h
      cases e2 : es r ρ q.2 with
      | ok u =>
        have h' : (es r ρ q.2).bind (fun u => R.ok (q.1 :: u.1, u.2)) = .ok p := h
        rw [e2] at h'
        have h2 : R.ok (q.1 :: u.1, u.2) = .ok p := h'
        cases h2
        have := es_length r ρ q.2 u e2
        simp [this]
      | err x y =>
        have h' : (es r ρ q.2).bind (fun u => R.ok (q.1 :: u.1, u.2)) = .ok p := h
        rw [e2] at h'
        cases h'
      | no =>
        have h' : (es r ρ q.2).bind (fun u => R.ok (q.1 :: u.1, u.2)) = .ok p := h
        rw [e2] at h'
        cases h'
    | err x y => rw [e] at h; cases h
    | no => rw [e] at h; cases h
theorem Pst.eq {α : Type} {S : Sx} {F H : Hp} {c : Cup} {r : R (α × Cup)} {k : α → Cup → Hp → Hp → Prop} (h : Pst S F c H r k) : Pst S F c H r fun a c' F' H' => k a c' F' H' ∧ r = .ok (a, c') := by
  cases r with
  | ok p =>
    obtain ⟨a, c1⟩ := p
    exact fun F1 H1 g w => ⟨h F1 H1 g w, rfl⟩
  | err x c2 => exact h
  | no => exact h
theorem se_tup {pes : List Expr} {xs : List EV} {k : Nat} (ha : SA X S pes xs) (hn : xs.length ≤ 1000) : SE X S (.Tuple pes k pos) (eTup xs) := ⟨fun ρ c F H σ Q w r p => by
  refine tw_of (pe_tup pa_tw) ?_
  refine ha.run ρ c F H σ _ w r (p.bind.eq.imp fun ds c1 F1 H1 g1 w1 p1 vs rvs => ⟨?_, fun q hq => ?_⟩)
  · obtain ⟨_, p1⟩ := p1
    have h1 := es_length xs ρ c (ds, c1) p1
    have h2 := rvs.length
    have h3 := sizeLine_eq
    simp only at h1
    omega
  · exact p1.1 _ _ (Gr.laid w1.fh hq) (w1.laid hq _) (.ref q) (.tup (SqT.of upd_same) (rvs.mono (Le.new (w1.free hq))))⟩
theorem so_lst {pes : List Expr} {xs : List EV} (ha : SA X S pes xs) (hn : xs.length ≤ 1000) : SO X S (.List pes pos) (eLst xs) := ⟨fun ρ c F H σ Q w r p => by
  refine tw_of (pe_lst pa_tw) ?_
  refine ha.run ρ c F H σ _ w r (p.bind.eq.imp fun ds c1 F1 H1 g1 w1 p1 vs rvs => ⟨?_, fun q hq => ?_⟩)
  · obtain ⟨_, p1⟩ := p1
    have h1 := es_length xs ρ c (ds, c1) p1
    have h2 := rvs.length
    have h3 := sizeLine_eq
    simp only at h1
    omega
  · have hH : H q = none := by
      cases e : H q with
      | none => rfl
      | some o => exact absurd hq (g1.dom q (by rw [e]; exact fun z => nomatch z))
    refine p1.1 _ _ (Gr.laidO hq) (w1.laidO hq _) q (.lst upd_same rvs) (w1.free hq) hH fun z e => ?_
    cases hc : c1 with
    | none => exact z hc
    | some xy =>
      obtain ⟨h1, h2⟩ := w1.cup xy.1 xy.2 (by rw [hc])
      rw [e, h2] at hq
      cases hq⟩
/-- an object of its own is shared from here on -/
theorem Gr.share {ac : Addr} {c c' : Cup} {F H F' H' : Hp} {a : Addr} {o : HO} (g : Gr ac c c' F H F' H') (hf : F' a = none) (hh : H a = none) : Gr ac c c' F H (upd F' a o) H' where
  cc := g.cc
  f := g.f.trans (Le.new hf)
  new := fun x h1 h2 => by rw [upd_ne (fun q : x = a => h2 (by rw [q]; exact hh))]; exact g.new x h1 h2
  h := g.h
  dom := g.dom
theorem Wd.share {F H : Hp} {ac : Addr} {c : Cup} {a : Addr} {o : HO} (w : Wd F ac c H) (ho : H a = some o) (n : c ≠ none → a ≠ ac) : Wd (upd F a o) ac c H where
  fh := fun x u e => by
    by_cases q : x = a
    · rw [q, upd_same] at e; rw [q, ho]; exact e
    · rw [upd_ne q] at e; exact w.fh x u e
  cup := fun x y e => by
    obtain ⟨h1, h2⟩ := w.cup x y e
    have q : ac ≠ a := fun z => n (by rw [e]; exact fun z => nomatch z) z.symm
    rw [upd_ne q]
    exact ⟨h1, h2⟩
theorem Wd.set {F H : Hp} {ac a : Addr} {c : Cup} (w : Wd F ac c H) (hf : F a = none) (n : c ≠ none → a ≠ ac) (o : HO) : Wd F ac c (upd H a o) where
  fh := fun x u e => by
    have q : x ≠ a := fun z => by rw [z, hf] at e; cases e
    rw [upd_ne q]
    exact w.fh x u e
  cup := fun x y e => by
    obtain ⟨h1, h2⟩ := w.cup x y e
    have q : ac ≠ a := fun z => n (by rw [e]; exact fun z => nomatch z) z.symm
    rw [upd_ne q]
    exact ⟨h1, h2⟩
theorem Gr.set {ac a : Addr} {c c' : Cup} {F H F' H' : Hp} (g : Gr ac c c' F H F' H') (hh : H a = none) (o : HO) : Gr ac c c' F H F' (upd H' a o) where
  cc := g.cc
  f := g.f
  new := g.new
  h := fun x u e n => by
    have q : x ≠ a := fun z => by rw [z, hh] at e; cases e
    rw [upd_ne q]
    exact g.h x u e n
  dom := fun x h => by
    by_cases q : x = a
    · rw [q, upd_same]; exact fun z => nomatch z
    · rw [upd_ne q]; exact g.dom x h
/-- a new dict is shared: locked -/
theorem own_lock {Q : VK} {c c' : Cup} {F H F' H' : Hp} {a : Addr} {ks : List (Key × V)} {ds : List (D × D)} (g : Gr S.ac c c' F H F' H') (w : Wd F' S.ac c' H') (hf : F' a = none) (hh : H a = none) (hn : c' ≠ none → a ≠ S.ac) (ho : H' a = some (.dK ks)) (ro : RepKs X.K S.ft S.ac F' ks ds)
    (p : ∀ F'' H'', Gr S.ac c c' F H F'' H'' → Wd F'' S.ac c' H'' → ∀ v, Rep X.K S.ft S.ac F'' v (.dct ds) → Q v H'') : LkQ Q (.ref a) H' :=
  .inr ⟨a, _, ho, trivial, fun od => p _ _ ((g.set hh _).share hf hh) ((w.set hf hn _).share upd_same hn) (.ref a) (.dct upd_same (ro.mono (Le.new hf)))⟩
/-- a new object is shared -/
theorem SO.se {pe : Expr} {e : EV} (h : SO X S pe e) : SE X S pe e := ⟨fun ρ c F H σ Q w r p => tw_lk (h.run ρ c F H σ (LkQ Q) w r (by
  cases e1 : e ρ c with
  | ok z =>
    obtain ⟨d, c'⟩ := z
    rw [e1] at p
    intro F' H' g w' a o hf hh hn
    cases o with
    | lst ho ro => exact .inl (p _ H' (g.share hf hh) (w'.share ho hn) (.ref a) (.lst upd_same (ro.mono (Le.new hf))))
    | dct ho ro => exact own_lock g w' hf hh hn ho ro p
  | err x c' =>
    rw [e1] at p
    exact p
  | no =>
    rw [e1] at p
    exact p))⟩
end
end Mi
end

section
/-! MiD: operators. -/
namespace Mi
open PySem PySem.Spec PyProof.Rows L2
section
variable {X : Cx} {S : Sx} {pos : Pos}
/-- what an operation of two values gives -/
def OpT (X : Cx) (S : Sx) (f : Value → Value → Sem Value) (pf : D → D → Option D) : Prop :=
  ∀ (F H : Hp) (c : Cup) (x y : V) (dx dy r : D) (Q : VK), Wd F S.ac c H → RepT X.K S F c H x dx → RepT X.K S F c H y dy → pf dx dy = some r →
    (∀ v F' H', Gr S.ac c c F H F' H' → Wd F' S.ac c H' → Rep X.K S.ft S.ac F' v r → Q v H') → wOp X f x y H Q
/-- .. a new list -/
def OpO (X : Cx) (S : Sx) (f : Value → Value → Sem Value) (pf : D → D → Option D) : Prop :=
  ∀ (F H : Hp) (c : Cup) (x y : V) (dx dy r : D) (Q : VK), Wd F S.ac c H → RepT X.K S F c H x dx → RepT X.K S F c H y dy → pf dx dy = some r →
    (∀ a F' H', Gr S.ac c c F H F' H' → Wd F' S.ac c H' → Own X.K S F' H' a r → F' a = none → H a = none → (c ≠ none → a ≠ S.ac) → Q (.ref a) H') → wOp X f x y H Q
def UnT (X : Cx) (S : Sx) (f : Value → Sem Value) (pf : D → Option D) : Prop :=
  ∀ (F H : Hp) (c : Cup) (x : V) (dx r : D) (Q : VK), Wd F S.ac c H → RepT X.K S F c H x dx → pf dx = some r →
    (∀ v F' H', Gr S.ac c c F H F' H' → Wd F' S.ac c H' → Rep X.K S.ft S.ac F' v r → Q v H') → wUn X f x H Q
theorem se_bin {op : Operator} {pf : D → D → Option D} {a b : Expr} {ea eb : EV} (ho : OpT X S (binaryOp op) pf) (ha : SB X S a ea) (hb : SB X S b eb) : SE X S (.BinOp a op b pos) (e2 pf ea eb) := ⟨fun ρ c F H σ Q w r p => by
  refine tw_of (pe_op op_w pe_tw pe_tw) ?_
  refine ha.run ρ c F H σ _ w r (p.bind.imp fun dx c1 F1 H1 g1 w1 p1 x rx => ?_)
  refine hb.run ρ c1 F1 H1 σ _ w1 (r.grow g1) (p1.bind.imp fun dy c2 F2 H2 g2 w2 p2 y ry => ?_)
  obtain ⟨d, e, k⟩ := p2.lift
  exact ho F2 H2 c2 x y dx dy d Q w2 (rx.grow g2) ry e fun v F' H' g w' rv => k F' H' g w' v rv⟩
theorem so_bin {op : Operator} {pf : D → D → Option D} {a b : Expr} {ea eb : EV} (ho : OpO X S (binaryOp op) pf) (ha : SB X S a ea) (hb : SB X S b eb) : SO X S (.BinOp a op b pos) (e2 pf ea eb) := ⟨fun ρ c F H σ Q w r p => by
  refine tw_of (pe_op op_w pe_tw pe_tw) ?_
  refine ha.run ρ c F H σ _ w r (p.bind.imp fun dx c1 F1 H1 g1 w1 p1 x rx => ?_)
  refine hb.run ρ c1 F1 H1 σ _ w1 (r.grow g1) (p1.bind.imp fun dy c2 F2 H2 g2 w2 p2 y ry => ?_)
  obtain ⟨d, e, k⟩ := p2.lift
  refine ho F2 H2 c2 x y dx dy d Q w2 (rx.grow g2) ry e fun a F' H' g w' o hf hh hn => k F' H' g w' a o hf ?_ hn
  cases q : H a with
  | none => rfl
  | some u => exact absurd hh (g2.dom a (g1.dom a (by rw [q]; exact fun z => nomatch z)))⟩
theorem se_un {op : UnaryOp} {pf : D → Option D} {a : Expr} {ea : EV} (ho : UnT X S (unaryOp op) pf) (ha : SB X S a ea) : SE X S (.UnaryOp op a pos) (e1 pf ea) := ⟨fun ρ c F H σ Q w r p => by
  refine tw_of (pe_un un_w pe_tw) ?_
  refine ha.run ρ c F H σ _ w r (p.bind.imp fun dx c1 F1 H1 g1 w1 p1 x rx => ?_)
  obtain ⟨d, e, k⟩ := p1.lift
  exact ho F1 H1 c1 x dx d Q w1 rx e fun v F' H' g w' rv => k F' H' g w' v rv⟩
theorem se_cmp {op : CmpOp} {pf : D → D → Option D} {a b : Expr} {ea eb : EV} (ho : OpT X S (compareOp op) pf) (ha : SB X S a ea) (hb : SB X S b eb) (hm : behindInMarks op b = false) : SE X S (.Compare a [op] [b] pos) (e2 pf ea eb) := ⟨fun ρ c F H σ Q w r p => by
  refine tw_of (pe_cmpR op_w pe_tw pe_tw hm) ?_
  refine ha.run ρ c F H σ _ w r (p.bind.imp fun dx c1 F1 H1 g1 w1 p1 x rx => ?_)
  refine hb.run ρ c1 F1 H1 σ _ w1 (r.grow g1) (p1.bind.imp fun dy c2 F2 H2 g2 w2 p2 y ry => ?_)
  obtain ⟨d, e, k⟩ := p2.lift
  exact ho F2 H2 c2 x y dx dy d Q w2 (rx.grow g2) ry e fun v F' H' g w' rv => k F' H' g w' v rv⟩
/-- op gives bools -/
def Bools (pf : D → D → Option D) : Prop := ∀ x y r, pf x y = some r → ∃ b, r = .bl b
theorem rep_bl {F : Hp} {v : V} {b : Bool} (h : Rep X.K S.ft S.ac F v (.bl b)) : v = .bl b := by
  cases h
  rfl
theorem st_cmp {op : CmpOp} {pf : D → D → Option D} {a b : Expr} {ea eb : EV} (ho : OpT X S (compareOp op) pf) (hB : Bools pf) (ha : SB X S a ea) (hb : SB X S b eb) (hm : behindInMarks op b = false) : ST X S (.Compare a [op] [b] pos) (tE (e2 pf ea eb)) := ⟨fun ρ c F H σ Q w r p => by
  refine twT_of (pt_cmpR op_w pe_tw pe_tw hm) ?_
  refine ha.run ρ c F H σ _ w r (p.bind.bind.imp fun dx c1 F1 H1 g1 w1 p1 x rx => ?_)
  refine hb.run ρ c1 F1 H1 σ _ w1 (r.grow g1) (p1.bind.imp fun dy c2 F2 H2 g2 w2 p2 y ry => ?_)
  obtain ⟨d, e, k⟩ := p2.lift
  obtain ⟨b, rfl⟩ := hB _ _ _ e
  refine ho F2 H2 c2 x y dx dy _ _ w2 (rx.grow g2) ry e fun v F' H' g w' rv => ⟨b, rep_bl rv, ?_⟩
  exact k F' H' g w' F' H' (Gr.refl _ _ _ _) w'⟩
/-- a op b op' d -/
theorem se_chn {o1 o2 : CmpOp} {pf pg : D → D → Option D} {a b d : Expr} {ea eb ed : EV} (h1 : OpT X S (compareOp o1) pf) (B1 : Bools pf) (h2 : OpT X S (compareOp o2) pg) (ha : SB X S a ea) (hb : SE X S b eb) (hd : SB X S d ed)
    (hm : lastMarks [o1, o2] [b, d] = false := by rfl) : SE X S (.Compare a [o1, o2] [b, d] pos) (eChn pf pg ea eb ed) := ⟨fun ρ c F H σ Q w r p => by
  refine tw_of (pe_chain op_w op_w pe_tw pe_tw pe_tw hm) ?_
  refine ha.run ρ c F H σ _ w r (p.bind.imp fun dx c1 F1 H1 g1 w1 p1 x rx => ?_)
  refine hb.run ρ c1 F1 H1 σ _ w1 (r.grow g1) (p1.bind.imp fun dy c2 F2 H2 g2 w2 p2 y ry => ?_)
  have p2 : Pst S F2 c2 H2 (match pf dx dy with
    | some (.bl true) => (ed ρ c2).bind fun r => lift (pg dy r.1) r.2
    | some (.bl false) => .ok (.bl false, c2)
    | _ => .no) fun d _ F' H' => ∀ v, Rep X.K S.ft S.ac F' v d → Q v H' := p2
  cases e : pf dx dy with
  | none => rw [e] at p2; exact p2.elim
  | some r1 =>
    obtain ⟨k, rfl⟩ := B1 _ _ _ e
    rw [e] at p2
    refine h1 F2 H2 c2 x y dx dy _ _ w2 (rx.grow g2) (.rep ry) e fun v F' H' g w' rv => ⟨k, rep_bl rv, ?_⟩
    cases k with
    | false => exact p2 F' H' g w' (.bl false) (.bl false)
    | true =>
      rw [if_pos rfl]
      have p3 : Pst S F' c2 H' ((ed ρ c2).bind fun r => lift (pg dy r.1) r.2) fun d _ F' H' => ∀ v, Rep X.K S.ft S.ac F' v d → Q v H' := Pst.from p2 g
      refine hd.run ρ c2 F' H' σ _ w' ((r.grow (g1.trans g2)).grow g) (p3.bind.imp fun dz c3 F3 H3 g3 w3 p4 z rz => ?_)
      obtain ⟨d', e', k'⟩ := p4.lift
      exact h2 F3 H3 c3 y z dy dz d' Q w3 ((RepT.rep ry).grow (g.trans g3)) rz e' fun v F4 H4 g4 w4 rv => k' F4 H4 g4 w4 v rv⟩

/-! ### the operators -/
theorem t_int {F H : Hp} {c : Cup} {v : V} {i : Int} (h : RepT X.K S F c H v (.int i)) : v = .int i := by
  cases h with
  | rep h => cases h; rfl
theorem t_bl {F H : Hp} {c : Cup} {v : V} {b : Bool} (h : RepT X.K S F c H v (.bl b)) : v = .bl b := by
  cases h with
  | rep h => cases h; rfl
theorem t_non {F H : Hp} {c : Cup} {v : V} (h : RepT X.K S F c H v .non) : v = .non := by
  cases h with
  | rep h => cases h; rfl
theorem t_str {F H : Hp} {c : Cup} {v : V} {s : List Nat} (h : RepT X.K S F c H v (.str s)) : v = .str (mkS s) ∧ OkS s := by
  cases h with
  | rep h => cases h with | str _ h => exact ⟨rfl, h⟩
theorem t_lst {F H : Hp} {c : Cup} {v : V} {ds : List D} (w : Wd F S.ac c H) (h : RepT X.K S F c H v (.lst ds)) : ∃ a vs, v = .ref a ∧ H a = some (.lst vs) ∧ Reps X.K S.ft S.ac F vs ds := by
  cases h with
  | rep h => cases h with | lst h r => exact ⟨_, _, rfl, w.fh _ _ h, r⟩
  | lst h n r => exact ⟨_, _, rfl, h, r⟩
theorem t_tup {F H : Hp} {c : Cup} {v : V} {ds : List D} (w : Wd F S.ac c H) (h : RepT X.K S F c H v (.tup ds)) : ∃ a vs, v = .ref a ∧ SqT X.K F a vs ∧ SqT X.K H a vs ∧ Reps X.K S.ft S.ac F vs ds := by
  cases h with
  | rep h => cases h with | tup h r => exact ⟨_, _, rfl, h, w.fh.sqT h, r⟩
theorem t_dct {F H : Hp} {c : Cup} {v : V} {ds : List (D × D)} (w : Wd F S.ac c H) (h : RepT X.K S F c H v (.dct ds)) : ∃ a ks, v = .ref a ∧ Rd H a (.dK ks) ∧ RepKs X.K S.ft S.ac F ks ds := by
  cases h with
  | rep h => cases h with | dct h r => exact ⟨_, _, rfl, .inr ⟨_, w.fh _ _ h⟩, r⟩
  | dct h n r => exact ⟨_, _, rfl, .inl h, r⟩
theorem t_scr {F H : Hp} {c : Cup} {v : V} {ns : List Int} (w : Wd F S.ac c H) (h : RepT X.K S F c H v (.scr ns)) : ∃ a, v = .ref a ∧ SqL X.K H a (ns.map V.int) := by
  cases h with
  | rep h => cases h with | scr h => exact ⟨_, rfl, w.fh.sqL h⟩
theorem OkS.app {s t : List Nat} (h : OkS s) (k : OkS t) : OkS (s ++ t) := fun c hc => (List.mem_append.mp hc).elim (h c) (k c)
/-- a list at its new place -/
theorem new_lst {F H : Hp} {c : Cup} {ds : List D} {vs : List V} {Q : VK} (w : Wd F S.ac c H) (r : Reps X.K S.ft S.ac F vs ds)
    (k : ∀ a F' H', Gr S.ac c c F H F' H' → Wd F' S.ac c H' → Own X.K S F' H' a (.lst ds) → F' a = none → H a = none → (c ≠ none → a ≠ S.ac) → Q (.ref a) H') : ∀ p, H p = none → Q (.ref p) (upd H p (.lst vs)) := fun p hp =>
  k p _ _ (Gr.laidO hp) (w.laidO hp _) (.lst upd_same r) (w.free hp) hp fun n e => by
    cases hc : c with
    | none => exact n hc
    | some xy =>
      obtain ⟨h1, h2⟩ := w.cup xy.1 xy.2 (by rw [hc])
      rw [e, h2] at hp
      cases hp
theorem new_tup {F H : Hp} {c : Cup} {ds : List D} {vs : List V} {Q : VK} (w : Wd F S.ac c H) (r : Reps X.K S.ft S.ac F vs ds)
    (k : ∀ v F' H', Gr S.ac c c F H F' H' → Wd F' S.ac c H' → Rep X.K S.ft S.ac F' v (.tup ds) → Q v H') : ∀ p, H p = none → Q (.ref p) (upd H p (.tup vs)) := fun p hp =>
  k (.ref p) _ _ (Gr.laid w.fh hp) (w.laid hp _) (.tup (SqT.of upd_same) (r.mono (Le.new (w.free hp))))
theorem opO_op {f : Value → Value → Sem Value} {pf : D → D → Option D} (h : OpO X S f pf) : OpT X S f pf := fun F H c x y dx dy r Q w rx ry e k =>
  wOp_lk (h F H c x y dx dy r (LkQ Q) w rx ry e fun a F' H' g w' o hf hh hn => by
    cases o with
    | lst ho ro => exact .inl (k (.ref a) _ H' (g.share hf hh) (w'.share ho hn) (.lst upd_same (ro.mono (Le.new hf))))
    | dct ho ro => exact own_lock g w' hf hh hn ho ro fun F'' H'' g w v r => k v F'' H'' g w r)
theorem le_line {n : Nat} (h : n ≤ line) : n ≤ sizeLine := by rw [line_eq]; exact h
theorem t_add : OpT X S (binaryOp .Add) pAdd := fun F H c x y dx dy r Q w rx ry e k => by
  cases dx with
  | int i =>
    cases dy with
    | int j =>
      cases e
      rw [t_int rx, t_int ry]
      exact wOp_of op_add ⟨i, j, rfl, rfl, k _ F H (Gr.refl _ _ _ _) w (.int _)⟩
    | _ => cases e
  | str s =>
    cases dy with
    | str t =>
      obtain ⟨hs, e⟩ : s.length + t.length ≤ line ∧ some (D.str (s ++ t)) = some r := by
        have e' : (if s.length + t.length ≤ line then some (D.str (s ++ t)) else none) = some r := e
        split at e'
        · exact ⟨by assumption, e'⟩
        · cases e'
      cases e
      obtain ⟨rfl, o1⟩ := t_str rx
      obtain ⟨rfl, o2⟩ := t_str ry
      refine wOp_of op_add_str ⟨mkS s, mkS t, rfl, rfl, by rw [mkS_len, mkS_len]; exact le_line hs, ?_⟩
      rw [mkS_app]
      exact k _ F H (Gr.refl _ _ _ _) w (.str _ (o1.app o2))
    | _ => cases e
  | lst s =>
    cases dy with
    | lst t =>
      obtain ⟨hs, e⟩ : s.length + t.length ≤ line ∧ some (D.lst (s ++ t)) = some r := by
        have e' : (if s.length + t.length ≤ line then some (D.lst (s ++ t)) else none) = some r := e
        split at e'
        · exact ⟨by assumption, e'⟩
        · cases e'
      cases e
      obtain ⟨a, vs, rfl, h1, r1⟩ := t_lst w rx
      obtain ⟨b, us, rfl, h2, r2⟩ := t_lst w ry
      refine wOp_of op_cat ⟨a, b, vs, us, rfl, rfl, h1, h2, by rw [r1.length, r2.length]; exact le_line hs, ?_⟩
      refine new_lst w (r1.append r2) fun p F' H' g w' o hf hh hn => ?_
      cases o with
      | lst ho ro => exact k (.ref p) _ H' (g.share hf hh) (w'.share ho hn) (.lst upd_same (ro.mono (Le.new hf)))
    | _ => cases e
  | tup s =>
    cases dy with
    | tup t =>
      obtain ⟨hs, e⟩ : s.length + t.length ≤ line ∧ some (D.tup (s ++ t)) = some r := by
        have e' : (if s.length + t.length ≤ line then some (D.tup (s ++ t)) else none) = some r := e
        split at e'
        · exact ⟨by assumption, e'⟩
        · cases e'
      cases e
      obtain ⟨a, vs, rfl, f1, h1, r1⟩ := t_tup w rx
      obtain ⟨b, us, rfl, f2, h2, r2⟩ := t_tup w ry
      refine wOp_of op_catA ⟨a, b, vs, us, rfl, rfl, h1, h2, by rw [r1.length, r2.length]; exact le_line hs, fun q => ?_, fun _ q => ?_, fun _ _ => new_tup w (r1.append r2) k⟩
      · subst q
        cases r1
        exact k _ F H (Gr.refl _ _ _ _) w (.tup f2 r2)
      · subst q
        cases r2
        rw [List.append_nil] at k
        exact k _ F H (Gr.refl _ _ _ _) w (.tup f1 r1)
    | _ => cases e
  | _ => cases e
theorem o_cat : OpO X S (binaryOp .Add) pCat := fun F H c x y dx dy r Q w rx ry e k => by
  cases dx with
  | lst s =>
    cases dy with
    | lst t =>
      obtain ⟨hs, e⟩ : s.length + t.length ≤ line ∧ some (D.lst (s ++ t)) = some r := by
        have e' : (if s.length + t.length ≤ line then some (D.lst (s ++ t)) else none) = some r := e
        split at e'
        · exact ⟨by assumption, e'⟩
        · cases e'
      cases e
      obtain ⟨a, vs, rfl, h1, r1⟩ := t_lst w rx
      obtain ⟨b, us, rfl, h2, r2⟩ := t_lst w ry
      refine wOp_of op_cat ⟨a, b, vs, us, rfl, rfl, h1, h2, by rw [r1.length, r2.length]; exact le_line hs, ?_⟩
      exact new_lst w (r1.append r2) k
    | _ => cases e
  | _ => cases e
theorem t_sub : OpT X S (binaryOp .Sub) pSub := fun F H c x y dx dy r Q w rx ry e k => by
  cases dx with
  | int i =>
    cases dy with
    | int j =>
      cases e
      rw [t_int rx, t_int ry]
      exact wOp_of op_sub ⟨i, j, rfl, rfl, k _ F H (Gr.refl _ _ _ _) w (.int _)⟩
    | _ => cases e
  | _ => cases e
theorem small_iff {i : Int} : small i = true ↔ -(2 ^ 64) < i ∧ i < 2 ^ 64 := by
  unfold small
  rw [Bool.and_eq_true, decide_eq_true_iff, decide_eq_true_iff]
theorem Reps.rep {F : Hp} {vs : List V} {ds : List D} (r : Reps X.K S.ft S.ac F vs ds) : ∀ n : Nat, Reps X.K S.ft S.ac F (List.replicate n vs).flatten (List.replicate n ds).flatten
  | 0 => .nil
  | n + 1 => by
    rw [List.replicate_succ, List.replicate_succ, List.flatten_cons, List.flatten_cons]
    exact r.append (Reps.rep r n)
theorem o_rep : OpO X S (binaryOp .Mult) pRep := fun F H c x y dx dy r Q w rx ry e k => by
  cases dx with
  | lst s =>
    cases dy with
    | int n =>
      obtain ⟨hs, e⟩ : (small n && decide (n < 2 ^ 32) && decide (-(2 ^ 32) < n) && decide (s.length * n.toNat ≤ line)) = true ∧ some (D.lst (List.replicate n.toNat s).flatten) = some r := by
        have e' : (if (small n && decide (n < 2 ^ 32) && decide (-(2 ^ 32) < n) && decide (s.length * n.toNat ≤ line)) = true then some (D.lst (List.replicate n.toNat s).flatten) else none) = some r := e
        split at e'
        · exact ⟨by assumption, e'⟩
        · cases e'
      cases e
      simp only [Bool.and_eq_true, decide_eq_true_iff] at hs
      obtain ⟨⟨⟨_, h2⟩, h3⟩, h4⟩ := hs
      obtain ⟨a, vs, rfl, h1, r1⟩ := t_lst w rx
      rw [t_int ry]
      refine wOp_of op_rep ⟨a, n, vs, rfl, rfl, h1, by omega, by omega, by rw [r1.length]; exact le_line h4, ?_⟩
      exact new_lst w (Reps.rep r1 n.toNat) k
    | _ => cases e
  | _ => cases e
theorem t_mul : OpT X S (binaryOp .Mult) pMul := fun F H c x y dx dy r Q w rx ry e k => by
  cases dx with
  | int i =>
    cases dy with
    | int j =>
      obtain ⟨hs, e⟩ : (small i || small j) = true ∧ some (D.int (i * j)) = some r := by
        have e' : (if (small i || small j) = true then some (D.int (i * j)) else none) = some r := e
        split at e'
        · exact ⟨by assumption, e'⟩
        · cases e'
      cases e
      rw [t_int rx, t_int ry]
      rw [Bool.or_eq_true, small_iff, small_iff] at hs
      exact wOp_of op_mul ⟨i, j, rfl, rfl, hs, k _ F H (Gr.refl _ _ _ _) w (.int _)⟩
    | _ => cases e
  | lst s => exact opO_op o_rep F H c x y (.lst s) dy r Q w rx ry (by cases dy <;> first | exact e | cases e) k
  | _ => cases e
theorem t_div : OpT X S (binaryOp .FloorDiv) pDiv := fun F H c x y dx dy r Q w rx ry e k => by
  cases dx with
  | int i =>
    cases dy with
    | int j =>
      obtain ⟨hs, e⟩ : (0 < j ∧ j < 1073741824) ∧ some (D.int (i / j)) = some r := by
        have e' : (if 0 < j ∧ j < 1073741824 then some (D.int (i / j)) else none) = some r := e
        split at e'
        · exact ⟨by assumption, e'⟩
        · cases e'
      cases e
      rw [t_int rx, t_int ry]
      exact wOp_of op_fdiv ⟨i, j, rfl, rfl, hs, k _ F H (Gr.refl _ _ _ _) w (.int _)⟩
    | _ => cases e
  | _ => cases e
theorem t_mod : OpT X S (binaryOp .Mod) pMod := fun F H c x y dx dy r Q w rx ry e k => by
  cases dx with
  | int i =>
    cases dy with
    | int j =>
      obtain ⟨hs, e⟩ : 0 < j ∧ some (D.int (i % j)) = some r := by
        have e' : (if 0 < j then some (D.int (i % j)) else none) = some r := e
        split at e'
        · exact ⟨by assumption, e'⟩
        · cases e'
      cases e
      rw [t_int rx, t_int ry]
      exact wOp_of op_mod ⟨i, j, rfl, rfl, hs, k _ F H (Gr.refl _ _ _ _) w (.int _)⟩
    | _ => cases e
  | _ => cases e
theorem t_pow : OpT X S (binaryOp .Pow) pPow := fun F H c x y dx dy r Q w rx ry e k => by
  cases dx with
  | int i =>
    cases dy with
    | int j =>
      obtain ⟨hs, e⟩ : (0 ≤ j ∧ j ≤ 1000000 ∧ i.natAbs < 2 ^ 64) ∧ some (D.int (i ^ j.toNat)) = some r := by
        have e' : (if 0 ≤ j ∧ j ≤ 1000000 ∧ i.natAbs < 2 ^ 64 then some (D.int (i ^ j.toNat)) else none) = some r := e
        split at e'
        · exact ⟨by assumption, e'⟩
        · cases e'
      cases e
      rw [t_int rx, t_int ry]
      exact wOp_of op_pow ⟨i, j, rfl, rfl, hs, k _ F H (Gr.refl _ _ _ _) w (.int _)⟩
    | _ => cases e
  | _ => cases e
theorem t_neg : UnT X S (unaryOp .USub) pNeg := fun F H c x dx r Q w rx e k => by
  cases dx with
  | int i =>
    cases e
    rw [t_int rx]
    exact wUn_of un_neg ⟨i, rfl, k _ F H (Gr.refl _ _ _ _) w (.int _)⟩
  | _ => cases e
end
end Mi
end

section
/-! MiE: comparisons, tests. -/
namespace Mi
open PySem PySem.Spec PyProof.Rows L2

/-! ### plain data as the library has it -/
mutual
def py : D → PyData
  | .bl b => .bool b
  | .int i => .int i
  | .str s => .str (mkS s)
  | .tup xs => .tuple (pys xs)
  | .lst xs => .list (pys xs)
  | _ => .none
def pys : List D → List PyData
  | [] => []
  | x :: xs => py x :: pys xs
end
mutual
theorem py_depth : ∀ d : D, (py d).depth = dep d
  | .non => rfl
  | .bl _ => rfl
  | .int _ => rfl
  | .str _ => rfl
  | .tup xs => by
    simp only [py, PyData.depth, dep]
    rw [pys_depth xs]
  | .lst xs => by
    simp only [py, PyData.depth, dep]
    rw [pys_depth xs]
  | .dct _ => rfl
  | .fn _ => rfl
  | .cup => rfl
  | .scr _ => rfl
theorem pys_depth : ∀ ds : List D, PyData.depthAll (pys ds) = deps ds
  | [] => rfl
  | d :: ds => by
    simp only [pys, PyData.depthAll, deps]
    rw [py_depth d, pys_depth ds]
end
mutual
theorem py_eqv : ∀ d e : D, plain d = true → plain e = true → PyData.eqv (py d) (py e) = eqB d e
  | .non, e, _, h => by cases e <;> first | rfl | (simp [py, PyData.eqv, eqB]; done) | cases h
  | .bl a, e, _, h => by
    cases e <;> first | (simp [py, PyData.eqv, eqB, Bool.beq_eq_decide_eq]; done) | cases h
  | .int a, e, _, h => by
    cases e <;> first | (simp [py, PyData.eqv, eqB, Bool.beq_eq_decide_eq]; done) | cases h
  | .str a, e, _, h => by
    cases e with
    | str b =>
      simp only [py, PyData.eqv, eqB]
      by_cases q : a = b
      · subst q; simp
      · rw [decide_eq_false q]
        exact beq_eq_false_iff_ne.mpr fun z => q (mkS_inj z)
    | _ => first | (simp [py, PyData.eqv, eqB]; done) | cases h
  | .tup xs, e, k, h => by
    cases e with
    | tup ys => simp only [py, PyData.eqv, eqB]; exact pys_eqv xs ys k h
    | _ => first | (simp [py, PyData.eqv, eqB]; done) | cases h
  | .lst xs, e, k, h => by
    cases e with
    | lst ys => simp only [py, PyData.eqv, eqB]; exact pys_eqv xs ys k h
    | _ => first | (simp [py, PyData.eqv, eqB]; done) | cases h
  | .dct _, _, k, _ => by cases k
  | .fn _, _, k, _ => by cases k
  | .cup, _, k, _ => by cases k
  | .scr _, _, k, _ => by cases k
theorem pys_eqv : ∀ ds es : List D, plains ds = true → plains es = true → PyData.eqvAll (pys ds) (pys es) = eqBs ds es
  | [], [], _, _ => rfl
  | [], _ :: _, _, _ => rfl
  | _ :: _, [], _, _ => rfl
  | d :: ds, e :: es, k, h => by
    have k' : (plain d && plains ds) = true := k
    have h' : (plain e && plains es) = true := h
    rw [Bool.and_eq_true] at k' h'
    simp only [pys, PyData.eqvAll, eqBs]
    rw [py_eqv d e k'.1 h'.1, pys_eqv ds es k'.2 h'.2]
end
section
variable {K : PySem.W.Frag} {S : Sx} {F H : Hp} {c : Cup}
mutual
theorem Rep.dp {ft : Nat → Addr} {ac : Addr} (l : Le F H) : ∀ {v : V} (d : D), plain d = true → Rep K ft ac F v d → Dp K H v (py d) ∧ (py d).canLay0 = true
  | _, .non, _, h => by cases h; exact ⟨.non, rfl⟩
  | _, .bl _, _, h => by cases h; exact ⟨.bl _, rfl⟩
  | _, .int _, _, h => by cases h; exact ⟨.int _, rfl⟩
  | _, .str s, _, h => by
    cases h with
    | str _ h =>
      refine ⟨.str _, ?_⟩
      show PyData.strOk (mkS s) = true
      unfold PyData.strOk mkS
      rw [← Array.all_toList, List.all_eq_true]
      exact fun c hc => decide_eq_true (h c (by simpa using hc))
  | _, .tup ds, k, h => by
    cases h with
    | tup h r =>
      obtain ⟨a, b⟩ := Reps.dp l ds k r
      exact ⟨.tup (l.sqT h) a, by show PyData.canLay0 (.tuple (pys ds)) = true; simp only [PyData.canLay0]; exact b⟩
  | _, .lst ds, k, h => by
    cases h with
    | lst h r =>
      obtain ⟨a, b⟩ := Reps.dp l ds k r
      exact ⟨.lst (SqL.of (l _ _ h)) a, by show PyData.canLay0 (.list (pys ds)) = true; simp only [PyData.canLay0]; exact b⟩
  | _, .dct _, k, _ => by cases k
  | _, .fn _, k, _ => by cases k
  | _, .cup, k, _ => by cases k
  | _, .scr _, k, _ => by cases k
theorem Reps.dp {ft : Nat → Addr} {ac : Addr} (l : Le F H) : ∀ {vs : List V} (ds : List D), plains ds = true → Reps K ft ac F vs ds → DpAll K H vs (pys ds) ∧ PyData.canLayAll0 (pys ds) = true
  | _, [], _, h => by cases h; exact ⟨.nil, rfl⟩
  | _, d :: ds, k, h => by
    cases h with
    | cons h t =>
      have k' : (plain d && plains ds) = true := k
      rw [Bool.and_eq_true] at k'
      obtain ⟨a, b⟩ := Rep.dp l d k'.1 h
      obtain ⟨a', b'⟩ := Reps.dp l ds k'.2 t
      exact ⟨.cons a a', by simp only [pys, PyData.canLayAll0]; rw [b, b']; rfl⟩
end
theorem RepT.dp (l : Le F H) {v : V} {d : D} (k : plain d = true) (h : RepT K S F c H v d) : Dp K H v (py d) ∧ (py d).canLay0 = true := by
  cases h with
  | rep h => exact h.dp l _ k
  | lst h n r =>
    obtain ⟨a, b⟩ := Reps.dp l _ k r
    exact ⟨.lst (SqL.of h) a, by show PyData.canLay0 (.list (pys _)) = true; simp only [PyData.canLay0]; exact b⟩
  | dct h n r => cases k
theorem flat_iff {d : D} : flat d = true ↔ plain d = true ∧ dep d ≤ 60 := by
  unfold flat
  rw [Bool.and_eq_true, decide_eq_true_iff]
theorem flats_iff {d : List D} : flats d = true ↔ plains d = true ∧ deps d ≤ 58 := by
  unfold flats
  rw [Bool.and_eq_true, decide_eq_true_iff]
theorem py_shaped {d : D} (k : flat d = true) (h : (py d).canLay0 = true) : SeqAt.shaped (py d) = true := by
  obtain ⟨k1, k2⟩ := flat_iff.mp k
  unfold SeqAt.shaped
  rw [Bool.and_eq_true, decide_eq_true_iff, py_depth]
  exact ⟨h, by omega⟩
end

section
variable {X : Cx} {S : Sx} {pos : Pos}
theorem ite_some {α : Type} {p : Prop} [Decidable p] {a r : α} (h : (if p then some a else none) = some r) : p ∧ a = r := by
  split at h
  · exact ⟨by assumption, Option.some.inj h⟩
  · cases h
theorem t_eq (hu : X.A.units + 64 < cLine) : OpT X S (compareOp .Eq) pEq := fun F H c x y dx dy r Q w rx ry e k => by
  obtain ⟨h, rfl⟩ := ite_some e
  rw [Bool.and_eq_true] at h
  obtain ⟨a, b⟩ := rx.dp w.fh (flat_iff.mp h.1).1
  obtain ⟨a', b'⟩ := ry.dp w.fh (flat_iff.mp h.2).1
  refine wOp_of (op_eqD hu) ⟨_, _, a, a', py_shaped h.1 b, py_shaped h.2 b', ?_⟩
  rw [py_eqv dx dy (flat_iff.mp h.1).1 (flat_iff.mp h.2).1]
  exact k _ F H (Gr.refl _ _ _ _) w (.bl _)
theorem t_ne (hu : X.A.units + 64 < cLine) : OpT X S (compareOp .NotEq) pNe := fun F H c x y dx dy r Q w rx ry e k => by
  obtain ⟨h, rfl⟩ := ite_some e
  rw [Bool.and_eq_true] at h
  obtain ⟨a, b⟩ := rx.dp w.fh (flat_iff.mp h.1).1
  obtain ⟨a', b'⟩ := ry.dp w.fh (flat_iff.mp h.2).1
  refine wOp_of (op_neD hu) ⟨_, _, a, a', py_shaped h.1 b, py_shaped h.2 b', ?_⟩
  rw [py_eqv dx dy (flat_iff.mp h.1).1 (flat_iff.mp h.2).1]
  exact k _ F H (Gr.refl _ _ _ _) w (.bl _)
theorem ltS_eq : ∀ s t : List Nat, ltS s t = decide (s < t)
  | s, [] => by
    cases s <;> simp [ltS]
  | [], y :: ys => by simp [ltS]
  | x :: xs, y :: ys => by
    unfold ltS
    by_cases h1 : x < y
    · rw [if_pos h1]; simp [List.cons_lt_cons_iff, h1]
    · rw [if_neg h1]
      by_cases h2 : y < x
      · rw [if_pos h2]
        have : ¬ x = y := by omega
        simp [List.cons_lt_cons_iff, h1, this]
      · rw [if_neg h2]
        have e : x = y := by omega
        subst e
        rw [ltS_eq xs ys]
        simp [List.cons_lt_cons_iff]
theorem b_eq : Bools pEq := fun x y r e => by
  obtain ⟨_, rfl⟩ := ite_some e
  exact ⟨_, rfl⟩
theorem b_ne : Bools pNe := fun x y r e => by
  obtain ⟨_, rfl⟩ := ite_some e
  exact ⟨_, rfl⟩
theorem b_lt : Bools pLt := fun x y r e => by
  unfold pLt at e
  split at e <;> first | exact ⟨_, (Option.some.inj e).symm⟩ | cases e
theorem b_le : Bools pLe := fun x y r e => by
  unfold pLe at e
  split at e <;> first | exact ⟨_, (Option.some.inj e).symm⟩ | cases e
theorem b_gt : Bools pGt := fun x y r e => by
  unfold pGt at e
  split at e <;> first | exact ⟨_, (Option.some.inj e).symm⟩ | cases e
theorem b_ge : Bools pGe := fun x y r e => by
  unfold pGe at e
  split at e <;> first | exact ⟨_, (Option.some.inj e).symm⟩ | cases e
theorem t_lt : OpT X S (compareOp .Lt) pLt := fun F H c x y dx dy r Q w rx ry e k => by
  unfold pLt at e
  split at e
  · cases e
    rw [t_int rx, t_int ry]
    exact wOp_of op_lt ⟨_, _, rfl, rfl, k _ F H (Gr.refl _ _ _ _) w (.bl _)⟩
  · cases e
    obtain ⟨rfl, _⟩ := t_str rx
    obtain ⟨rfl, _⟩ := t_str ry
    refine wOp_of op_lt_str ⟨_, _, rfl, rfl, ?_⟩
    rw [mkS_cps, mkS_cps, ← ltS_eq]
    exact k _ F H (Gr.refl _ _ _ _) w (.bl _)
  · cases e
theorem t_le : OpT X S (compareOp .LtE) pLe := fun F H c x y dx dy r Q w rx ry e k => by
  unfold pLe at e
  split at e
  · cases e
    rw [t_int rx, t_int ry]
    exact wOp_of op_le ⟨_, _, rfl, rfl, k _ F H (Gr.refl _ _ _ _) w (.bl _)⟩
  · cases e
    obtain ⟨rfl, _⟩ := t_str rx
    obtain ⟨rfl, _⟩ := t_str ry
    refine wOp_of op_le_str ⟨_, _, rfl, rfl, ?_⟩
    rw [mkS_cps, mkS_cps, ← ltS_eq]
    exact k _ F H (Gr.refl _ _ _ _) w (.bl _)
  · cases e
theorem t_gt : OpT X S (compareOp .Gt) pGt := fun F H c x y dx dy r Q w rx ry e k => by
  unfold pGt at e
  split at e
  · cases e
    rw [t_int rx, t_int ry]
    exact wOp_of op_gt ⟨_, _, rfl, rfl, k _ F H (Gr.refl _ _ _ _) w (.bl _)⟩
  · cases e
    obtain ⟨rfl, _⟩ := t_str rx
    obtain ⟨rfl, _⟩ := t_str ry
    refine wOp_of op_gt_str ⟨_, _, rfl, rfl, ?_⟩
    rw [mkS_cps, mkS_cps, ← ltS_eq]
    exact k _ F H (Gr.refl _ _ _ _) w (.bl _)
  · cases e
theorem t_ge : OpT X S (compareOp .GtE) pGe := fun F H c x y dx dy r Q w rx ry e k => by
  unfold pGe at e
  split at e
  · cases e
    rw [t_int rx, t_int ry]
    exact wOp_of op_ge ⟨_, _, rfl, rfl, k _ F H (Gr.refl _ _ _ _) w (.bl _)⟩
  · cases e
    obtain ⟨rfl, _⟩ := t_str rx
    obtain ⟨rfl, _⟩ := t_str ry
    refine wOp_of op_ge_str ⟨_, _, rfl, rfl, ?_⟩
    rw [mkS_cps, mkS_cps, ← ltS_eq]
    exact k _ F H (Gr.refl _ _ _ _) w (.bl _)
  · cases e
theorem t_isNone {F H : Hp} {c : Cup} {v : V} {d : D} (h : RepT X.K S F c H v d) : decide (v = .non) = isNon d := by
  cases h with
  | rep h => cases h <;> rfl
  | lst _ _ _ => rfl
  | dct _ _ _ => rfl
theorem t_is : OpT X S (compareOp .Is) pIs := fun F H c x y dx dy r Q w rx ry e k => by
  unfold pIs at e
  split at e
  · cases e
    rw [t_non ry]
    refine wOp_of op_isN ⟨rfl, ?_⟩
    rw [t_isNone rx]
    exact k _ F H (Gr.refl _ _ _ _) w (.bl _)
  · split at e
    · cases e
      rw [t_bl rx, t_bl ry]
      refine wOp_of op_is_bl ⟨_, _, rfl, rfl, ?_⟩
      rw [← Bool.beq_eq_decide_eq]
      exact k _ F H (Gr.refl _ _ _ _) w (.bl _)
    · cases e
  · cases e
theorem t_isNot : OpT X S (compareOp .IsNot) pIsNot := fun F H c x y dx dy r Q w rx ry e k => by
  unfold pIsNot at e
  split at e
  · cases e
    rw [t_non ry]
    refine wOp_of op_notN ⟨rfl, ?_⟩
    rw [t_isNone rx]
    exact k _ F H (Gr.refl _ _ _ _) w (.bl _)
  · split at e
    · cases e
      rw [t_bl rx, t_bl ry]
      refine wOp_of op_isnot_bl ⟨_, _, rfl, rfl, ?_⟩
      rw [← Bool.beq_eq_decide_eq]
      exact k _ F H (Gr.refl _ _ _ _) w (.bl _)
    · cases e
  · cases e
theorem b_is : Bools pIs := fun x y r e => by
  unfold pIs at e
  split at e
  · exact ⟨_, (Option.some.inj e).symm⟩
  · split at e
    · exact ⟨_, (Option.some.inj e).symm⟩
    · cases e
  · cases e
theorem b_isNot : Bools pIsNot := fun x y r e => by
  unfold pIsNot at e
  split at e
  · exact ⟨_, (Option.some.inj e).symm⟩
  · split at e
    · exact ⟨_, (Option.some.inj e).symm⟩
    · cases e
  · cases e
/-! in -/
theorem isPre_iff : ∀ (s t : List Nat), isPre s t = true ↔ t.take s.length = s
  | [], t => by simp [isPre]
  | x :: xs, [] => by simp [isPre]
  | x :: xs, y :: ys => by
    simp only [isPre, Bool.and_eq_true, decide_eq_true_iff, List.length_cons, List.take_succ_cons, List.cons.injEq]
    rw [isPre_iff xs ys]
    constructor
    · rintro ⟨rfl, h⟩; exact ⟨rfl, h⟩
    · rintro ⟨rfl, h⟩; exact ⟨rfl, h⟩
theorem hasSub_iff (s : List Nat) : ∀ t : List Nat, hasSub s t = true ↔ ∃ i, i + s.length ≤ t.length ∧ (t.drop i).take s.length = s
  | [] => by
    unfold hasSub
    rw [isPre_iff]
    constructor
    · intro h
      refine ⟨0, ?_, by simpa using h⟩
      have := congrArg List.length h
      simp at this
      simp [← this]
    · rintro ⟨i, h1, h2⟩
      simp at h1 h2
      simp [h2]
  | y :: ys => by
    unfold hasSub
    rw [Bool.or_eq_true, isPre_iff, hasSub_iff s ys]
    constructor
    · rintro (h | ⟨i, h1, h2⟩)
      · refine ⟨0, ?_, by simpa using h⟩
        have := congrArg List.length h
        rw [List.length_take] at this
        omega
      · exact ⟨i + 1, by simp only [List.length_cons]; omega, by simpa using h2⟩
    · rintro ⟨i, h1, h2⟩
      cases i with
      | zero => exact .inl (by simpa using h2)
      | succ i => exact .inr ⟨i, by simp only [List.length_cons] at h1; omega, by simpa using h2⟩
theorem sub_found (s t : List Nat) : (!(Builtin.Str.occurrences (mkS t) (mkS s) 0 (mkS t).length 1).isEmpty) = hasSub s t := by
  rw [Bool.eq_iff_iff, PySem.StrLaws.found_iff, hasSub_iff]
  constructor
  · rintro ⟨i, h1, h2⟩
    rw [mkS_len, mkS_len] at h1
    rw [PySem.StrLaws.subAt_eq] at h2
    rw [mkS_cps, mkS_cps, mkS_len, beq_iff_eq] at h2
    exact ⟨i, h1, h2⟩
  · rintro ⟨i, h1, h2⟩
    refine ⟨i, by rw [mkS_len, mkS_len]; exact h1, ?_⟩
    rw [PySem.StrLaws.subAt_eq, mkS_cps, mkS_cps, mkS_len, beq_iff_eq]
    exact h2
theorem anyEq_py (d : D) (hd : plain d = true) : ∀ ds : List D, plains ds = true → (pys ds).any (fun z => PyData.eqv z (py d)) = anyEq d ds
  | [], _ => rfl
  | e :: ds, h => by
    have h' : (plain e && plains ds) = true := h
    rw [Bool.and_eq_true] at h'
    simp only [pys, List.any_cons, anyEq]
    rw [py_eqv e d h'.1 hd, anyEq_py d hd ds h'.2]
def wTIn (K : PySem.W.Frag) (b : Bool) : R2 := fun x y H Q => ∃ d ds, Dp K H x d ∧ Dp K H y (.tuple ds) ∧ SeqAt.shaped d = true ∧ PyData.canLayAll0 ds = true ∧ Q (.bl (if b then ds.any fun z => PyData.eqv z d else !ds.any fun z => PyData.eqv z d)) H
theorem op_inT (hu : X.A.units + 65 < cLine) : OpR X (compareOp .In) (wTIn X.K true) := by
  intro pins s σ H x y v u Q I rx ry h
  obtain ⟨d, ds, hd, he, sd, se, q⟩ := h
  obtain ⟨as, r1⟩ := Dp.reads I d x v hd rx
  obtain ⟨bs, r2⟩ := Dp.reads I (.tuple ds) y u he ry
  exact SeqAt.in_tuple_reads r2 r1 se (SeqAt.canLay_of_shaped sd) (room_in_shaped sd hu) ⟨.bl _, H, I, rfl, q⟩
theorem op_notInT (hu : X.A.units + 65 < cLine) : OpR X (compareOp .NotIn) (wTIn X.K false) := by
  intro pins s σ H x y v u Q I rx ry h
  obtain ⟨d, ds, hd, he, sd, se, q⟩ := h
  obtain ⟨as, r1⟩ := Dp.reads I d x v hd rx
  obtain ⟨bs, r2⟩ := Dp.reads I (.tuple ds) y u he ry
  exact SeqAt.notIn_tuple_reads r2 r1 se (SeqAt.canLay_of_shaped sd) (room_in_shaped sd hu) ⟨.bl _, H, I, rfl, q⟩
theorem dget_val {K : PySem.W.Frag} {ft : Nat → Addr} {ac : Addr} {F : Hp} {k : Key} {d : D} (hk : KeyD k d) : ∀ {ks : List (Key × V)} {ds : List (D × D)}, RepKs K ft ac F ks ds →
    (dget ds d = none ∧ valV ks k = none) ∨ ∃ e v, dget ds d = some e ∧ valV ks k = some v ∧ Rep K ft ac F v e
  | _, _, .nil => .inl ⟨rfl, rfl⟩
  | (k', v') :: ks, (d', e') :: ds, .cons hk' h t => by
    have key : eqB d' d = decide (k' = k) := by
      cases hk with
      | int i =>
        cases hk' with
        | int j =>
          simp only [eqB]
          by_cases q : j = i
          · subst q; simp
          · rw [decide_eq_false q, decide_eq_false fun z => q (Sum.inl.inj z)]
        | str t _ => rfl
      | str s _ =>
        cases hk' with
        | int j => rfl
        | str t _ =>
          simp only [eqB]
          by_cases q : t = s
          · subst q; simp
          · rw [decide_eq_false q, decide_eq_false fun z => q (mkS_inj (Sum.inr.inj z))]
    have ih := dget_val hk t
    unfold dget valV
    rw [key]
    by_cases q : k' = k
    · rw [decide_eq_true q, if_pos rfl]
      exact .inr ⟨e', v', rfl, by simp [List.find?, q], h⟩
    · rw [decide_eq_false q, if_neg Bool.false_ne_true]
      have e2 : (List.find? (fun kv => decide (kv.1 = k)) ((k', v') :: ks)) = List.find? (fun kv => decide (kv.1 = k)) ks := by
        rw [List.find?_cons]; simp [q]
      rw [e2]
      exact ih
theorem t_key {F H : Hp} {c : Cup} {v : V} {d : D} (hk : isKey d = true) (h : RepT X.K S F c H v d) : ∃ k, KeyD k d ∧ v = kV k := by
  cases d with
  | int i => exact ⟨.inl i, .int i, t_int h⟩
  | str s =>
    obtain ⟨rfl, o⟩ := t_str h
    exact ⟨.inr (mkS s), .str s o, rfl⟩
  | _ => cases hk
end
end Mi
end

section
/-! MiF: in, subscripts, slices, truth, calls of built-ins. -/
namespace Mi
open PySem PySem.Spec PyProof.Rows L2
section
variable {X : Cx} {S : Sx} {pos : Pos}
theorem op_dIn (hu : X.A.units + 1 < cLine) : OpR X (compareOp .In) (fun y x H Q => ∃ a o, x = .ref a ∧ DGet H a y o ∧ Q (.bl o.isSome) H) := by
  intro pins s σ H y x v u Q I ry rx h
  obtain ⟨a, o, rfl, g, q⟩ := h
  cases rx
  exact d_in hu I g ry fun s3 I3 => ⟨.bl o.isSome, H, I3, rfl, q⟩
theorem op_dNotIn (hu : X.A.units + 1 < cLine) : OpR X (compareOp .NotIn) (fun y x H Q => ∃ a o, x = .ref a ∧ DGet H a y o ∧ Q (.bl (!o.isSome)) H) := by
  intro pins s σ H y x v u Q I ry rx h
  obtain ⟨a, o, rfl, g, q⟩ := h
  cases rx
  exact d_notIn hu I g ry fun s3 I3 => ⟨.bl (!o.isSome), H, I3, rfl, q⟩
theorem dget_isSome {K : PySem.W.Frag} {ft : Nat → Addr} {ac : Addr} {F : Hp} {k : Key} {d : D} {ks : List (Key × V)} {ds : List (D × D)} (hk : KeyD k d) (r : RepKs K ft ac F ks ds) : (valV ks k).isSome = (dget ds d).isSome := by
  rcases dget_val hk r with ⟨h1, h2⟩ | ⟨e, v, h1, h2, _⟩ <;> rw [h1, h2] <;> rfl
theorem t_in (hu : X.A.units + 65 < cLine) : OpT X S (compareOp .In) pIn := fun F H c x y dx dy r Q w rx ry e k => by
  cases dy with
  | str t =>
    cases dx with
    | str s =>
      cases e
      obtain ⟨rfl, _⟩ := t_str rx
      obtain ⟨rfl, _⟩ := t_str ry
      refine wOp_of op_in_str ⟨_, _, rfl, rfl, ?_⟩
      rw [sub_found]
      exact k _ F H (Gr.refl _ _ _ _) w (.bl _)
    | _ => cases e
  | lst ys =>
    obtain ⟨h, rfl⟩ := ite_some e
    rw [Bool.and_eq_true] at h
    obtain ⟨a, b⟩ := rx.dp w.fh (flat_iff.mp h.1).1
    have hp := (flats_iff.mp h.2).1
    have hf : flat (.lst ys) = true := flat_iff.mpr ⟨hp, by simp only [dep]; have := (flats_iff.mp h.2).2; omega⟩
    obtain ⟨a', b'⟩ := ry.dp w.fh (flat_iff.mp hf).1
    refine wOp_of (op_inD hu) ⟨py dx, pys ys, a, a', py_shaped h.1 b, py_shaped hf b', ?_⟩
    rw [anyEq_py dx (flat_iff.mp h.1).1 ys hp]
    exact k _ F H (Gr.refl _ _ _ _) w (.bl _)
  | tup ys =>
    obtain ⟨h, rfl⟩ := ite_some e
    rw [Bool.and_eq_true] at h
    obtain ⟨a, b⟩ := rx.dp w.fh (flat_iff.mp h.1).1
    have hp := (flats_iff.mp h.2).1
    have hf : flat (.tup ys) = true := flat_iff.mpr ⟨hp, by simp only [dep]; have := (flats_iff.mp h.2).2; omega⟩
    obtain ⟨a', b'⟩ := ry.dp w.fh (flat_iff.mp hf).1
    refine wOp_of (op_inT hu) ⟨py dx, pys ys, a, a', py_shaped h.1 b, by simpa only [py, PyData.canLay0] using b', ?_⟩
    rw [if_pos rfl, anyEq_py dx (flat_iff.mp h.1).1 ys hp]
    exact k _ F H (Gr.refl _ _ _ _) w (.bl _)
  | dct kvs =>
    obtain ⟨h, rfl⟩ := ite_some e
    obtain ⟨kk, hk, rfl⟩ := t_key h rx
    obtain ⟨a, ks, rfl, hd, rk⟩ := t_dct w ry
    refine wOp_of (op_dIn (Nat.lt_of_le_of_lt (by omega) hu)) ⟨a, _, rfl, .inl ⟨_, _, hd, rfl, rfl⟩, ?_⟩
    rw [dget_isSome hk rk]
    exact k _ F H (Gr.refl _ _ _ _) w (.bl _)
  | _ => cases e
theorem b_in : Bools pIn := fun x y r e => by
  cases y with
  | str t =>
    cases x with
    | str s => exact ⟨_, (Option.some.inj e).symm⟩
    | _ => cases e
  | lst ys =>
    obtain ⟨_, rfl⟩ := ite_some e
    exact ⟨_, rfl⟩
  | tup ys =>
    obtain ⟨_, rfl⟩ := ite_some e
    exact ⟨_, rfl⟩
  | dct ys =>
    obtain ⟨_, rfl⟩ := ite_some e
    exact ⟨_, rfl⟩
  | _ => cases e
theorem notIn_of {x y r : D} (e : pNotIn x y = some r) : ∃ b, pIn x y = some (.bl b) ∧ r = .bl (!b) := by
  unfold pNotIn at e
  cases h : pIn x y with
  | none => rw [h] at e; cases e
  | some z =>
    obtain ⟨b, rfl⟩ := b_in _ _ _ h
    rw [h] at e
    exact ⟨b, rfl, (Option.some.inj e).symm⟩
theorem b_notIn : Bools pNotIn := fun x y r e => let ⟨b, _, h⟩ := notIn_of e; ⟨_, h⟩
theorem t_notIn (hu : X.A.units + 65 < cLine) : OpT X S (compareOp .NotIn) pNotIn := fun F H c x y dx dy r Q w rx ry e0 k => by
  obtain ⟨bb, e, rfl⟩ := notIn_of e0
  cases dy with
  | str t =>
    cases dx with
    | str s =>
      cases e
      obtain ⟨rfl, _⟩ := t_str rx
      obtain ⟨rfl, _⟩ := t_str ry
      refine wOp_of op_notin_str ⟨_, _, rfl, rfl, ?_⟩
      rw [sub_found]
      exact k _ F H (Gr.refl _ _ _ _) w (.bl _)
    | _ => cases e
  | lst ys =>
    obtain ⟨h, e⟩ := ite_some e
    cases e
    rw [Bool.and_eq_true] at h
    obtain ⟨a, b⟩ := rx.dp w.fh (flat_iff.mp h.1).1
    have hp := (flats_iff.mp h.2).1
    have hf : flat (.lst ys) = true := flat_iff.mpr ⟨hp, by simp only [dep]; have := (flats_iff.mp h.2).2; omega⟩
    obtain ⟨a', b'⟩ := ry.dp w.fh (flat_iff.mp hf).1
    refine wOp_of (op_notInD hu) ⟨py dx, pys ys, a, a', py_shaped h.1 b, py_shaped hf b', ?_⟩
    rw [anyEq_py dx (flat_iff.mp h.1).1 ys hp]
    exact k _ F H (Gr.refl _ _ _ _) w (.bl _)
  | tup ys =>
    obtain ⟨h, e⟩ := ite_some e
    cases e
    rw [Bool.and_eq_true] at h
    obtain ⟨a, b⟩ := rx.dp w.fh (flat_iff.mp h.1).1
    have hp := (flats_iff.mp h.2).1
    have hf : flat (.tup ys) = true := flat_iff.mpr ⟨hp, by simp only [dep]; have := (flats_iff.mp h.2).2; omega⟩
    obtain ⟨a', b'⟩ := ry.dp w.fh (flat_iff.mp hf).1
    refine wOp_of (op_notInT hu) ⟨py dx, pys ys, a, a', py_shaped h.1 b, by simpa only [py, PyData.canLay0] using b', ?_⟩
    rw [if_neg Bool.false_ne_true, anyEq_py dx (flat_iff.mp h.1).1 ys hp]
    exact k _ F H (Gr.refl _ _ _ _) w (.bl _)
  | dct kvs =>
    obtain ⟨h, e⟩ := ite_some e
    cases e
    obtain ⟨kk, hk, rfl⟩ := t_key h rx
    obtain ⟨a, ks, rfl, hd, rk⟩ := t_dct w ry
    refine wOp_of (op_dNotIn (Nat.lt_of_le_of_lt (by omega) hu)) ⟨a, _, rfl, .inl ⟨_, _, hd, rfl, rfl⟩, ?_⟩
    rw [dget_isSome hk rk]
    exact k _ F H (Gr.refl _ _ _ _) w (.bl _)
  | _ => cases e

/-! ### subscripts -/
def wIx (X : Cx) : R2 := fun x y H Q => ∀ (value slice : Expr) (pins : List (Addr × Obj)) (s : Shared) (σ : L2.St) (v u : Value), Inv X pins σ H s → RelV x v → RelV y u →
  subscripted slice false v u = operate [v, u] (getItem v u) → wpAny (model X.prog X.w) X.A (subscriptTail value slice v u) (EP X pins σ Q) X.xe s
theorem ix_w : IxR X (wIx X) := fun value slice pins s σ H x y v u Q I rx ry h hs => h value slice pins s σ v u I rx ry hs
theorem wIx_of {r : R2} (h : IxR X r) {x y : V} {H : Hp} {Q : VK} (q : r x y H Q) : wIx X x y H Q := fun value slice pins s σ v u I rx ry hs => h value slice pins s σ H x y v u Q I rx ry q hs
theorem ix_dct (hu : X.A.units + 1 < cLine) : IxR X (fun x y H Q => ∃ a v, x = .ref a ∧ DGet H a y (some v) ∧ Q v H) := by
  intro value slice pins s σ H x y v u Q I rx ry h hs
  obtain ⟨a, z, rfl, g, q⟩ := h
  cases rx
  exact tail_any (dict_typeIs I g) PySem.F.slot_dict_getitem.lookup (d_getItem hu I g ry fun w' s3 I3 rw' => ⟨z, H, I3, rw', q⟩) hs
theorem ixN_eq (n : Nat) (i : Int) : L2.ixN n i = Mi.ixN n i := rfl
theorem at_of {xs : List D} {vs : List V} {F : Hp} {i : Int} {d : D} (r : Reps X.K S.ft S.ac F vs xs) (h : ((Mi.ixN xs.length i).bind fun j => xs[j]?) = some d) : ∃ v, atI vs i = some v ∧ Rep X.K S.ft S.ac F v d := by
  cases e : Mi.ixN xs.length i with
  | none => rw [e] at h; cases h
  | some j =>
    rw [e] at h
    obtain ⟨v, h1, h2⟩ := r.get (show xs[j]? = some d from h)
    refine ⟨v, ?_, h2⟩
    unfold atI
    rw [ixN_eq, r.length, e]
    exact h1
theorem x_ix (hu : X.A.units + 1 < cLine) {F H : Hp} {c : Cup} {x y : V} {dx dy r : D} {Q : VK} (w : Wd F S.ac c H) (rx : RepT X.K S F c H x dx) (ry : RepT X.K S F c H y dy) (e : pIx dx dy = some r)
    (k : ∀ v F' H', Gr S.ac c c F H F' H' → Wd F' S.ac c H' → Rep X.K S.ft S.ac F' v r → Q v H') : wIx X x y H Q := by
  cases dx with
  | dct kvs =>
    obtain ⟨h, e⟩ : isKey dy = true ∧ dget kvs dy = some r := by
      have e' : (if isKey dy = true then dget kvs dy else none) = some r := e
      split at e'
      · exact ⟨by assumption, e'⟩
      · cases e'
    obtain ⟨kk, hk, rfl⟩ := t_key h ry
    obtain ⟨a, ks, rfl, hd, rk⟩ := t_dct w rx
    rcases dget_val hk rk with ⟨h1, _⟩ | ⟨e1, v, h1, h2, h3⟩
    · rw [h1] at e; cases e
    · rw [h1] at e
      cases e
      refine wIx_of (ix_dct hu) ⟨a, v, rfl, ?_, k v F H (Gr.refl _ _ _ _) w h3⟩
      exact .inl ⟨_, _, hd, rfl, h2.symm⟩
  | lst xs =>
    cases dy with
    | int i =>
      rw [t_int ry]
      obtain ⟨a, vs, rfl, h1, r1⟩ := t_lst w rx
      obtain ⟨v, e1, e2⟩ := at_of r1 e
      exact wIx_of ix_list ⟨a, vs, i, v, rfl, rfl, SqL.of h1, e1, k v F H (Gr.refl _ _ _ _) w e2⟩
    | _ => cases e
  | tup xs =>
    cases dy with
    | int i =>
      rw [t_int ry]
      obtain ⟨a, vs, rfl, _, h1, r1⟩ := t_tup w rx
      obtain ⟨v, e1, e2⟩ := at_of r1 e
      exact wIx_of ix_tup ⟨a, vs, i, v, rfl, rfl, h1, e1, k v F H (Gr.refl _ _ _ _) w e2⟩
    | _ => cases e
  | str s =>
    cases dy with
    | int i =>
      rw [t_int ry]
      obtain ⟨rfl, o⟩ := t_str rx
      obtain ⟨hs, e⟩ : s.length ≤ line ∧ ((Mi.ixN s.length i).bind fun j => (s[j]?).map fun c => D.str [c]) = some r := by
        have e' : (if s.length ≤ line then ((Mi.ixN s.length i).bind fun j => (s[j]?).map fun c => D.str [c]) else none) = some r := e
        split at e'
        · exact ⟨by assumption, e'⟩
        · cases e'
      cases ej : Mi.ixN s.length i with
      | none => rw [ej] at e; cases e
      | some j =>
        rw [ej] at e
        have e' : ((s[j]?).map fun c => D.str [c]) = some r := e
        cases ec : s[j]? with
        | none => rw [ec] at e'; cases e'
        | some ch =>
          rw [ec] at e'
          cases e'
          refine wIx_of ix_str ⟨mkS s, i, ch, rfl, rfl, by rw [mkS_len]; exact le_line hs, ?_, ?_⟩
          · unfold atI
            rw [mkS_cps, ixN_eq, ej]
            exact ec
          · exact k (.str (mkS [ch])) F H (Gr.refl _ _ _ _) w (.str [ch] fun z hz => o z (by
              have : z = ch := by simpa using hz
              rw [this]
              exact List.mem_of_getElem? ec))
    | _ => cases e
  | _ => cases e
theorem se_ix (hu : X.A.units + 1 < cLine) {a b : Expr} {ea eb : EV} (ha : SB X S a ea) (hb : SB X S b eb) (hs : PlainIx b) : SE X S (.Subscript a b pos) (e2 pIx ea eb) := ⟨fun ρ c F H σ Q w r p => by
  refine tw_of (pe_ix ix_w pe_tw pe_tw hs) ?_
  refine ha.run ρ c F H σ _ w r (p.bind.imp fun dx c1 F1 H1 g1 w1 p1 x rx => ?_)
  refine hb.run ρ c1 F1 H1 σ _ w1 (r.grow g1) (p1.bind.imp fun dy c2 F2 H2 g2 w2 p2 y ry => ?_)
  obtain ⟨d, e, k⟩ := p2.lift
  exact x_ix hu w2 (rx.grow g2) ry e fun v F' H' g w' rv => k F' H' g w' v rv⟩

/-! ### slices -/
def wSl (X : Cx) : V → Option Int → Option Int → Hp → VK → Prop := fun x lo hi H Q => ∀ (pins : List (Addr × Obj)) (s : Shared) (σ : L2.St) (v vl vu : Value) (sl : Addr), Inv X pins σ H s → RelV x v → s.heap.IsSliceOf sl vl vu .none → IsPart vl lo → IsPart vu hi →
  ∃ T id, typeLookup (.type T) "__getitem__" = pure (some (.builtin id)) ∧ s.TypeIs v T ∧ wpAny (model X.prog X.w) X.A (getItem v (.ref sl)) (EP X pins σ Q) X.xe s
theorem sl_w : SlR X (wSl X) := fun pins s σ H x v vl vu lo hi sl Q I rx hs pl pu h => h pins s σ v vl vu sl I rx hs pl pu
theorem wSl_of {r : V → Option Int → Option Int → Hp → VK → Prop} (h : SlR X r) {x : V} {lo hi : Option Int} {H : Hp} {Q : VK} (q : r x lo hi H Q) : wSl X x lo hi H Q := fun pins s σ v vl vu sl I rx hs pl pu => h pins s σ H x v vl vu lo hi sl Q I rx hs pl pu q
def twO (X : Cx) (e : Option Expr) : TO := fun σ H Q => ∀ (pins : List (Addr × Obj)) (s : Shared), Inv X pins σ H s → wpAny (model X.prog X.w) X.A (evalPart e X.env) (fun u s' => ∃ o H', Inv X pins σ H' s' ∧ IsPart u o ∧ Q o H') X.xe s
theorem po_tw {e : Option Expr} : PO X e (twO X e) := ⟨fun pins s _ _ _ I h => h pins s I⟩
theorem twO_of {e : Option Expr} {t : TO} (h : PO X e t) {σ : L2.St} {H : Hp} {Q : Option Int → Hp → Prop} (q : t σ H Q) : twO X e σ H Q := fun pins s I => h.run pins s σ H Q I q
structure SOp (X : Cx) (S : Sx) (pe : Option Expr) (e : Option EV) : Prop where
  run : ∀ (ρ : Env) (c : Cup) (F H : Hp) (σ : L2.St) (Q : Option Int → Hp → Prop), Wd F S.ac c H → EnvR X.K S F c H σ ρ → Pst S F c H (oE e ρ c) (fun o _ _ H' => Q o H') → twO X pe σ H Q
theorem so_none : SOp X S none none := ⟨fun ρ c F H σ Q w r p => twO_of po_none (show Q none H from p F H (Gr.refl _ _ _ _) w)⟩
theorem so_some {pe : Expr} {e : EV} (h : SB X S pe e) : SOp X S (some pe) (some e) := ⟨fun ρ c F H σ Q w r p => by
  refine twO_of (po_some pe_tw) ?_
  have p : Pst S F c H ((e ρ c).bind fun p => match p.1 with
    | .int i => .ok (some i, p.2)
    | _ => .no) (fun o _ _ H' => Q o H') := p
  refine h.run ρ c F H σ _ w r (p.bind.imp fun d c1 F1 H1 g1 w1 p1 v rv => ?_)
  cases d with
  | int i => exact ⟨i, t_int rv, p1 F1 H1 (Gr.refl _ _ _ _) w1⟩
  | _ => exact p1.elim⟩
theorem sIx_lo (n : Nat) (o : Option Int) : HT.sIx n 0 o = (o.map (Mi.sIx n)).getD 0 := by
  cases o with
  | none => rfl
  | some v =>
    show (if v < 0 then (v + (n : Int)).toNat else min v.toNat n) = (if 0 ≤ v then min v.toNat n else (v + n).toNat)
    by_cases h : v < 0
    · rw [if_pos h, if_neg (by omega)]
    · rw [if_neg h, if_pos (by omega)]
theorem sIx_hi (n : Nat) (o : Option Int) : HT.sIx n n o = (o.map (Mi.sIx n)).getD n := by
  cases o with
  | none => rfl
  | some v =>
    show (if v < 0 then (v + (n : Int)).toNat else min v.toNat n) = (if 0 ≤ v then min v.toNat n else (v + n).toNat)
    by_cases h : v < 0
    · rw [if_pos h, if_neg (by omega)]
    · rw [if_neg h, if_pos (by omega)]
theorem Reps.cutV {F : Hp} {vs : List V} {ds : List D} (r : Reps X.K S.ft S.ac F vs ds) (lo hi : Option Int) : Reps X.K S.ft S.ac F (cutV vs lo hi) (cut ds lo hi) := by
  unfold L2.cutV cut
  rw [sIx_lo, sIx_hi, r.length]
  exact (r.drop _).take _
theorem x_sl {F H : Hp} {c : Cup} {x : V} {lo hi : Option Int} {dx r : D} {Q : VK} (w : Wd F S.ac c H) (rx : RepT X.K S F c H x dx) (e : pSl dx lo hi = some r)
    (k : ∀ v F' H', Gr S.ac c c F H F' H' → Wd F' S.ac c H' → Rep X.K S.ft S.ac F' v r → Q v H') : wSl X x lo hi H Q := by
  cases dx with
  | lst xs =>
    cases e
    obtain ⟨a, vs, rfl, h1, r1⟩ := t_lst w rx
    refine wSl_of sl_list ⟨a, vs, rfl, SqL.of h1, ?_⟩
    refine new_lst w (r1.cutV lo hi) fun p F' H' g w' o hf hh hn => ?_
    cases o with
    | lst ho ro => exact k (.ref p) _ H' (g.share hf hh) (w'.share ho hn) (.lst upd_same (ro.mono (Le.new hf)))
  | tup xs =>
    cases e
    obtain ⟨a, vs, rfl, f1, h1, r1⟩ := t_tup w rx
    refine wSl_of sl_tupA ⟨a, vs, rfl, h1, fun q => ?_, fun _ => new_tup w (r1.cutV lo hi) k⟩
    refine k (.ref a) F H (Gr.refl _ _ _ _) w (.tup f1 ?_)
    have e2 : cutV vs lo hi = vs := by
      unfold L2.cutV
      rw [q.1, q.2]
      simp
    have := r1.cutV lo hi
    rw [e2] at this
    exact this
  | str s =>
    obtain ⟨hs, rfl⟩ := ite_some (show (if s.length ≤ line then some (D.str (cut s lo hi)) else none) = some r from e)
    obtain ⟨rfl, o⟩ := t_str rx
    refine wSl_of sl_str ⟨mkS s, rfl, by rw [mkS_len]; exact le_line hs, ?_⟩
    have e2 : cutS (mkS s) lo hi = mkS (cut s lo hi) := by
      unfold cutS cut mkS
      rw [sIx_lo, sIx_hi]
      simp [Str.length]
    rw [e2]
    refine k _ F H (Gr.refl _ _ _ _) w (.str _ fun z hz => o z ?_)
    unfold cut at hz
    exact List.mem_of_mem_drop (List.mem_of_mem_take hz)
  | _ => cases e
theorem se_sl {a : Expr} {lo hi : Option Expr} {p2 : Pos} {ea : EV} {el eh : Option EV} (ha : SB X S a ea) (hl : SOp X S lo el) (hh : SOp X S hi eh) : SE X S (.Subscript a (.Slice lo hi none p2) pos) (eSl ea el eh) := ⟨fun ρ c F H σ Q w r p => by
  refine tw_of (pe_slice sl_w pe_tw po_tw po_tw) ?_
  refine ha.run ρ c F H σ _ w r (p.bind.imp fun dx c1 F1 H1 g1 w1 p1 x rx => ?_)
  refine hl.run ρ c1 F1 H1 σ _ w1 (r.grow g1) (p1.bind.imp fun l c2 F2 H2 g2 w2 p2 => ?_)
  refine hh.run ρ c2 F2 H2 σ _ w2 ((r.grow g1).grow g2) (p2.bind.imp fun h c3 F3 H3 g3 w3 p3 => ?_)
  obtain ⟨d, e, k⟩ := p3.lift
  exact x_sl w3 ((rx.grow g2).grow g3) e fun v F' H' g w' rv => k F' H' g w' v rv⟩

/-! ### truth -/
theorem t_truth {F H : Hp} {c : Cup} {v : V} {d : D} {b : Bool} (w : Wd F S.ac c H) (h : RepT X.K S F c H v d) (e : truth d = some b) : TruV X.K v H b := by
  cases d with
  | non => cases e; rw [t_non h]; rfl
  | bl b => cases e; rw [t_bl h]; rfl
  | int i => cases e; rw [t_int h]; show decide (i ≠ 0) = (i != 0); by_cases q : i = 0 <;> simp [q]
  | str s =>
    obtain ⟨hs, e⟩ := ite_some (show (if s.length ≤ line then some (!s.isEmpty) else none) = some b from e)
    subst e
    obtain ⟨rfl, _⟩ := t_str h
    refine ⟨by rw [mkS_len]; exact le_line hs, ?_⟩
    rw [mkS_len]
    cases s with
    | nil => rfl
    | cons x xs => simp; omega
  | tup xs =>
    cases e
    obtain ⟨a, vs, rfl, _, h1, r1⟩ := t_tup w h
    refine .inr (.inl ⟨vs, h1, ?_⟩)
    cases r1 <;> rfl
  | lst xs =>
    cases e
    obtain ⟨a, vs, rfl, h1, r1⟩ := t_lst w h
    refine .inl ⟨vs, SqL.of h1, ?_⟩
    cases r1 <;> rfl
  | _ => cases e
theorem st_val {a : Expr} {ea : EV} (ha : SB X S a ea) (he : ∀ whole, isTrue a X.env whole = (do let v ← whole; standAt a.pos; holding [v] (truthy v)) := by intro _; rfl) : ST X S a (tE ea) := ⟨fun ρ c F H σ Q w r p => by
  refine twT_of (pt_truth pe_tw he) ?_
  refine ha.run ρ c F H σ _ w r (p.bind.imp fun dx c1 F1 H1 g1 w1 p1 x rx => ?_)
  obtain ⟨b, e, k⟩ := p1.lift
  exact ⟨b, t_truth w1 rx e, k F1 H1 (Gr.refl _ _ _ _) w1⟩⟩
theorem st_not {a : Expr} {t : TV} (ha : ST X S a t) : ST X S (.UnaryOp .Not a pos) (tNot t) := ⟨fun ρ c F H σ Q w r p => by
  refine twT_of (pt_not pt_tw) ?_
  exact ha.run ρ c F H σ _ w r (p.bind.imp fun b c1 F1 H1 g1 w1 p1 => p1 F1 H1 (Gr.refl _ _ _ _) w1)⟩
theorem SW.st {a : Expr} {t : TV} (h : SW X S a t) : ST X S a t := ⟨fun ρ c F H σ Q w r p => twT_of (PW.pt pw_tw) (h.run ρ c F H σ Q w r p)⟩
theorem sw_and1 {a : Expr} {t : TV} (ha : ST X S a t) : SW X S (.BoolOp .And [a] pos) t := ⟨fun ρ c F H σ Q w r p => twW_of (pw_and1 pt_tw) (ha.run ρ c F H σ Q w r p)⟩
theorem sw_or1 {a : Expr} {t : TV} (ha : ST X S a t) : SW X S (.BoolOp .Or [a] pos) t := ⟨fun ρ c F H σ Q w r p => twW_of (pw_or1 pt_tw) (ha.run ρ c F H σ Q w r p)⟩
theorem sw_and {a b : Expr} {rest : List Expr} {t u : TV} (ha : ST X S a t) (hb : SW X S (.BoolOp .And (b :: rest) pos) u) : SW X S (.BoolOp .And (a :: b :: rest) pos) (tAnd t u) := ⟨fun ρ c F H σ Q w r p => by
  refine twW_of (pw_and pt_tw pw_tw) ?_
  refine ha.run ρ c F H σ _ w r (p.bind.imp fun b c1 F1 H1 g1 w1 p1 => ?_)
  cases b with
  | true => exact hb.run ρ c1 F1 H1 σ Q w1 (r.grow g1) p1
  | false => exact p1 F1 H1 (Gr.refl _ _ _ _) w1⟩
theorem sw_or {a b : Expr} {rest : List Expr} {t u : TV} (ha : ST X S a t) (hb : SW X S (.BoolOp .Or (b :: rest) pos) u) : SW X S (.BoolOp .Or (a :: b :: rest) pos) (tOr t u) := ⟨fun ρ c F H σ Q w r p => by
  refine twW_of (pw_or pt_tw pw_tw) ?_
  refine ha.run ρ c F H σ _ w r (p.bind.imp fun b c1 F1 H1 g1 w1 p1 => ?_)
  cases b with
  | true => exact p1 F1 H1 (Gr.refl _ _ _ _) w1
  | false => exact hb.run ρ c1 F1 H1 σ Q w1 (r.grow g1) p1⟩
theorem se_and1 {op : BoolOp} {a : Expr} {e : EV} (ha : SE X S a e) : SE X S (.BoolOp op [a] pos) e := ⟨fun ρ c F H σ Q w r p => tw_of (pe_one pe_tw) (ha.run ρ c F H σ Q w r p)⟩
theorem se_and {a b : Expr} {rest : List Expr} {ea eb : EV} (ha : SE X S a ea) (hb : SE X S (.BoolOp .And (b :: rest) pos) eb) : SE X S (.BoolOp .And (a :: b :: rest) pos) (eAnd ea eb) := ⟨fun ρ c F H σ Q w r p => by
  refine tw_of (pe_andT pe_tw pe_tw) ?_
  refine ha.run ρ c F H σ _ w r (p.bind.imp fun d c1 F1 H1 g1 w1 p1 x rx => ?_)
  have p1 : Pst S F1 c1 H1 (match truth d with
    | some true => eb ρ c1
    | some false => .ok (d, c1)
    | none => .no) _ := p1
  cases e : truth d with
  | none => rw [e] at p1; exact p1.elim
  | some b =>
    rw [e] at p1
    refine ⟨b, t_truth w1 (.rep rx) e, ?_⟩
    cases b with
    | true => exact hb.run ρ c1 F1 H1 σ Q w1 (r.grow g1) p1
    | false => exact p1 F1 H1 (Gr.refl _ _ _ _) w1 x rx⟩
theorem se_or {a b : Expr} {rest : List Expr} {ea eb : EV} (ha : SE X S a ea) (hb : SE X S (.BoolOp .Or (b :: rest) pos) eb) : SE X S (.BoolOp .Or (a :: b :: rest) pos) (eOr ea eb) := ⟨fun ρ c F H σ Q w r p => by
  refine tw_of (pe_orT pe_tw pe_tw) ?_
  refine ha.run ρ c F H σ _ w r (p.bind.imp fun d c1 F1 H1 g1 w1 p1 x rx => ?_)
  have p1 : Pst S F1 c1 H1 (match truth d with
    | some true => .ok (d, c1)
    | some false => eb ρ c1
    | none => .no) _ := p1
  cases e : truth d with
  | none => rw [e] at p1; exact p1.elim
  | some b =>
    rw [e] at p1
    refine ⟨b, t_truth w1 (.rep rx) e, ?_⟩
    cases b with
    | true => exact p1 F1 H1 (Gr.refl _ _ _ _) w1 x rx
    | false => exact hb.run ρ c1 F1 H1 σ Q w1 (r.grow g1) p1⟩
theorem se_not {a : Expr} {ea : EV} (ha : SB X S a ea) : SE X S (.UnaryOp .Not a pos) (e1 pNot ea) := ⟨fun ρ c F H σ Q w r p => by
  refine tw_of (pe_notT pe_tw) ?_
  refine ha.run ρ c F H σ _ w r (p.bind.imp fun d c1 F1 H1 g1 w1 p1 x rx => ?_)
  obtain ⟨r2, e, k⟩ := p1.lift
  have e' : (truth d).map (fun b => D.bl (!b)) = some r2 := e
  cases e2 : truth d with
  | none => rw [e2] at e'; cases e'
  | some b =>
    rw [e2] at e'
    cases e'
    exact ⟨b, t_truth w1 rx e2, k F1 H1 (Gr.refl _ _ _ _) w1 _ (.bl _)⟩⟩
theorem se_if {t : TV} {cnd a b : Expr} {ea eb : EV} (hc : ST X S cnd t) (ha : SE X S a ea) (hb : SE X S b eb) : SE X S (.IfExp cnd a b pos) (eIf t ea eb) := ⟨fun ρ c F H σ Q w r p => by
  refine tw_of (pe_ifExp pt_tw pe_tw pe_tw) ?_
  refine hc.run ρ c F H σ _ w r (p.bind.imp fun b c1 F1 H1 g1 w1 p1 => ?_)
  cases b with
  | true => exact ha.run ρ c1 F1 H1 σ Q w1 (r.grow g1) p1
  | false => exact hb.run ρ c1 F1 H1 σ Q w1 (r.grow g1) p1⟩
end
end Mi
end

section
/-! MiG: calls of built-in functions. -/
namespace Mi
open PySem PySem.Spec PyProof.Rows L2
section
variable {X : Cx} {S : Sx} {pos p : Pos}
/-- what a built-in function of one value gives -/
def ClT (X : Cx) (S : Sx) (f : Value) (pf : D → Option D) : Prop :=
  ∀ (F H : Hp) (c : Cup) (x : V) (dx r : D) (Q : VK), Wd F S.ac c H → RepT X.K S F c H x dx → pf dx = some r →
    (∀ v F' H', Gr S.ac c c F H F' H' → Wd F' S.ac c H' → Rep X.K S.ft S.ac F' v r → Q v H') → wCl X f [x] H Q
/-- .. a new list -/
def ClO (X : Cx) (S : Sx) (f : Value) (pf : D → Option D) : Prop :=
  ∀ (F H : Hp) (c : Cup) (x : V) (dx r : D) (Q : VK), Wd F S.ac c H → RepT X.K S F c H x dx → pf dx = some r →
    (∀ a F' H', Gr S.ac c c F H F' H' → Wd F' S.ac c H' → Own X.K S F' H' a r → F' a = none → H a = none → (c ≠ none → a ≠ S.ac) → Q (.ref a) H') → wCl X f [x] H Q
/-- len of a dict, locked or not -/
theorem call_lenR : CallR X (.builtin "len") (fun xs H Q => ∃ a kvs, xs = [V.ref a] ∧ Rd H a (.dK kvs) ∧ Q (.int kvs.length) H) := by
  intro pins s σ H xs us Q I r h
  obtain ⟨a, kvs, rfl, ha, q⟩ := h
  obtain ⟨u, rfl, ru⟩ := vals1 r
  cases ru
  exact d_len I ha fun t s' I' => ⟨.int kvs.length, H, I', ⟨t, rfl⟩, q⟩
theorem clO_T {f : Value} {pf : D → Option D} (h : ClO X S f pf) : ClT X S f pf := fun F H c x dx r Q w rx e k =>
  wCl_lk (h F H c x dx r (LkQ Q) w rx e fun a F' H' g w' o hf hh hn => by
    cases o with
    | lst ho ro => exact .inl (k (.ref a) _ H' (g.share hf hh) (w'.share ho hn) (.lst upd_same (ro.mono (Le.new hf))))
    | dct ho ro => exact own_lock g w' hf hh hn ho ro fun F'' H'' g w v r => k v F'' H'' g w r)
theorem se_of_cl {f : Value} {pe a : Expr} {pf : D → Option D} {ea : EV} (hp : PE X pe (tCB (wCl X f) (twA X [a]))) (ho : ClT X S f pf) (ha : SB X S a ea) (hs : starEach [a] X.env = (false, eval a X.env) :: starEach [] X.env) : SE X S pe (e1 pf ea) := ⟨fun ρ c F H σ Q w r p => by
  refine tw_of hp ?_
  refine (sa1 ha hs).run ρ c F H σ _ w r (p.bind.imp fun dx c1 F1 H1 g1 w1 p1 x rx => ?_)
  obtain ⟨d, e, k⟩ := p1.lift
  exact ho F1 H1 c1 x dx d Q w1 rx e fun v F' H' g w' rv => k F' H' g w' v rv⟩
theorem so_of_cl {f : Value} {pe a : Expr} {pf : D → Option D} {ea : EV} (hp : PE X pe (tCB (wCl X f) (twA X [a]))) (ho : ClO X S f pf) (ha : SB X S a ea) (hs : starEach [a] X.env = (false, eval a X.env) :: starEach [] X.env) : SO X S pe (e1 pf ea) := ⟨fun ρ c F H σ Q w r p => by
  refine tw_of hp ?_
  refine (sa1 ha hs).run ρ c F H σ _ w r (p.bind.imp fun dx c1 F1 H1 g1 w1 p1 x rx => ?_)
  obtain ⟨d, e, k⟩ := p1.lift
  refine ho F1 H1 c1 x dx d Q w1 rx e fun a F' H' g w' o hf hh hn => k F' H' g w' a o hf ?_ hn
  cases q : H a with
  | none => rfl
  | some u => exact absurd hh (g1.dom a (by rw [q]; exact fun z => nomatch z))⟩
section
variable {x : Str} {id T : String} {a : Expr} {pf : D → Option D} {ea : EV}
theorem se_cB (hv : bootBuiltins x = some (.builtin id)) (ho : ClT X S (.builtin id) pf) (hg : Gl X x) (hm : X.mg x = none) (ha : SB X S a ea) (hn : x ≠ "__name__" := by decide) (hdb : (x == ("__debug__" : Str)) = false := by decide)
    (hs : starEach [a] X.env = (false, eval a X.env) :: starEach [] X.env := by rfl) (hpl : (backTo pos (starEach [] X.env)).any (·.1) = false := by rfl) :
    SE X S (.Call (.Name x p) [a] [] pos) (e1 pf ea) := se_of_cl (pe_callB call_w hg hm hv pa_tw hn hdb hs hpl) ho ha hs
theorem se_cT (hv : bootBuiltins x = some (.type T)) (ho : ClT X S (.type T) pf) (hg : Gl X x) (hm : X.mg x = none) (ha : SB X S a ea) (hn : x ≠ "__name__" := by decide) (hdb : (x == ("__debug__" : Str)) = false := by decide)
    (hs : starEach [a] X.env = (false, eval a X.env) :: starEach [] X.env := by rfl) (hpl : (backTo pos (starEach [] X.env)).any (·.1) = false := by rfl) :
    SE X S (.Call (.Name x p) [a] [] pos) (e1 pf ea) := se_of_cl (pe_callTy call_w hg hm hv pa_tw hn hdb hs hpl) ho ha hs
theorem so_cB (hv : bootBuiltins x = some (.builtin id)) (ho : ClO X S (.builtin id) pf) (hg : Gl X x) (hm : X.mg x = none) (ha : SB X S a ea) (hn : x ≠ "__name__" := by decide) (hdb : (x == ("__debug__" : Str)) = false := by decide)
    (hs : starEach [a] X.env = (false, eval a X.env) :: starEach [] X.env := by rfl) (hpl : (backTo pos (starEach [] X.env)).any (·.1) = false := by rfl) :
    SO X S (.Call (.Name x p) [a] [] pos) (e1 pf ea) := so_of_cl (pe_callB call_w hg hm hv pa_tw hn hdb hs hpl) ho ha hs
theorem so_cT (hv : bootBuiltins x = some (.type T)) (ho : ClO X S (.type T) pf) (hg : Gl X x) (hm : X.mg x = none) (ha : SB X S a ea) (hn : x ≠ "__name__" := by decide) (hdb : (x == ("__debug__" : Str)) = false := by decide)
    (hs : starEach [a] X.env = (false, eval a X.env) :: starEach [] X.env := by rfl) (hpl : (backTo pos (starEach [] X.env)).any (·.1) = false := by rfl) :
    SO X S (.Call (.Name x p) [a] [] pos) (e1 pf ea) := so_of_cl (pe_callTy call_w hg hm hv pa_tw hn hdb hs hpl) ho ha hs
end

/-! ### len, list, tuple -/
theorem cl_len : ClT X S (.builtin "len") pLen := fun F H c x dx r Q w rx e k => by
  have fin : ∀ n : Nat, r = .int n → Q (.int n) H := fun n h => k _ F H (Gr.refl _ _ _ _) w (by rw [h]; exact .int _)
  cases dx with
  | str s =>
    obtain ⟨h1, h2⟩ := ite_some e
    obtain ⟨rfl, _⟩ := t_str rx
    exact wCl_of call_len ⟨_, s.length, rfl, ⟨by rw [mkS_len]; exact le_line h1, by rw [mkS_len]⟩, fin _ h2.symm⟩
  | tup xs =>
    cases e
    obtain ⟨a, vs, rfl, _, h, rs⟩ := t_tup w rx
    exact wCl_of call_len ⟨_, xs.length, rfl, .inr ⟨vs, h, rs.length.symm⟩, fin _ rfl⟩
  | lst xs =>
    cases e
    obtain ⟨a, vs, rfl, h, rs⟩ := t_lst w rx
    exact wCl_of call_len ⟨_, xs.length, rfl, .inl ⟨vs, SqL.of h, rs.length.symm⟩, fin _ rfl⟩
  | dct kvs =>
    cases e
    obtain ⟨a, vs, rfl, h, rs⟩ := t_dct w rx
    exact wCl_of call_lenR ⟨a, vs, rfl, h, fin vs.length (by rw [rs.length])⟩
  | _ => cases e
theorem signs_vals : ∀ {s : List Nat} {us : List Value}, us.length = s.length → (∀ (j : Nat) (v : Value), us[j]? = some v → ∃ c u, s[j]? = some c ∧ v = .str ⟨#[c]⟩ u) → Vals (s.map fun c => V.str (mkS [c])) us
  | [], [], _, _ => .nil
  | c :: s, u :: us, hl, h => by
    obtain ⟨c', t, e1, e2⟩ := h 0 u rfl
    cases (show c = c' from Option.some.inj e1)
    refine .cons ⟨t, e2⟩ (signs_vals (by simpa using hl) fun j v e => ?_)
    obtain ⟨c', t, e1, e2⟩ := h (j + 1) v (by simpa using e)
    exact ⟨c', t, by simpa using e1, e2⟩
  | [], _ :: _, hl, _ => by simp at hl
  | _ :: _, [], hl, _ => by simp at hl
theorem OkS.mem {s : List Nat} (h : OkS s) {c : Nat} (hc : c ∈ s) : OkS [c] := fun d hd => by
  rw [List.mem_singleton] at hd
  rw [hd]
  exact h c hc
theorem signs_reps {F : Hp} : ∀ {s : List Nat}, OkS s → Reps X.K S.ft S.ac F (s.map fun c => V.str (mkS [c])) (s.map fun c => D.str [c])
  | [], _ => .nil
  | c :: s, h => .cons (.str [c] (h.mem (List.mem_cons_self ..))) (signs_reps fun d hd => h d (List.mem_cons_of_mem _ hd))
theorem ints_reps {F : Hp} : ∀ {ns : List Int}, Reps X.K S.ft S.ac F (ns.map V.int) (ns.map D.int)
  | [] => .nil
  | n :: ns => .cons (.int n) ints_reps
theorem keys_reps {F : Hp} : ∀ {ks : List (Key × V)} {ds : List (D × D)}, RepKs X.K S.ft S.ac F ks ds → Reps X.K S.ft S.ac F (ks.map fun kv => kV kv.1) (ds.map (·.1))
  | _, _, .nil => .nil
  | _, _, .cons hk _ t => by
    refine .cons ?_ (keys_reps t)
    cases hk with
    | int i => exact .int i
    | str s h => exact .str s h
theorem sign_at {s : List Nat} {acc : Array Value} (h : ItemsOf (SignAt (mkS s)) acc (mkS s).cps.size) : Vals (s.map fun c => V.str (mkS [c])) acc.toList := by
  refine signs_vals ?_ fun j v e => ?_
  · rw [Array.length_toList, h.1]
    simp [mkS]
  · obtain ⟨c, u, h1, h2⟩ := h.2 j v (by rw [← Array.getElem?_toList]; exact e)
    exact ⟨c, u, by simpa [mkS] using h1, h2⟩
theorem call_listT (hc : X.calm = true) : CallR X (.type "list") (fun xs H Q => ∃ s : List Nat, xs = [.str (mkS s)] ∧ s.length ≤ sizeLine ∧ ∀ l, H l = none → Q (.ref l) (upd H l (.lst (s.map fun c => V.str (mkS [c]))))) := by
  intro pins s σ H xs us Q I r h
  obtain ⟨z, rfl, hz, q⟩ := h
  obtain ⟨u, rfl, t, rfl⟩ := vals1 r
  refine call_list_str (I.ok.hd hc) (mkS z) t (fun h' tk acc c' kp e it => ?_) (by have := mkS_len z; unfold Str.length at this; omega)
  refine ⟨.ref s.heap.objs.size, _, I.laid (t' := tk) kp (Nat.le_refl _) (show ObjOk X.prog X.w _ h' _ (.lst (z.map fun c => V.str (mkS [c]))) from ⟨by rw [List.length_map]; exact hz, acc.toList, c', sign_at it, by rw [Array.toArray_toList]; exact e⟩), rfl, q _ (I.hok.fresh (Nat.le_refl _))⟩
theorem call_tupT (hc : X.calm = true) : CallR X (.type "tuple") (fun xs H Q => ∃ s : List Nat, xs = [.str (mkS s)] ∧ s.length ≤ sizeLine ∧ ∀ l, H l = none → Q (.ref l) (upd H l (.tup (s.map fun c => V.str (mkS [c]))))) := by
  intro pins s σ H xs us Q I r h
  obtain ⟨z, rfl, hz, q⟩ := h
  obtain ⟨u, rfl, t, rfl⟩ := vals1 r
  refine call_tuple_str (I.ok.hd hc) (mkS z) t (fun h' tk acc kp it => ?_) (by have := mkS_len z; unfold Str.length at this; omega)
  have I1 : Inv X pins σ H { s with heap := h', toks := tk } := I.kept kp
  have I2 : Inv X pins σ (upd H h'.objs.size (.tup (z.map fun c => V.str (mkS [c])))) { s with heap := h'.push { cls := .type "tuple", data := .seq acc }, toks := tk } :=
    I1.laid (t' := tk) (fun b o e => Heap.get?_push_of_some _ e) (Nat.le_refl _) (show ObjOk X.prog X.w _ _ _ (.tup (z.map fun c => V.str (mkS [c]))) from ⟨by rw [List.length_map]; exact hz, acc.toList, sign_at it, by rw [Array.toArray_toList]; exact IsTup.new h' acc⟩)
  exact ⟨.ref h'.objs.size, _, I2, rfl, q _ (I1.hok.fresh (Nat.le_refl _))⟩
theorem cl_list (hc : X.calm = true) : ClO X S (.type "list") pList := fun F H c x dx r Q w rx e k => by
  obtain ⟨xs, hx, e⟩ := Option.bind_eq_some_iff.mp e
  obtain ⟨hl, rfl⟩ := ite_some e
  cases dx with
  | str s =>
    cases hx
    rw [List.length_map] at hl
    obtain ⟨rfl, ok⟩ := t_str rx
    exact wCl_of (call_listT hc) ⟨s, rfl, le_line hl, new_lst w (signs_reps ok) k⟩
  | tup ys =>
    cases hx
    obtain ⟨a, vs, rfl, _, h, rs⟩ := t_tup w rx
    exact wCl_of call_list_of ⟨a, vs, rfl, .inr h, new_lst w rs k⟩
  | lst ys =>
    cases hx
    obtain ⟨a, vs, rfl, h, rs⟩ := t_lst w rx
    exact wCl_of call_list_of ⟨a, vs, rfl, .inl (SqL.of h), new_lst w rs k⟩
  | dct kvs =>
    cases hx
    obtain ⟨a, ks, rfl, h, rs⟩ := t_dct w rx
    exact wCl_of (call_listD hc) ⟨a, ks, rfl, h, new_lst w (keys_reps rs) k⟩
  | scr ns =>
    cases hx
    obtain ⟨a, rfl, h⟩ := t_scr w rx
    exact wCl_of call_list_of ⟨a, _, rfl, .inl h, new_lst w ints_reps k⟩
  | _ => cases hx
theorem cl_tuple (hc : X.calm = true) : ClT X S (.type "tuple") pTuple := fun F H c x dx r Q w rx e k => by
  obtain ⟨hd, e⟩ : notDct dx = true ∧ (items dx).bind (fun xs => if xs.length ≤ line then some (D.tup xs) else none) = some r := by
    unfold pTuple at e
    split at e
    · exact ⟨by assumption, e⟩
    · cases e
  obtain ⟨xs, hx, e⟩ := Option.bind_eq_some_iff.mp e
  obtain ⟨hl, rfl⟩ := ite_some e
  cases dx with
  | str s =>
    cases hx
    rw [List.length_map] at hl
    obtain ⟨rfl, ok⟩ := t_str rx
    exact wCl_of (call_tupT hc) ⟨s, rfl, le_line hl, new_tup w (signs_reps ok) k⟩
  | tup ys =>
    cases hx
    obtain ⟨a, vs, rfl, h0, h, rs⟩ := t_tup w rx
    exact wCl_of call_tuple_of ⟨a, vs, rfl, .inr ⟨h, k _ F H (Gr.refl _ _ _ _) w (.tup h0 rs)⟩⟩
  | lst ys =>
    cases hx
    obtain ⟨a, vs, rfl, h, rs⟩ := t_lst w rx
    exact wCl_of call_tuple_of ⟨a, vs, rfl, .inl ⟨SqL.of h, new_tup w rs k⟩⟩
  | scr ns =>
    cases hx
    obtain ⟨a, rfl, h⟩ := t_scr w rx
    exact wCl_of call_tuple_of ⟨a, _, rfl, .inl ⟨h, new_tup w ints_reps k⟩⟩
  | dct kvs => cases hd
  | _ => cases hx
theorem cl_abs : ClT X S (.builtin "abs") pAbs := fun F H c x dx r Q w rx e k => by
  cases dx with
  | int i =>
    cases e
    rw [t_int rx]
    exact wCl_of call_abs ⟨i, rfl, k _ F H (Gr.refl _ _ _ _) w (.int _)⟩
  | _ => cases e
theorem cl_int : ClT X S (.type "int") pInt := fun F H c x dx r Q w rx e k => by
  cases dx with
  | int i =>
    cases e
    rw [t_int rx]
    exact wCl_of call_int1 (.inl ⟨i, rfl, k _ F H (Gr.refl _ _ _ _) w (.int _)⟩)
  | bl b =>
    cases e
    rw [t_bl rx]
    exact wCl_of call_int1 (.inr ⟨b, rfl, k _ F H (Gr.refl _ _ _ _) w (.int _)⟩)
  | _ => cases e
theorem cl_str : ClT X S (.type "str") pStr := fun F H c x dx r Q w rx e k => by
  cases dx with
  | str s =>
    cases e
    obtain ⟨rfl, ok⟩ := t_str rx
    exact wCl_of SkE.call_str_str ⟨_, rfl, k _ F H (Gr.refl _ _ _ _) w (.str s ok)⟩
  | _ => cases e
theorem bools_of {F : Hp} : ∀ {vs : List V} {ds : List D} {bs : List Bool}, ds = bs.map D.bl → Reps X.K S.ft S.ac F vs ds → vs = bs.map V.bl
  | _, _, [], e, r => by
    subst e
    cases r
    rfl
  | _, _, b :: bs, e, r => by
    subst e
    cases r with
    | cons h t =>
      rw [rep_bl h, bools_of (bs := bs) rfl t]
      rfl
theorem toBools_eq : ∀ {ds : List D} {bs : List Bool}, toBools ds = some bs → ds = bs.map D.bl
  | [], bs, e => by cases e; rfl
  | d :: ds, bs, e => by
    cases d with
    | bl b =>
      obtain ⟨cs, h1, h2⟩ := Option.map_eq_some_iff.mp e
      rw [← h2, toBools_eq h1]
      rfl
    | _ => cases e
theorem cl_all (hc : X.calm = true) : ClT X S (.builtin "all") pAllB := fun F H c x dx r Q w rx e k => by
  cases dx with
  | lst xs =>
    obtain ⟨bs, h1, rfl⟩ := Option.map_eq_some_iff.mp e
    obtain ⟨a, vs, rfl, h, rs⟩ := t_lst w rx
    have e := bools_of (toBools_eq h1) rs
    subst e
    exact wCl_of (cr_all hc) ⟨a, bs, rfl, SqL.of h, k _ F H (Gr.refl _ _ _ _) w (.bl _)⟩
  | _ => cases e
theorem cl_any (hc : X.calm = true) : ClT X S (.builtin "any") pAnyB := fun F H c x dx r Q w rx e k => by
  cases dx with
  | lst xs =>
    obtain ⟨bs, h1, rfl⟩ := Option.map_eq_some_iff.mp e
    obtain ⟨a, vs, rfl, h, rs⟩ := t_lst w rx
    have e := bools_of (toBools_eq h1) rs
    subst e
    exact wCl_of (cr_any hc) ⟨a, bs, rfl, SqL.of h, k _ F H (Gr.refl _ _ _ _) w (.bl _)⟩
  | _ => cases e
theorem toInts_eq : ∀ {ds : List D} {bs : List Int}, toInts ds = some bs → ds = bs.map D.int
  | [], bs, e => by cases e; rfl
  | d :: ds, bs, e => by
    cases d with
    | int b =>
      obtain ⟨cs, h1, h2⟩ := Option.map_eq_some_iff.mp e
      rw [← h2, toInts_eq h1]
      rfl
    | _ => cases e
theorem ints_of {F : Hp} : ∀ {vs : List V} {ds : List D} {bs : List Int}, ds = bs.map D.int → Reps X.K S.ft S.ac F vs ds → vs = bs.map V.int
  | _, _, [], e, r => by
    subst e
    cases r
    rfl
  | _, _, b :: bs, e, r => by
    subst e
    cases r with
    | cons h t =>
      have q : ∀ {v : V}, Rep X.K S.ft S.ac F v (.int b) → v = .int b := fun h => by cases h; rfl
      rw [q h, ints_of (bs := bs) rfl t]
      rfl
theorem cl_sum (hc : X.calm = true) : ClT X S (.builtin "sum") pSum := fun F H c x dx r Q w rx e k => by
  cases dx with
  | lst xs =>
    obtain ⟨bs, h1, rfl⟩ := Option.map_eq_some_iff.mp e
    obtain ⟨a, vs, rfl, h, rs⟩ := t_lst w rx
    have e := ints_of (toInts_eq h1) rs
    subst e
    exact wCl_of (cr_sum hc) ⟨a, bs, rfl, SqL.of h, k _ F H (Gr.refl _ _ _ _) w (.int _)⟩
  | _ => cases e
theorem maxI_mem : ∀ (ns : List Int), ns ≠ [] → maxI ns ∈ ns ∧ ∀ y ∈ ns, y ≤ maxI ns
  | [], h => absurd rfl h
  | [x], _ => ⟨List.mem_singleton.mpr rfl, fun y hy => by rw [List.mem_singleton.mp hy]; exact Int.le_refl _⟩
  | x :: y :: r, _ => by
    obtain ⟨h1, h2⟩ := maxI_mem (y :: r) (fun z => nomatch z)
    have e : maxI (x :: y :: r) = max x (maxI (y :: r)) := rfl
    rw [e]
    refine ⟨?_, fun z hz => ?_⟩
    · rcases Int.le_total x (maxI (y :: r)) with h | h
      · rw [Int.max_eq_right h]; exact List.mem_cons_of_mem _ h1
      · rw [Int.max_eq_left h]; exact List.mem_cons_self ..
    · rcases List.mem_cons.mp hz with rfl | hz
      · omega
      · have := h2 z hz; omega
theorem minI_mem : ∀ (ns : List Int), ns ≠ [] → minI ns ∈ ns ∧ ∀ y ∈ ns, minI ns ≤ y
  | [], h => absurd rfl h
  | [x], _ => ⟨List.mem_singleton.mpr rfl, fun y hy => by rw [List.mem_singleton.mp hy]; exact Int.le_refl _⟩
  | x :: y :: r, _ => by
    obtain ⟨h1, h2⟩ := minI_mem (y :: r) (fun z => nomatch z)
    have e : minI (x :: y :: r) = min x (minI (y :: r)) := rfl
    rw [e]
    refine ⟨?_, fun z hz => ?_⟩
    · rcases Int.le_total x (minI (y :: r)) with h | h
      · rw [Int.min_eq_left h]; exact List.mem_cons_self ..
      · rw [Int.min_eq_right h]; exact List.mem_cons_of_mem _ h1
    · rcases List.mem_cons.mp hz with rfl | hz
      · omega
      · have := h2 z hz; omega
theorem ite_none {α : Type} {p : Prop} [Decidable p] {a r : α} (h : (if p then none else some a) = some r) : ¬p ∧ a = r := by
  by_cases q : p
  · rw [if_pos q] at h; cases h
  · rw [if_neg q] at h; exact ⟨q, Option.some.inj h⟩
theorem cl_maxL (hc : X.calm = true) : ClT X S (.builtin "max") pMaxL := fun F H c x dx r Q w rx e k => by
  cases dx with
  | lst xs =>
    obtain ⟨bs, h1, h2⟩ := Option.bind_eq_some_iff.mp e
    obtain ⟨hne, rfl⟩ := ite_none h2
    obtain ⟨a, vs, rfl, h, rs⟩ := t_lst w rx
    have e := ints_of (toInts_eq h1) rs
    subst e
    obtain ⟨q1, q2⟩ := maxI_mem bs hne
    refine wCl_of (cr_max hc) ⟨a, bs, rfl, SqL.of h, List.length_pos_iff.mpr hne, fun m h3 h4 => ?_⟩
    have e : m = maxI bs := Int.le_antisymm (q2 m h3) (h4 _ q1)
    rw [e]
    exact k _ F H (Gr.refl _ _ _ _) w (.int _)
  | _ => cases e
theorem cl_minL (hc : X.calm = true) : ClT X S (.builtin "min") pMinL := fun F H c x dx r Q w rx e k => by
  cases dx with
  | lst xs =>
    obtain ⟨bs, h1, h2⟩ := Option.bind_eq_some_iff.mp e
    obtain ⟨hne, rfl⟩ := ite_none h2
    obtain ⟨a, vs, rfl, h, rs⟩ := t_lst w rx
    have e := ints_of (toInts_eq h1) rs
    subst e
    obtain ⟨q1, q2⟩ := minI_mem bs hne
    refine wCl_of (cr_min hc) ⟨a, bs, rfl, SqL.of h, List.length_pos_iff.mpr hne, fun m h3 h4 => ?_⟩
    have e : m = minI bs := Int.le_antisymm (h4 _ q1) (q2 m h3)
    rw [e]
    exact k _ F H (Gr.refl _ _ _ _) w (.int _)
  | _ => cases e
end
end Mi
end

section
/-! MiH: what is walked. -/
namespace Mi
open PySem PySem.Spec PyProof.Rows L2
/-! ### sequences as sources -/
inductive Src where
  | l (a : Addr) | t (a : Addr) | s (x : Str)
def Src.v : Src → V
  | .l a => .ref a
  | .t a => .ref a
  | .s x => .str x
def Src.has (K : PySem.W.Frag) (H : Hp) : Src → List V → Prop
  | .l a, xs => SqL K H a xs
  | .t a, xs => SqT K H a xs
  | .s x, xs => xs = x.cps.toList.map fun c => V.str ⟨#[c]⟩
def Src.at (h : Heap) (it : Addr) (i : Nat) : Src → Prop
  | .l a => h.IsListIter it a i
  | .t a => h.IsTupleIter it a i
  | .s x => ∃ t, h.IsStrIter it (strIterType x) x t i
def Src.own : Src → List Addr
  | .l a => [a]
  | .t a => [a]
  | .s _ => []
theorem Src.has_mono {K : PySem.W.Frag} {F H : Hp} (l : Le F H) {S : Src} {xs : List V} (h : S.has K F xs) : S.has K H xs := by
  cases S with
  | l a => exact l.sqL h
  | t a => exact l.sqT h
  | s x => exact h
theorem Src.at_keep {h h' : Heap} {it : Addr} {i : Nat} {S : Src} (a : S.at h it i) (k : ∀ o, h.get? it = some o → h'.get? it = some o) : S.at h' it i := by
  cases S with
  | l a' => exact Heap.IsListIter.at a k
  | t a' => exact Heap.IsTupleIter.at a k
  | s x =>
    obtain ⟨t, o, ho, r⟩ := a
    exact ⟨t, o, k o ho, r⟩
theorem Src.at_obj {h : Heap} {it : Addr} {i : Nat} {S : Src} (a : S.at h it i) : ∃ o, h.get? it = some o ∧ ∀ v, o.data ≠ .cell v := by
  cases S with
  | l a' =>
    obtain ⟨o, e, _, d⟩ := a
    exact ⟨o, e, fun v q => by rw [d] at q; cases q⟩
  | t a' =>
    obtain ⟨o, e, _, d⟩ := a
    exact ⟨o, e, fun v q => by rw [d] at q; cases q⟩
  | s x =>
    obtain ⟨t, o, e, _, d⟩ := a
    exact ⟨o, e, fun v q => by rw [d] at q; cases q⟩
section
variable {X : Cx} {S : Sx} {pos p : Pos}
theorem vals_get' : ∀ {xs : List V} {us : List Value}, Vals xs us → ∀ {j : Nat} {u : Value}, us[j]? = some u → ∃ x, xs[j]? = some x ∧ RelV x u
  | _, _, .nil, j, u, e => by simp at e
  | _, _, .cons r _, 0, u, e => by
    simp at e
    subst e
    exact ⟨_, rfl, r⟩
  | _, _, .cons _ t, j + 1, u, e => by
    obtain ⟨x, h1, h2⟩ := vals_get' t (j := j) (by simpa using e)
    exact ⟨x, by simpa using h1, h2⟩
/-- what an iterator over it draws, as it stands now -/
theorem Src.draws {pins : List (Addr × Obj)} {σ : L2.St} {H : Hp} {s : Shared} (I : Inv X pins σ H s) (hc : X.calm = true) {A : Around} (hA : A.handled = none) {S : Src} {xs : List V} {it : Addr} {i : Nat} (h : S.has X.K H xs) (ha : S.at s.heap it i) (hn : ∀ a ∈ S.own, a ≠ it) :
    ∃ (n : Nat) (P : Nat → Value → Prop) (St : Nat → Heap → Prop), Draws X.prog X.w A it (it :: S.own) n P St ∧ St i s.heap ∧ n = xs.length ∧ (∀ j u, P j u → ∃ x, xs[j]? = some x ∧ RelV x u) ∧ ∀ j h', St j h' → S.at h' it j := by
  cases S with
  | l a =>
    obtain ⟨its, rv, pl, hz⟩ := I.list h
    refine ⟨_, _, _, Draws.list hA it a (hn a (List.mem_singleton.mpr rfl)) its.toArray, ⟨ha, pl.isList⟩, by rw [List.size_toArray, rv.length], fun j u e => vals_get' rv (by simpa using e), fun j h' q => q.1⟩
  | t a =>
    obtain ⟨its, rv, pl, hz⟩ := I.tuple h
    refine ⟨_, _, _, Draws.tuple hA it a (hn a (List.mem_singleton.mpr rfl)) its.toArray, ⟨ha, pl⟩, by rw [List.size_toArray, rv.length], fun j u e => vals_get' rv (by simpa using e), fun j h' q => q.1⟩
  | s x =>
    obtain ⟨t, ha⟩ := ha
    refine ⟨_, _, _, Draws.text hA it x t, ha, ?_, fun j u ⟨c, t', e, q⟩ => ?_, fun j h' q => ⟨t, q⟩⟩
    · rw [show xs = _ from h, List.length_map, Array.length_toList]
    · refine ⟨V.str ⟨#[c]⟩, ?_, t', q⟩
      rw [show xs = _ from h, List.getElem?_map, Array.getElem?_toList, e]
      rfl
theorem Src.inj {pins : List (Addr × Obj)} {σ : L2.St} {H : Hp} {s : Shared} (I : Inv X pins σ H s) {S : Src} {xs ys : List V} (h : S.has X.K H xs) (k : S.has X.K H ys) : xs = ys := by
  cases S with
  | l a => exact I.list_inj h k
  | t a => exact I.tuple_inj h k
  | s x => exact (show xs = _ from h).trans (show ys = _ from k).symm
theorem Src.lt {pins : List (Addr × Obj)} {σ : L2.St} {H : Hp} {s : Shared} (I : Inv X pins σ H s) {S : Src} {xs : List V} (h : S.has X.K H xs) : ∀ a ∈ S.own, a < s.heap.objs.size := fun b hb => by
  cases S with
  | l a =>
    rw [List.mem_singleton.mp hb]
    obtain ⟨its, rv, pl, hz⟩ := I.list h
    exact pl.lt
  | t a =>
    rw [List.mem_singleton.mp hb]
    obtain ⟨its, rv, ⟨o, e, _⟩, hz⟩ := I.tuple h
    exact Heap.lt_size e
  | s x => cases hb
/-- iter(v) -/
theorem Src.begins {pins : List (Addr × Obj)} {σ : L2.St} {H : Hp} {s : Shared} {u : Value} (I : Inv X pins σ H s) {S : Src} {xs : List V} (h : S.has X.K H xs) (r : RelV S.v u) :
    ∃ (o : Obj) (Hc : Heap → Prop), Begins u o Hc ∧ Hc s.heap ∧ ∀ (h' : Heap) (it : Addr), h'.get? it = some o → S.at h' it 0 := by
  cases S with
  | l a =>
    cases r
    obtain ⟨its, rv, pl, hz⟩ := I.list h
    exact ⟨_, _, begins_list a its.toArray, pl.isList, fun h' it e => ⟨_, e, rfl, rfl⟩⟩
  | t a =>
    cases r
    obtain ⟨its, rv, pl, hz⟩ := I.tuple h
    exact ⟨_, _, begins_tuple a its.toArray, pl, fun h' it e => ⟨_, e, rfl, rfl⟩⟩
  | s x =>
    obtain ⟨t, rfl⟩ := r
    exact ⟨_, _, begins_text x t, trivial, fun h' it e => ⟨t, _, e, rfl, rfl⟩⟩

/-! ### enumerate -/
def ItE (K : PySem.W.Frag) (S : Src) : It :=
  ⟨fun i H => ∃ (xs : List V) (x : V), S.has K H xs ∧ xs[i]? = some x, fun i H v H' => ∃ T x, v = .ref T ∧ H T = none ∧ H' = upd H T (.tup [.int (i : Nat), x]) ∧ ∀ xs, S.has K H xs → xs[i]? = some x, fun i H => ∃ xs : List V, S.has K H xs ∧ xs.length = i⟩
theorem turn_E {P : Program} {w : World} {K : PySem.W.Frag} {elts : List Expr} {kk : Nat} {tpos : Pos} (S : Src) (e it : Addr) (hne : e ≠ it) (hoe : ∀ a ∈ S.own, a ≠ e) (hoi : ∀ a ∈ S.own, a ≠ it) :
    Turn P w K (.Tuple elts kk tpos) (ItE K S) [e, it] e (fun i h => (∃ old, IsEnum h e it ((i : Nat) : Int) old) ∧ S.at h it i) where
  mem := by simp
  obj := fun i h st b hb => by
    obtain ⟨⟨old, he⟩, ha⟩ := st
    rcases List.mem_cons.mp hb with z | z
    · rw [z]; exact ⟨_, he, fun v q => nomatch q⟩
    · rw [List.mem_singleton.mp z]; exact Src.at_obj ha
  keep := fun i h h' st k => let ⟨⟨old, he⟩, hi⟩ := st; ⟨⟨old, k e (by simp) _ he⟩, Src.at_keep hi fun o q => k it (by simp) o q⟩
  item := by
    intro X hP hw hK hc i pins s σ H E I hf st hg
    subst hP hw hK
    obtain ⟨⟨old, he⟩, hit⟩ := st
    obtain ⟨xs, x, hq, hx⟩ := hg
    have hel : e < s.heap.objs.size := Heap.lt_size he
    have hil : it < s.heap.objs.size := by obtain ⟨_, q, _⟩ := Src.at_obj hit; exact Heap.lt_size q
    obtain ⟨n, Pd, St, Dr, st, hn, hP, hS⟩ := Src.draws I hc (A := X.A.in1) (I.ok.hd hc) hq hit hoi
    have hlt : i < n := by rw [hn]; exact (List.getElem?_eq_some_iff.mp hx).1
    refine wpAny_pyNext_enum_itemC Dr he st hlt hne (fun hm => ?_) fun u h' tk hu ho st' hT hsz hk => ?_
    · rcases List.mem_cons.mp hm with z | z
      · exact hne z
      · exact hoe e z rfl
    obtain ⟨x', hx', ru⟩ := hP i u hu
    have hxx : x' = x := Option.some.inj (hx'.symm.trans hx)
    subst hxx
    refine ⟨_, rfl, wpAny_letOwnedTupleGo_enum (s := { s with heap := h', toks := tk + 1 }) ho fun h'' he' sb => ?_⟩
    have hT2 : h''.get? s.heap.objs.size = some { cls := .type "tuple", data := .seq #[.int i tk, u] } := (sb.2 _ (Nat.ne_of_gt hel)).trans hT
    have new : ObjOk X.prog X.w (upd H s.heap.objs.size (.tup [.int (i : Nat), x'])) h'' s.heap.objs.size (.tup [.int (i : Nat), x']) :=
      ⟨by show 2 ≤ sizeLine; decide, [.int i tk, u], .cons ⟨_, rfl⟩ (.cons ru .nil), ⟨_, hT2, rfl, _, rfl⟩⟩
    have I1 : Inv X pins σ (upd H s.heap.objs.size (.tup [.int (i : Nat), x'])) { s with heap := h'', toks := tk + 1 } :=
      I.turnedNew (ch := [e, it]) (fun b ob hb q => (sb.2 b (fun z => hb (by simp [z]))).trans (hk b ob (fun z => hb (by simp [z])) (fun z => hb (by simp [z])) q)) hf (Nat.le_refl _) new
    refine ⟨.ref s.heap.objs.size, _, I1, rfl, ⟨_, x', rfl, I.hok.fresh (Nat.le_refl _), rfl, fun ys hy => by rw [Src.inj I hy hq]; exact hx⟩, ⟨⟨u, ?_⟩, Src.at_keep (hS _ _ st') fun o q => (sb.2 it (Ne.symm hne)).trans q⟩, fun b hb => ?_⟩
    · have e1 : ((i + 1 : Nat) : Int) = (i : Int) + 1 := by omega
      rw [e1]; exact he'
    · have hb' : b < s.heap.objs.size := by
        rcases List.mem_cons.mp hb with z | z
        · rw [z]; exact hel
        · rw [List.mem_singleton.mp z]; exact hil
      rw [upd_ne (Nat.ne_of_lt hb')]
      exact (hf b hb).1
  done := by
    intro X hP hw hK hc i pins s σ H E I hf st hg
    subst hP hw hK
    obtain ⟨⟨old, he⟩, hit⟩ := st
    obtain ⟨xs, hq, hx⟩ := hg
    obtain ⟨n, Pd, St, Dr, st, hn, hP, hS⟩ := Src.draws I hc (A := X.A.in1) (I.ok.hd hc) hq hit hoi
    obtain ⟨f0, f1, f2, f3, f4, f5⟩ := hf it (by simp)
    have hni : n = i := hn.trans hx
    subst hni
    exact wpAny_pyNext_enum_endD Dr he st fun h' eb => ⟨rfl, I.turned (t' := s.toks) (fun b o hb q => eb b o hb q) f0 f1 f3 f4 f5⟩
  self := fun A i s Q E st h => let ⟨⟨_, he⟩, _⟩ := st; wpAny_pyIter_enum he h
theorem meets_enum1 {v : Value} {o : Obj} {H : Heap → Prop} (B : Begins v o H) :
    Meets (Builtin.«enumerate.__new__» ⟨[.type "enumerate", v], []⟩) (fun _ R s => H s.heap ∧
      R (.ok (.ret (.ref (s.heap.push o).objs.size))) { s with heap := (s.heap.push o).push { cls := .type "enumerate", data := .fields #[.none, .bool false, .ref s.heap.objs.size, rawInt 0, .none, .none] } }) :=
  .of_wp fun prog w A R s h => by
    obtain ⟨hp, g, d, tk, os⟩ := s; obtain ⟨h1, h⟩ := h
    have hsub := sub_enumerate
    have q1 : ∀ {A' : Around} {E : Value → Shared → Prop} {Q : Value → Shared → Prop}, Q (.ref hp.objs.size) ⟨hp.push o, g, d, tk, os⟩ → wpAny (model prog w) A' (pyIter v) Q E ⟨hp, g, d, tk, os⟩ :=
      fun q => B.iter prog w _ _ ⟨hp, g, d, tk, os⟩ _ h1 q
    wp_walk using q1
    refine wpAny_stack_any fun st => wpAny_pure ?_
    split
    · rename_i c _ _ _ _ _
      cases (c == Value.type "enumerate")
      · wp_walk using q1
        exact ⟨_, rfl, h⟩
      · wp_walk using q1
        exact ⟨_, rfl, h⟩
    · wp_walk using q1
      exact ⟨_, rfl, h⟩
theorem enum1 {prog : Program} {w : World} {A : Around} {E : Value → Shared → Prop} {s : Shared} {v : Value} {o : Obj} {H : Heap → Prop} {Q : Value → Shared → Prop} (B : Begins v o H) (h1 : H s.heap)
    (h : ∀ h', IsEnum h' (s.heap.objs.size + 1) s.heap.objs.size 0 .none → h'.get? s.heap.objs.size = some o → (∀ b o, s.heap.get? b = some o → h'.get? b = some o) → Q (.ref (s.heap.objs.size + 1)) { s with heap := h' }) :
    wpAny (model prog w) A (call (.type "enumerate") [v]) Q E s := by
  refine callType_new F.called_enumerate (by decide) (F.typeCall_enumerate_1 _) (F.newCall_enumerate_1 _) (fun obj => F.args_object_init_2 obj _) F.entry_enumerate_new
    (meets_enum1 B) ⟨h1, ?_⟩
  have hz : (s.heap.push o).objs.size = s.heap.objs.size + 1 := Heap.size_push ..
  show _ ∧ _
  rw [hz]
  have he : IsEnum ((s.heap.push o).push { cls := .type "enumerate", data := .fields #[.none, .bool false, .ref s.heap.objs.size, rawInt 0, .none, .none] }) (s.heap.objs.size + 1) s.heap.objs.size 0 .none := by
    have q := Heap.get?_push_size (s.heap.push o) (o := { cls := .type "enumerate", data := .fields #[.none, .bool false, .ref s.heap.objs.size, rawInt 0, .none, .none] }) rfl
    rw [hz] at q; exact q
  exact ⟨⟨_, he, rfl⟩, h _ he (Heap.get?_push_of_some _ (Heap.get?_push_size _ B.free)) fun b o x => Heap.get?_push_of_some _ (Heap.get?_push_of_some _ x)⟩

/-! ### zip -/
def ItZ (K : PySem.W.Frag) (S T : Src) : It :=
  ⟨fun i H => ∃ (xs ys : List V) (x y : V), S.has K H xs ∧ T.has K H ys ∧ xs[i]? = some x ∧ ys[i]? = some y,
    fun i H v H' => ∃ a x y, v = .ref a ∧ H a = none ∧ H' = upd H a (.tup [x, y]) ∧ (∀ xs, S.has K H xs → xs[i]? = some x) ∧ ∀ ys, T.has K H ys → ys[i]? = some y,
    fun i H => ∃ xs ys : List V, S.has K H xs ∧ T.has K H ys ∧ i = min xs.length ys.length⟩
theorem turn_Z {P : Program} {w : World} {K : PySem.W.Frag} {elts : List Expr} {kk : Nat} {tpos : Pos} {S T : Src} {z TI TO i1 i2 : Addr} (D : ZipSep2 z TI TO i1 i2 (i1 :: S.own) (i2 :: T.own)) (h1o : ∀ a ∈ S.own, a ≠ i1) (h2o : ∀ a ∈ T.own, a ≠ i2) :
    Turn P w K (.Tuple elts kk tpos) (ItZ K S T) [z, TI, TO, i1, i2] z (fun i h => IsZip h z TI TO .none ∧ IsTupOf2 h TI (.ref i1) (.ref i2) ∧ (∃ x y, IsTupOf2 h TO x y) ∧ S.at h i1 i ∧ T.at h i2 i) where
  mem := by simp
  obj := fun i h st c hc => by
    obtain ⟨hz, hTI, ⟨x, y, hTO⟩, a1, a2⟩ := st
    have e' : c = z ∨ c = TI ∨ c = TO ∨ c = i1 ∨ c = i2 := by simpa using hc
    rcases e' with q | q | q | q | q
    · rw [q]; exact ⟨_, hz, fun v q => nomatch q⟩
    · rw [q]; exact ⟨_, hTI, fun v q => nomatch q⟩
    · rw [q]; exact ⟨_, hTO, fun v q => nomatch q⟩
    · rw [q]; exact Src.at_obj a1
    · rw [q]; exact Src.at_obj a2
  keep := fun i h h' st k => by
    obtain ⟨hz, hTI, ⟨x, y, hTO⟩, a1, a2⟩ := st
    exact ⟨k z (by simp) _ hz, k TI (by simp) _ hTI, ⟨x, y, k TO (by simp) _ hTO⟩, Src.at_keep a1 fun o q => k i1 (by simp) o q, Src.at_keep a2 fun o q => k i2 (by simp) o q⟩
  item := by
    intro X hP hw hK hc i pins s σ H E I hf st hg
    subst hP hw hK
    obtain ⟨hz, hTI, ⟨x0, y0, hTO⟩, a1, a2⟩ := st
    obtain ⟨xs, ys, x, y, hqx, hqy, hx, hy⟩ := hg
    have hzl : z < s.heap.objs.size := Heap.lt_size hz
    obtain ⟨n1, P1, St1, D1, s1, hn1, hP1, hS1⟩ := Src.draws I hc (A := X.A.in1) (I.ok.hd hc) hqx a1 h1o
    obtain ⟨n2, P2, St2, D2, s2, hn2, hP2, hS2⟩ := Src.draws I hc (A := X.A.in1) (I.ok.hd hc) hqy a2 h2o
    refine wpAny_pyNext_zipD2_item D D1 D2 hz hTI hTO s1 s2 (by rw [hn1]; exact (List.getElem?_eq_some_iff.mp hx).1) (by rw [hn2]; exact (List.getElem?_eq_some_iff.mp hy).1) fun u1 u2 h' tk p1 p2 z' TO' t1 t2 hT hsz hk => ?_
    obtain ⟨x', hx', ru1⟩ := hP1 i u1 p1
    obtain ⟨y', hy', ru2⟩ := hP2 i u2 p2
    cases (show x' = x from Option.some.inj (hx'.symm.trans hx))
    cases (show y' = y from Option.some.inj (hy'.symm.trans hy))
    refine ⟨_, rfl, wpAny_letOwnedTupleGo_zip (s := { s with heap := h', toks := tk }) z' fun h'' z'' sb => ?_⟩
    have hT2 : h''.get? s.heap.objs.size = some { cls := .type "tuple", data := .seq #[u1, u2] } := (sb.2 _ (Nat.ne_of_gt hzl)).trans hT
    have new : ObjOk X.prog X.w (upd H s.heap.objs.size (.tup [x, y])) h'' s.heap.objs.size (.tup [x, y]) :=
      ⟨by show 2 ≤ sizeLine; decide, [u1, u2], .cons ru1 (.cons ru2 .nil), ⟨_, hT2, rfl, _, rfl⟩⟩
    have I1 : Inv X pins σ (upd H s.heap.objs.size (.tup [x, y])) { s with heap := h'', toks := tk } :=
      I.turnedNew (t' := tk) (ch := [z, TI, TO, i1, i2]) (fun c o hb q => (sb.2 c (fun q' => hb (by simp [q']))).trans (hk c o (fun q' => hb (by simp [q'])) (fun q' => hb (by simp [q'])) (fun q' => hb (by simp [q'])) (fun q' => hb (by simp [q'])) q)) hf (Nat.le_refl _) new
    have l1 : i1 < s.heap.objs.size := by obtain ⟨_, q, _⟩ := Src.at_obj a1; exact Heap.lt_size q
    have l2 : i2 < s.heap.objs.size := by obtain ⟨_, q, _⟩ := Src.at_obj a2; exact Heap.lt_size q
    refine ⟨.ref s.heap.objs.size, _, I1, rfl, ⟨_, x, y, rfl, I.hok.fresh (Nat.le_refl _), rfl, fun l hl => by rw [Src.inj I hl hqx]; exact hx, fun l hl => by rw [Src.inj I hl hqy]; exact hy⟩, ⟨z'', ?_, ⟨u1, u2, ?_⟩, ?_, ?_⟩, fun c hcm => ?_⟩
    · exact (sb.2 _ D.TIz).trans (hk _ _ D.TIz D.TITO D.TIi1 D.TIi2 hTI)
    · exact (sb.2 _ D.TOz).trans TO'
    · exact Src.at_keep (hS1 _ _ t1) fun o q => (sb.2 _ (Ne.symm D.zi1)).trans q
    · exact Src.at_keep (hS2 _ _ t2) fun o q => (sb.2 _ (Ne.symm D.zi2)).trans q
    · have hlt : c < s.heap.objs.size := by
        have e' : c = z ∨ c = TI ∨ c = TO ∨ c = i1 ∨ c = i2 := by simpa using hcm
        rcases e' with q | q | q | q | q
        · rw [q]; exact hzl
        · rw [q]; exact Heap.lt_size hTI
        · rw [q]; exact Heap.lt_size hTO
        · rw [q]; exact l1
        · rw [q]; exact l2
      rw [upd_ne (Nat.ne_of_lt hlt)]
      exact (hf c hcm).1
  done := by
    intro X hP hw hK hc i pins s σ H E I hf st hg
    subst hP hw hK
    obtain ⟨hz, hTI, ⟨x0, y0, hTO⟩, a1, a2⟩ := st
    obtain ⟨xs, ys, hqx, hqy, hend⟩ := hg
    obtain ⟨n1, P1, St1, D1, s1, hn1, hP1, hS1⟩ := Src.draws I hc (A := X.A.in1) (I.ok.hd hc) hqx a1 h1o
    obtain ⟨n2, P2, St2, D2, s2, hn2, hP2, hS2⟩ := Src.draws I hc (A := X.A.in1) (I.ok.hd hc) hqy a2 h2o
    exact wpAny_pyNext_zipD2_end D D1 D2 hz hTI hTO s1 s2 (by omega) (by omega) (by omega) fun h' tk hk => ⟨rfl, I.turnedL (t' := tk) (ch := [z, TI, TO, i1, i2]) (fun c o hb q =>
      hk c o (fun q' => hb (by simp [q'])) (fun q' => hb (by simp [q'])) (fun q' => hb (by simp [q'])) (fun q' => hb (by simp [q'])) q) hf⟩
  self := fun A i s Q E st h => wpAny_pyIter_zip st.1 h
end
end Mi
end

section
/-! MiI: loops' sources by data. -/
namespace Mi
open PySem PySem.Spec PyProof.Rows L2
def twI (X : Cx) (tg e : Expr) : TI := fun σ H R => ∀ (pins : List (Addr × Obj)) (s : Shared), Inv X pins σ H s →
  wpAny (model X.prog X.w) X.A (eval e X.env) (fun v s1 => wpAny (model X.prog X.w) X.A (pyIter v) (PIE X pins σ tg R) X.xe s1) X.xe s
theorem pi_tw {X : Cx} {tg e : Expr} : PI X tg e (twI X tg e) := ⟨fun pins s _ _ _ I h => h pins s I⟩
theorem twI_of {X : Cx} {tg e : Expr} {t : TI} (h : PI X tg e t) {σ : L2.St} {H : Hp} {R : It → Hp → Prop} (q : t σ H R) : twI X tg e σ H R := fun pins s I => h.run pins s σ H R I q
/-- the stream J gives the data ds, where F0's objects stand -/
structure Strm (K : PySem.W.Frag) (S : Sx) (J : It) (F0 : Hp) (ds : List D) : Prop where
  stop : ∀ (c : Cup) (F H : Hp), Le F0 F → Wd F S.ac c H → J.stop ds.length H
  go : ∀ (i : Nat) (c : Cup) (F H : Hp), i < ds.length → Le F0 F → Wd F S.ac c H → J.go i H
  yld : ∀ (i : Nat) (d : D) (c : Cup) (F H : Hp) (x : V) (H' : Hp), ds[i]? = some d → Le F0 F → Wd F S.ac c H → J.yld i H x H' → ∃ F', Gr S.ac c c F H F' H' ∧ Wd F' S.ac c H' ∧ Rep K S.ft S.ac F' x d
structure SI (X : Cx) (S : Sx) (tg pi : Expr) (it : IV) : Prop where
  run : ∀ (ρ : Env) (c : Cup) (F H : Hp) (σ : L2.St) (R : It → Hp → Prop), Wd F S.ac c H → EnvR X.K S F c H σ ρ → Pst S F c H (it ρ c) (fun ds _ F' H' => ∀ J, Strm X.K S J F' ds → R J H') → twI X tg pi σ H R
section
variable {K : PySem.W.Frag} {S : Sx} {F : Hp}
theorem strm_l {a : Addr} {xs : List V} {ds : List D} (h : SqL K F a xs) (r : Reps K S.ft S.ac F xs ds) : Strm K S (Itl K a) F ds where
  stop := fun c F1 H l w => ⟨xs, w.fh.sqL (l.sqL h), by rw [r.length]; exact Nat.le_refl _⟩
  go := fun i c F1 H hi l w => by
    rw [← r.length] at hi
    exact ⟨xs, xs[i], w.fh.sqL (l.sqL h), List.getElem?_eq_getElem hi⟩
  yld := fun i d c F1 H x H' hd l w y => by
    obtain ⟨rfl, y⟩ := y
    obtain ⟨v, h1, h2⟩ := r.get hd
    cases (show v = x from Option.some.inj (h1.symm.trans (y xs (w.fh.sqL (l.sqL h)))))
    exact ⟨F1, Gr.refl _ _ _ _, w, h2.mono l⟩
theorem strm_t {a : Addr} {xs : List V} {ds : List D} (h : SqT K F a xs) (r : Reps K S.ft S.ac F xs ds) : Strm K S (Itt K a) F ds where
  stop := fun c F1 H l w => ⟨xs, w.fh.sqT (l.sqT h), by rw [r.length]; exact Nat.le_refl _⟩
  go := fun i c F1 H hi l w => by
    rw [← r.length] at hi
    exact ⟨xs, xs[i], w.fh.sqT (l.sqT h), List.getElem?_eq_getElem hi⟩
  yld := fun i d c F1 H x H' hd l w y => by
    obtain ⟨rfl, y⟩ := y
    obtain ⟨v, h1, h2⟩ := r.get hd
    cases (show v = x from Option.some.inj (h1.symm.trans (y xs (w.fh.sqT (l.sqT h)))))
    exact ⟨F1, Gr.refl _ _ _ _, w, h2.mono l⟩
theorem strm_s {s : List Nat} (ok : OkS s) : Strm K S (Its (mkS s)) F (s.map fun c => D.str [c]) where
  stop := fun c F1 H l w => by
    show (mkS s).cps.size ≤ (s.map fun c => D.str [c]).length
    simp [mkS]
  go := fun i c F1 H hi l w => by
    show i < (mkS s).cps.size
    simpa [mkS] using hi
  yld := fun i d c F1 H x H' hd l w y => by
    obtain ⟨rfl, c', hc, rfl⟩ := y
    rw [List.getElem?_map] at hd
    obtain ⟨c2, h1, rfl⟩ := Option.map_eq_some_iff.mp hd
    have h2 : s[i]? = some c' := by simpa [mkS] using hc
    cases (show c2 = c' from Option.some.inj (h1.symm.trans h2))
    exact ⟨F1, Gr.refl _ _ _ _, w, .str [c'] (ok.mem (List.mem_of_getElem? h2))⟩
theorem ints_len : ∀ (lo : Int) (n : Nat), (intsD lo n).length = n
  | _, 0 => rfl
  | lo, n + 1 => by rw [intsD, List.length_cons, ints_len]
theorem ints_get : ∀ (lo : Int) (n i : Nat), i < n → (intsD lo n)[i]? = some (.int (lo + i))
  | _, 0, _, h => by omega
  | lo, n + 1, 0, _ => by rw [intsD]; simp
  | lo, n + 1, i + 1, h => by
    rw [intsD, List.getElem?_cons_succ, ints_get (lo + 1) n i (by omega)]
    congr 2
    push_cast
    omega
theorem keys_repsS {F : Hp} : ∀ {ks : List (Key × V)} {ds : List (D × D)}, RepKs K S.ft S.ac F ks ds → ∀ (i : Nat) (d : D) (k : Key) (v : V), (ds.map (·.1))[i]? = some d → ks[i]? = some (k, v) → Rep K S.ft S.ac F (kV k) d
  | _, _, .nil, _, _, _, _, _, h => by simp at h
  | _, _, .cons hk _ t, 0, d, k, v, h1, h2 => by
    simp at h1 h2
    obtain ⟨rfl, _⟩ := h2
    subst h1
    cases hk with
    | int i => exact .int i
    | str s ok => exact .str s ok
  | _, _, .cons hk _ t, i + 1, d, k, v, h1, h2 => keys_repsS t i d k v (by simpa using h1) (by simpa using h2)
theorem strm_k {a : Addr} {o : Obj} {ks : List (Key × V)} {ds : List (D × D)} (h : F a = some (.frz o (.dK ks))) (r : RepKs K S.ft S.ac F ks ds) : Strm K S (Itk a o ks) F (ds.map (·.1)) where
  stop := fun c F1 H l w => ⟨w.fh _ _ (l _ _ h), by rw [List.length_map, ← r.length]; exact Nat.le_refl _⟩
  go := fun i c F1 H hi l w => ⟨w.fh _ _ (l _ _ h), by rwa [List.length_map, ← r.length] at hi⟩
  yld := fun i d c F1 H x H' hd l w y => by
    obtain ⟨rfl, k, v, hk, rfl⟩ := y
    exact ⟨F1, Gr.refl _ _ _ _, w, (keys_repsS r i d k v hd hk).mono l⟩
theorem strm_r {lo : Int} {n : Nat} : Strm K S (Itr lo n) F (intsD lo n) where
  stop := fun c F1 H l w => by
    show n ≤ (intsD lo n).length
    rw [ints_len]
    exact Nat.le_refl _
  go := fun i c F1 H hi l w => by
    rw [ints_len] at hi
    exact hi
  yld := fun i d c F1 H x H' hd l w y => by
    obtain ⟨rfl, rfl⟩ := y
    have hi : i < n := by
      have := (List.getElem?_eq_some_iff.mp hd).1
      rwa [ints_len] at this
    rw [ints_get lo n i hi] at hd
    cases hd
    exact ⟨F1, Gr.refl _ _ _ _, w, .int _⟩
theorem enum_len : ∀ (i : Int) (ds : List D), (enumD i ds).length = ds.length
  | _, [] => rfl
  | i, d :: ds => by rw [enumD, List.length_cons, List.length_cons, enum_len]
theorem enum_get : ∀ (k : Int) (ds : List D) (i : Nat) (d : D), ds[i]? = some d → (enumD k ds)[i]? = some (.tup [.int (k + i), d])
  | _, [], _, _, h => by simp at h
  | k, x :: ds, 0, d, h => by
    simp at h
    subst h
    rw [enumD]
    simp
  | k, x :: ds, i + 1, d, h => by
    rw [enumD, List.getElem?_cons_succ, enum_get (k + 1) ds i d (by simpa using h)]
    have : k + 1 + (i : Int) = k + ((i + 1 : Nat) : Int) := by push_cast; omega
    rw [this]
theorem strm_E {Sr : Src} {xs : List V} {ds : List D} (h : Sr.has K F xs) (r : Reps K S.ft S.ac F xs ds) : Strm K S (ItE K Sr) F (enumD 0 ds) where
  stop := fun c F1 H l w => ⟨xs, Src.has_mono w.fh (Src.has_mono l h), by rw [enum_len, r.length]⟩
  go := fun i c F1 H hi l w => by
    rw [enum_len, ← r.length] at hi
    exact ⟨xs, xs[i], Src.has_mono w.fh (Src.has_mono l h), List.getElem?_eq_getElem hi⟩
  yld := fun i d c F1 H x H' hd l w y => by
    obtain ⟨T, u, rfl, hT, rfl, y⟩ := y
    have hi : i < ds.length := by
      have := (List.getElem?_eq_some_iff.mp hd).1
      rwa [enum_len] at this
    have hd2 : ds[i]? = some ds[i] := List.getElem?_eq_getElem hi
    rw [enum_get 0 ds i _ hd2] at hd
    cases hd
    obtain ⟨v, h1, h2⟩ := r.get hd2
    cases (show v = u from Option.some.inj (h1.symm.trans (y xs (Src.has_mono w.fh (Src.has_mono l h)))))
    refine ⟨upd F1 T (.tup [.int (i : Nat), u]), Gr.laid w.fh hT, w.laid hT _, .tup (SqT.of upd_same) ?_⟩
    have e : (0 : Int) + (i : Int) = ((i : Nat) : Int) := by omega
    rw [e]
    exact .cons (.int _) (.cons ((h2.mono l).mono (Le.new (w.free hT))) .nil)
theorem zip_len : ∀ (xs ys : List D), (zipD xs ys).length = min xs.length ys.length
  | [], ys => by cases ys <;> simp [zipD]
  | x :: xs, [] => by simp [zipD]
  | x :: xs, y :: ys => by rw [zipD, List.length_cons, zip_len xs ys, List.length_cons, List.length_cons]; omega
theorem zip_get : ∀ (xs ys : List D) (i : Nat) (x y : D), xs[i]? = some x → ys[i]? = some y → (zipD xs ys)[i]? = some (.tup [x, y])
  | [], _, _, _, _, h, _ => by simp at h
  | _ :: _, [], _, _, _, _, h => by simp at h
  | a :: xs, b :: ys, 0, x, y, h1, h2 => by
    simp at h1 h2
    subst h1 h2
    rw [zipD]
    simp
  | a :: xs, b :: ys, i + 1, x, y, h1, h2 => by
    rw [zipD, List.getElem?_cons_succ]
    exact zip_get xs ys i x y (by simpa using h1) (by simpa using h2)
theorem strm_Z {Sr Tr : Src} {xs ys : List V} {ds es : List D} (h : Sr.has K F xs) (r : Reps K S.ft S.ac F xs ds) (h' : Tr.has K F ys) (r' : Reps K S.ft S.ac F ys es) : Strm K S (ItZ K Sr Tr) F (zipD ds es) where
  stop := fun c F1 H l w => ⟨xs, ys, Src.has_mono w.fh (Src.has_mono l h), Src.has_mono w.fh (Src.has_mono l h'), by rw [zip_len, r.length, r'.length]⟩
  go := fun i c F1 H hi l w => by
    rw [zip_len, ← r.length, ← r'.length] at hi
    have h1 : i < xs.length := by omega
    have h2 : i < ys.length := by omega
    exact ⟨xs, ys, xs[i], ys[i], Src.has_mono w.fh (Src.has_mono l h), Src.has_mono w.fh (Src.has_mono l h'), List.getElem?_eq_getElem h1, List.getElem?_eq_getElem h2⟩
  yld := fun i d c F1 H x H' hd l w y => by
    obtain ⟨T, u, u', rfl, hT, rfl, y, y'⟩ := y
    have hi : i < min ds.length es.length := by
      have := (List.getElem?_eq_some_iff.mp hd).1
      rwa [zip_len] at this
    have hd2 : ds[i]? = some (ds[i]'(by omega)) := List.getElem?_eq_getElem _
    have hd3 : es[i]? = some (es[i]'(by omega)) := List.getElem?_eq_getElem _
    rw [zip_get ds es i _ _ hd2 hd3] at hd
    cases hd
    obtain ⟨v, h1, h2⟩ := r.get hd2
    obtain ⟨v', h1', h2'⟩ := r'.get hd3
    cases (show v = u from Option.some.inj (h1.symm.trans (y xs (Src.has_mono w.fh (Src.has_mono l h)))))
    cases (show v' = u' from Option.some.inj (h1'.symm.trans (y' ys (Src.has_mono w.fh (Src.has_mono l h')))))
    have m := Le.new (o := .tup [u, u']) (w.free hT)
    exact ⟨upd F1 T (.tup [u, u']), Gr.laid w.fh hT, w.laid hT _, .tup (SqT.of upd_same) (.cons ((h2.mono l).mono m) (.cons ((h2'.mono l).mono m) .nil))⟩
theorem signs_repsK : ∀ {s : List Nat}, OkS s → Reps K S.ft S.ac F (s.map fun c => V.str (mkS [c])) (s.map fun c => D.str [c])
  | [], _ => .nil
  | c :: s, h => .cons (.str [c] (h.mem (List.mem_cons_self ..))) (signs_repsK fun d hd => h d (List.mem_cons_of_mem _ hd))
theorem ints_repsK : ∀ {ns : List Int}, Reps K S.ft S.ac F (ns.map V.int) (ns.map D.int)
  | [] => .nil
  | n :: ns => .cons (.int n) ints_repsK
/-- a sequence is a source -/
theorem src_of {v : V} {d : D} {ds : List D} (h : Rep K S.ft S.ac F v d) (e : seqI d = some ds) : ∃ (Sr : Src) (xs : List V), v = Sr.v ∧ Sr.has K F xs ∧ Reps K S.ft S.ac F xs ds := by
  cases h with
  | str s ok =>
    cases e
    exact ⟨.s (mkS s), _, rfl, rfl, by
      have : (mkS s).cps.toList.map (fun c => V.str ⟨#[c]⟩) = s.map fun c => V.str (mkS [c]) := by rw [mkS_cps]; rfl
      rw [this]
      exact signs_repsK ok⟩
  | tup h r => cases e; exact ⟨.t _, _, rfl, h, r⟩
  | lst h r => cases e; exact ⟨.l _, _, rfl, SqL.of h, r⟩
  | _ => cases e
end
end Mi
end

section
/-! MiJ: loops' sources by expressions, targets, calls of own functions, comprehensions. -/
namespace Mi
open PySem PySem.Spec PyProof.Rows L2
section
variable {X : Cx} {S : Sx} {pos p : Pos} {tg : Expr}
theorem it_walk {pins : List (Addr × Obj)} {σ : L2.St} {F H : Hp} {c : Cup} {s : Shared} {v : V} {u : Value} {d : D} {ds : List D} {R : It → Hp → Prop} (I : Inv X pins σ H s) (w : Wd F S.ac c H) (rv : Rep X.K S.ft S.ac F v d) (e : walk d = some ds) (ru : RelV v u)
    (k : ∀ J, Strm X.K S J F ds → R J H) : wpAny (model X.prog X.w) X.A (pyIter u) (PIE X pins σ tg R) X.xe s := by
  have lst : ∀ (a : Addr) (xs : List V), SqL X.K H a xs → R (Itl X.K a) H → wpAny (model X.prog X.w) X.A (pyIter (.ref a)) (PIE X pins σ tg R) X.xe s := fun a xs hq q => by
    obtain ⟨its, r, pl, hz⟩ := I.list hq
    exact wpAny_pyIter_list pl.isList (pi_one (tk := s.toks) I _ (turn_list a _) ⟨_, Heap.get?_push_size _ rfl, rfl, rfl⟩ q)
  cases d with
  | str z =>
    cases rv with
    | str _ ok =>
      cases e
      obtain ⟨t, rfl⟩ := ru
      have q := k _ (strm_s ok)
      cases ha : (mkS z).cps.all (· < 128)
      · exact wpAny_pyIter_wide ha (pi_one (tk := s.toks) I _ (turn_str _ (mkS z) t "str_iterator" (.inr rfl)) ⟨_, Heap.get?_push_size _ rfl, rfl, rfl⟩ q)
      · exact wpAny_pyIter_ascii ha (pi_one (tk := s.toks) I _ (turn_str _ (mkS z) t "str_ascii_iterator" (.inl rfl)) ⟨_, Heap.get?_push_size _ rfl, rfl, rfl⟩ q)
  | tup xs =>
    cases rv with
    | tup h r =>
      cases e
      cases ru
      obtain ⟨its, r', pl, hz⟩ := I.tuple (w.fh.sqT h)
      exact wpAny_pyIter_tuple (show s.heap.IsTuple _ its.toArray from pl) (pi_one (tk := s.toks) I _ (turn_tuple _ _) ⟨_, Heap.get?_push_size _ rfl, rfl, rfl⟩ (k _ (strm_t h r)))
  | lst xs =>
    cases rv with
    | lst h r =>
      cases e
      cases ru
      exact lst _ _ (SqL.of (w.fh _ _ h)) (k _ (strm_l (SqL.of h) r))
  | scr ns =>
    cases rv with
    | scr h =>
      cases e
      cases ru
      refine lst _ _ (w.fh.sqL h) (k _ (strm_l h ?_))
      exact ints_repsK
  | dct kvs =>
    cases rv with
    | dct h r =>
      cases e
      cases ru
      obtain ⟨hs, hgd, hx, es, ep, vs, hdt, hsz, kv, hm⟩ := I.frzK (w.fh _ _ h)
      refine iter_keys hs hgd hx hdt (pi_one (tk := s.toks) I _ (turn_keys _ hdt) ⟨_, Heap.get?_push_size _ rfl, rfl, ?_⟩ (k _ (strm_k h r)))
      rw [hsz] <;> rfl
  | _ => cases e
theorem si_seq {pi : Expr} {e : EV} (h : SE X S pi e) : SI X S tg pi (iE e) := ⟨fun ρ c F H σ R w r p pins s I => by
  have q := h.run ρ c F H σ (fun v H1 => ∀ (pins : List (Addr × Obj)) (s : Shared) (u : Value), Inv X pins σ H1 s → RelV v u → wpAny (model X.prog X.w) X.A (pyIter u) (PIE X pins σ tg R) X.xe s) w r (p.bind.imp fun d c1 F1 H1 g1 w1 p1 v rv pins s u I ru => by
    obtain ⟨ds, e, k⟩ := p1.lift
    exact it_walk I w1 rv e ru (k F1 H1 (Gr.refl _ _ _ _) w1))
  exact thn (q pins s I) fun u s1 ⟨v, H1, I1, r1, q1⟩ => q1 pins s1 u I1 r1⟩
theorem okI_iff {i : Int} (h : okI i = true) : -(2 ^ 62) ≤ i ∧ i < 2 ^ 62 := by
  unfold okI at h
  rw [Bool.and_eq_true, decide_eq_true_eq, decide_eq_true_eq] at h
  exact h
theorem si_r1 {a : Expr} {ea : EV} (hg : Gl X "range") (hm : X.mg "range" = none) (ha : SB X S a ea) (hs : starEach [a] X.env = [(false, eval a X.env)] := by rfl) : SI X S tg (.Call (.Name "range" p) [a] [] pos) (iR1 ea) := ⟨fun ρ c F H σ R w r p => by
  refine twI_of (pi_range1 hg hm pa_tw hs) ?_
  refine (sa1 ha hs).run ρ c F H σ _ w r (p.bind.imp fun d c1 F1 H1 g1 w1 p1 v rv => ?_)
  cases d with
  | int j =>
    rw [t_int rv]
    by_cases h : okI j = true
    · have p1 : Pst S F1 c1 H1 (if okI j = true then .ok (intsD 0 j.toNat, c1) else .no) fun ds _ F' H' => ∀ J, Strm X.K S J F' ds → R J H' := p1
      rw [if_pos h] at p1
      obtain ⟨h1, h2⟩ := okI_iff h
      exact ⟨j, rfl, h1, h2, p1 F1 H1 (Gr.refl _ _ _ _) w1 _ strm_r⟩
    · have p1 : Pst S F1 c1 H1 (if okI j = true then .ok (intsD 0 j.toNat, c1) else .no) fun ds _ F' H' => ∀ J, Strm X.K S J F' ds → R J H' := p1
      rw [if_neg h] at p1
      exact p1.elim
  | _ => exact p1.elim⟩
theorem si_r2 {a b : Expr} {ea eb : EV} (hg : Gl X "range") (hm : X.mg "range" = none) (ha : SB X S a ea) (hb : SB X S b eb) (hs : starEach [a, b] X.env = [(false, eval a X.env), (false, eval b X.env)] := by rfl) (hs2 : starEach [b] X.env = [(false, eval b X.env)] := by rfl) :
    SI X S tg (.Call (.Name "range" p) [a, b] [] pos) (iR2 ea eb) := ⟨fun ρ c F H σ R w r p => by
  refine twI_of (pi_range2 hg hm pa_tw hs hs2) ?_
  refine twA_of (pa_cons pe_tw (pa_cons pe_tw pa_nil hs2) (by rw [hs, hs2])) ?_
  refine ha.run ρ c F H σ _ w r (p.bind.imp fun d c1 F1 H1 g1 w1 p1 v rv => ?_)
  refine hb.run ρ c1 F1 H1 σ _ w1 (r.grow g1) (p1.bind.imp fun d2 c2 F2 H2 g2 w2 p2 v2 rv2 => ?_)
  cases d with
  | int i =>
    rw [t_int rv]
    cases d2 with
    | int j =>
      rw [t_int rv2]
      have p2 : Pst S F2 c2 H2 (if (okI i && okI j) = true then .ok (intsD i (j - i).toNat, c2) else .no) fun ds _ F' H' => ∀ J, Strm X.K S J F' ds → R J H' := p2
      by_cases h : (okI i && okI j) = true
      · rw [if_pos h] at p2
        rw [Bool.and_eq_true] at h
        obtain ⟨h1, h2⟩ := okI_iff h.1
        obtain ⟨h3, h4⟩ := okI_iff h.2
        exact ⟨i, j, rfl, ⟨h1, h2, h3, h4⟩, p2 F2 H2 (Gr.refl _ _ _ _) w2 _ strm_r⟩
      · rw [if_neg h] at p2
        exact p2.elim
    | _ => exact p2.elim
  | _ => exact p2.elim⟩
theorem src_bounds {pins : List (Addr × Obj)} {σ : L2.St} {H : Hp} {s : Shared} (I : Inv X pins σ H s) {Sr : Src} {xs : List V} (h : Sr.has X.K H xs) (n : Nat) : ∀ a ∈ Sr.own, a ≠ s.heap.objs.size + n := fun a ha e => by
  have := Src.lt I h a ha
  rw [e] at this
  exact absurd this (by have : s.heap.objs.size ≤ s.heap.objs.size + n := Nat.le_add_right _ _; exact Nat.not_lt.mpr this)
theorem si_enum {a : Expr} {elts : List Expr} {kk : Nat} {tpos : Pos} {ea : EV} (hg : Gl X "enumerate") (hm : X.mg "enumerate" = none) (ha : SE X S a ea) (hs : starEach [a] X.env = [(false, eval a X.env)] := by rfl) :
    SI X S (.Tuple elts kk tpos) (.Call (.Name "enumerate" p) [a] [] pos) (iEnum ea) := ⟨fun ρ c F H σ R w r p pins s I => by
  refine Call_ (ld_blt I hg hm boot_enumerate (PyProof.Rows.callWith_type1 (thn (pa_tw.run pos pins s σ H (fun vs H1 => ∃ (Sr : Src) (xs : List V), vs = [Sr.v] ∧ Sr.has X.K H1 xs ∧ R (ItE X.K Sr) H1) I ?_) fun us s1 ⟨vs, H1, I1, r1, q1⟩ => ?_) hs rfl))
  · refine twA_of (pa_cons pe_tw pa_nil hs) ?_
    refine ha.run ρ c F H σ _ w r (p.bind.imp fun d c1 F1 H1 g1 w1 p1 v rv => ?_)
    · have p1 : Pst S F1 c1 H1 (match seqI d with
        | some xs => .ok (enumD 0 xs, c1)
        | none => .no) fun ds _ F' H' => ∀ J, Strm X.K S J F' ds → R J H' := p1
      cases e : seqI d with
      | none => rw [e] at p1; exact p1.elim
      | some ds =>
        rw [e] at p1
        obtain ⟨Sr, xs, h1, h2, h3⟩ := src_of rv e
        exact ⟨Sr, xs, by rw [h1], Src.has_mono w1.fh h2, p1 F1 H1 (Gr.refl _ _ _ _) w1 _ (strm_E h2 h3)⟩
  · obtain ⟨Sr, xs, rfl, hq, q⟩ := q1
    cases r1 with
    | cons ru rr =>
      cases rr
      obtain ⟨o, Hc, B, hHc, hat⟩ := Src.begins I1 hq ru
      refine enum1 B hHc fun h' he hit hk => wpAny_pyIter_enum he ?_
      have I2 : Inv X pins σ H1 { s1 with heap := h' } := I1.kept (t' := s1.toks) hk
      refine ⟨s1.heap.objs.size + 1, [s1.heap.objs.size + 1, s1.heap.objs.size], _, _, H1, rfl, I2, turn_E Sr (s1.heap.objs.size + 1) s1.heap.objs.size (Nat.succ_ne_self _) (src_bounds I1 hq 1) (src_bounds I1 hq 0), ⟨⟨.none, he⟩, hat _ _ hit⟩, fun b hb => ?_, q⟩
      have hle : s1.heap.objs.size ≤ b := by
        rcases List.mem_cons.mp hb with z | z
        · rw [z]; exact Nat.le_add_right _ _
        · rw [List.mem_singleton.mp z]; exact Nat.le_refl _
      exact I1.fpOk hle (I1.hok.fresh hle)⟩
theorem si_zip {a b : Expr} {elts : List Expr} {kk : Nat} {tpos : Pos} {ea eb : EV} (hg : Gl X "zip") (hm : X.mg "zip" = none) (ha : SE X S a ea) (hb : SE X S b eb) (hs : starEach [a, b] X.env = (false, eval a X.env) :: starEach [b] X.env := by rfl) (hs2 : starEach [b] X.env = [(false, eval b X.env)] := by rfl)
    (hpl : (backTo pos (starEach [b] X.env)).any (·.1) = false := by rfl) : SI X S (.Tuple elts kk tpos) (.Call (.Name "zip" p) [a, b] [] pos) (iZip ea eb) := ⟨fun ρ c F H σ R w r p pins s I => by
  refine Call_ (ld_blt I hg hm PyProof.Rows.boot_zip (PyProof.Rows.callWith_type1 (thn (pa_tw.run pos pins s σ H (fun vs H1 => ∃ (Sr Tr : Src) (xs ys : List V), vs = [Sr.v, Tr.v] ∧ Sr.has X.K H1 xs ∧ Tr.has X.K H1 ys ∧ R (ItZ X.K Sr Tr) H1) I ?_) fun us s1 ⟨vs, H1, I1, r1, q1⟩ => ?_) hs hpl))
  · refine twA_of (pa_cons pe_tw (pa_cons pe_tw pa_nil hs2) hs) ?_
    refine ha.run ρ c F H σ _ w r (p.bind.imp fun d c1 F1 H1 g1 w1 p1 v rv => ?_)
    refine hb.run ρ c1 F1 H1 σ _ w1 (r.grow g1) (p1.bind.imp fun d2 c2 F2 H2 g2 w2 p2 v2 rv2 => ?_)
    have p2 : Pst S F2 c2 H2 (match seqI d, seqI d2 with
      | some xs, some ys => .ok (zipD xs ys, c2)
      | _, _ => .no) fun ds _ F' H' => ∀ J, Strm X.K S J F' ds → R J H' := p2
    cases e : seqI d with
    | none => rw [e] at p2; exact p2.elim
    | some ds =>
      cases e2 : seqI d2 with
      | none => rw [e, e2] at p2; exact p2.elim
      | some es =>
        rw [e, e2] at p2
        obtain ⟨Sr, xs, h1, h2, h3⟩ := src_of (rv.mono g2.f) e
        obtain ⟨Tr, ys, h1', h2', h3'⟩ := src_of rv2 e2
        exact ⟨Sr, Tr, xs, ys, by rw [h1, h1'], Src.has_mono w2.fh h2, Src.has_mono w2.fh h2', p2 F2 H2 (Gr.refl _ _ _ _) w2 _ (strm_Z h2 h3 h2' h3')⟩
  · obtain ⟨Sr, Tr, xs, ys, rfl, hq, hq', q⟩ := q1
    cases r1 with
    | cons ru rr =>
      cases rr with
      | cons ru' rr =>
        cases rr
        obtain ⟨o, Hc, B, hHc, hat⟩ := Src.begins I1 hq ru
        obtain ⟨o', Hc', B', hHc', hat'⟩ := Src.begins I1 hq' ru'
        refine zip_begins2 B B' hHc hHc' fun h' hz hTI hTO h1 h2 hsz hk => wpAny_pyIter_zip hz ?_
        have I2 : Inv X pins σ H1 { s1 with heap := h' } := I1.kept (t' := s1.toks) hk
        refine ⟨s1.heap.objs.size + 4, [s1.heap.objs.size + 4, s1.heap.objs.size + 2, s1.heap.objs.size + 3, s1.heap.objs.size, s1.heap.objs.size + 1], _, _, H1, rfl, I2, turn_Z (zip_sep2 (Src.lt I1 hq) (Src.lt I1 hq')) (src_bounds I1 hq 0) (src_bounds I1 hq' 1), ⟨hz, hTI, ⟨_, _, hTO⟩, hat _ _ h1, hat' _ _ h2⟩, fun c hcm => ?_, q⟩
        have e' : c = s1.heap.objs.size + 4 ∨ c = s1.heap.objs.size + 2 ∨ c = s1.heap.objs.size + 3 ∨ c = s1.heap.objs.size ∨ c = s1.heap.objs.size + 1 := by simpa using hcm
        have hle : s1.heap.objs.size ≤ c := by
          rcases e' with z | z | z | z | z
          · rw [z]; exact Nat.le_add_right _ _
          · rw [z]; exact Nat.le_add_right _ _
          · rw [z]; exact Nat.le_add_right _ _
          · rw [z]; exact Nat.le_refl _
          · rw [z]; exact Nat.le_add_right _ _
        exact I1.fpOk hle (I1.hok.fresh hle)⟩

/-! ### targets -/
def twG (X : Cx) (tg : Expr) : L2.TG := fun v σ H Q => ∀ (pins : List (Addr × Obj)) (s : Shared) (u : Value), Inv X pins σ H s → RelV v u → wpAny (model X.prog X.w) X.A (assign tg X.env u) (fun _ s' => ∃ σ' H', Inv X pins σ' H' s' ∧ Q σ' H') X.xe s
theorem pg_tw : PG X tg (twG X tg) := ⟨fun pins s _ _ _ u _ I r h => h pins s u I r⟩
theorem twG_of {t : L2.TG} (h : PG X tg t) {v : V} {σ : L2.St} {H : Hp} {Q : L2.St → Hp → Prop} (q : t v σ H Q) : twG X tg v σ H Q := fun pins s u I r => h.run pins s σ H v u Q I r q
def twGs (X : Cx) (ts : List Expr) : TGs := fun vs σ H Q => ∀ (pins : List (Addr × Obj)) (s : Shared) (us : List Value), Inv X pins σ H s → Vals vs us →
  wpAny (model X.prog X.w) X.A (assignInOrder ((assignEach ts X.env).map (·.2)) us) (fun _ s' => ∃ σ' H', Inv X pins σ' H' s' ∧ Q σ' H') X.xe s
theorem pgs_tw {ts : List Expr} : PGs X ts (twGs X ts) := ⟨fun pins s _ _ _ us _ I r h => h pins s us I r⟩
theorem twGs_of {ts : List Expr} {t : TGs} (h : PGs X ts t) {vs : List V} {σ : L2.St} {H : Hp} {Q : L2.St → Hp → Prop} (q : t vs σ H Q) : twGs X ts vs σ H Q := fun pins s us I r => h.run pins s σ H vs us Q I r q
/-- the slots `is` get shared data; the others stay -/
structure Asg (K : PySem.W.Frag) (S : Sx) (F : Hp) (is : List Nat) (σ : L2.St) (ρ : Env) (σ' : L2.St) (ρ' : Env) : Prop where
  l1 : σ'.length = σ.length
  l2 : ρ'.length = ρ.length
  off : ∀ j, j ∉ is → σ'[j]? = σ[j]? ∧ ρ'[j]? = ρ[j]?
  on : ∀ j sl, j ∈ is → ρ'[j]? = some sl → ∃ d v, sl = .sh d ∧ σ'[j]? = some (some v) ∧ Rep K S.ft S.ac F v d
theorem Asg.env {K : PySem.W.Frag} {F H : Hp} {c : Cup} {is : List Nat} {σ σ' : L2.St} {ρ ρ' : Env} (a : Asg K S F is σ ρ σ' ρ') (e : EnvR K S F c H σ ρ) : EnvR K S F c H σ' ρ' where
  len := by rw [a.l1, a.l2, e.len]
  sh := fun i d h => by
    by_cases hi : i ∈ is
    · obtain ⟨d', v, h1, h2, h3⟩ := a.on i _ hi h
      cases h1
      exact ⟨v, h2, h3⟩
    · obtain ⟨h1, h2⟩ := a.off i hi
      rw [h2] at h
      rw [h1]
      exact e.sh i d h
  ow := fun i d h => by
    by_cases hi : i ∈ is
    · obtain ⟨d', v, h1, h2, h3⟩ := a.on i _ hi h
      cases h1
    · obtain ⟨h1, h2⟩ := a.off i hi
      rw [h2] at h
      rw [h1]
      exact e.ow i d h
  dist := fun i j d d2 ad hij h1 h2 h3 => by
    by_cases hi : i ∈ is
    · obtain ⟨d', v, h4, _⟩ := a.on i _ hi h1
      cases h4
    · by_cases hj : j ∈ is
      · obtain ⟨d', v, h4, _⟩ := a.on j _ hj h2
        cases h4
      · obtain ⟨i1, i2⟩ := a.off i hi
        obtain ⟨j1, j2⟩ := a.off j hj
        rw [i2] at h1
        rw [j2] at h2
        rw [i1] at h3
        rw [j1]
        exact e.dist i j d d2 ad hij h1 h2 h3
structure SG (X : Cx) (S : Sx) (tg : Expr) (g : TG) (is : List Nat) : Prop where
  run : ∀ (ρ ρ' : Env) (c : Cup) (F H : Hp) (σ : L2.St) (v : V) (d : D) (Q : L2.St → Hp → Prop), Wd F S.ac c H → σ.length = ρ.length → Rep X.K S.ft S.ac F v d → g ρ d = some ρ' → (∀ σ', Asg X.K S F is σ ρ σ' ρ' → Q σ' H) → twG X tg v σ H Q
structure SGs (X : Cx) (S : Sx) (tgs : List Expr) (g : List TG) (is : List Nat) : Prop where
  run : ∀ (ρ ρ' : Env) (c : Cup) (F H : Hp) (σ : L2.St) (vs : List V) (ds : List D) (Q : L2.St → Hp → Prop), Wd F S.ac c H → σ.length = ρ.length → Reps X.K S.ft S.ac F vs ds → gs g ρ ds = some ρ' → (∀ σ', Asg X.K S F is σ ρ σ' ρ' → Q σ' H) → twGs X tgs vs σ H Q
theorem sg_name {i : Nat} {x : Str} (hN : X.N.Nodup) (hi : X.N[i]? = some x) (hx : Loc X.env.scope x) (hf : X.fn x = true ∨ X.env.scope.names.lookup x = some .local := by first | exact .inl rfl | exact .inr rfl | assumption) : SG X S (.Name x pos) (gN i) [i] := ⟨fun ρ ρ' c F H σ v d Q w hl rv e k => by
  have e' : some (ρ.set i (.sh d)) = some ρ' := e
  cases e'
  refine twG_of (pg_name hN hi hx hf) (show Q (σ.set i (some v)) H from k _ ⟨by simp, by simp, fun j hj => ?_, fun j sl hj h => ?_⟩)
  · have hij : i ≠ j := fun z => hj (by rw [z]; exact List.mem_singleton.mpr rfl)
    rw [List.getElem?_set_ne hij, List.getElem?_set_ne hij]
    exact ⟨rfl, rfl⟩
  · cases List.mem_singleton.mp hj
    have hlt : i < ρ.length := by
      have := (List.getElem?_eq_some_iff.mp h).1
      rwa [List.length_set] at this
    rw [List.getElem?_set_self hlt] at h
    cases h
    exact ⟨d, v, rfl, List.getElem?_set_self (by rw [hl]; exact hlt), rv⟩⟩
theorem sgs_nil : SGs X S [] [] [] := ⟨fun ρ ρ' c F H σ vs ds Q w hl rv e k => by
  cases rv with
  | nil =>
    have e' : some ρ = some ρ' := e
    cases e'
    exact twGs_of pgs_nil ⟨rfl, k σ ⟨rfl, rfl, fun j _ => ⟨rfl, rfl⟩, fun j sl hj _ => by cases hj⟩⟩
  | cons => cases e⟩
theorem sgs_cons {e : Expr} {es : List Expr} {g : TG} {gs' : List TG} {is js : List Nat} (h1 : SG X S e g is) (h2 : SGs X S es gs' js) (hs : (assignEach (e :: es) X.env).map (·.2) = assign e X.env :: (assignEach es X.env).map (·.2) := by rfl) : SGs X S (e :: es) (g :: gs') (is ++ js) := ⟨fun ρ ρ' c F H σ vs ds Q w hl rv e0 k => by
  cases rv with
  | nil => cases e0
  | @cons v vs d ds rh rt =>
    obtain ⟨ρ1, e1, e2⟩ := Option.bind_eq_some_iff.mp e0
    refine twGs_of (pgs_cons pg_tw pgs_tw hs) ⟨v, vs, rfl, h1.run ρ ρ1 c F H σ v d _ w hl rh e1 fun σ1 a1 => ?_⟩
    refine h2.run ρ1 ρ' c F H σ1 vs ds Q w (by rw [a1.l1, a1.l2, hl]) rt e2 fun σ2 a2 => k σ2 ⟨a2.l1.trans a1.l1, a2.l2.trans a1.l2, fun j hj => ?_, fun j sl hj h => ?_⟩
    · rw [List.mem_append, not_or] at hj
      obtain ⟨x1, x2⟩ := a2.off j hj.2
      obtain ⟨y1, y2⟩ := a1.off j hj.1
      exact ⟨x1.trans y1, x2.trans y2⟩
    · by_cases hj2 : j ∈ js
      · exact a2.on j sl hj2 h
      · obtain ⟨x1, x2⟩ := a2.off j hj2
        rw [x2] at h
        rw [x1]
        exact a1.on j sl ((List.mem_append.mp hj).resolve_right hj2) h⟩
theorem gs_len : ∀ (g : List TG) (ρ ρ' : Env) (ds : List D), gs g ρ ds = some ρ' → ds.length = g.length
  | [], _, _, [], _ => rfl
  | [], _, _, _ :: _, h => by cases h
  | _ :: _, _, _, [], h => by cases h
  | g :: r, ρ, ρ', d :: ds, h => by
    obtain ⟨ρ1, _, e2⟩ := Option.bind_eq_some_iff.mp h
    rw [List.length_cons, List.length_cons, gs_len r ρ1 ρ' ds e2]
theorem sg_tup {es : List Expr} {k : Nat} {g : List TG} {is : List Nat} (hc : X.calm = true) (h : SGs X S es g is) (hn : (assignEach es X.env).length = g.length := by rfl) (hst : (assignEach es X.env).findIdx? (·.1) = none := by rfl) : SG X S (.Tuple es k pos) (gT g) is := ⟨fun ρ ρ' c F H σ v d Q w hl rv e kq => by
  cases d with
  | tup ds =>
    cases rv with
    | @tup a vs _ hq r =>
      have e' : gs g ρ ds = some ρ' := e
      refine twG_of (pg_tup hc pgs_tw hn hst) ⟨a, vs, rfl, w.fh.sqT hq, by rw [r.length, gs_len g ρ ρ' ds e'], h.run ρ ρ' c F H σ vs ds Q w hl r e' kq⟩
  | _ => cases e⟩
end
end Mi
end

section
/-! MiK: calls of own functions, comprehensions. -/
namespace Mi
open PySem PySem.Spec PyProof.Rows L2
theorem bind_ok {α β : Type} {r : R α} {f : α → R β} {b : β} (h : r.bind f = .ok b) : ∃ a, r = .ok a ∧ f a = .ok b := by
  cases r with
  | ok a => exact ⟨a, rfl, h⟩
  | err e c => cases h
  | no => cases h
/-- what a def m keeps; Z tells how a wish of exceptions is read -/
def spM (K : PySem.W.Frag) (ft : Nat → Addr) (Z : XK → Ex → Cup → Hp → Hp → Prop) (n : Nat) (m : FV) : Sp := fun vs H Q E => vs.length = n ∧ ∃ (ac : Addr) (c : Cup) (F : Hp) (ds : List D), Wd F ac c H ∧ Reps K ft ac F vs ds ∧
  Pst ⟨ft, ac, Z E⟩ F c H (m ds c) fun d _ F' H' => ∀ v, Rep K ft ac F' v d → Q v H'
section
variable {X : Cx} {S : Sx} {pos p : Pos}
theorem Pst.chg {α : Type} {S T : Sx} {F H : Hp} {c : Cup} {r : R (α × Cup)} {k : α → Cup → Hp → Hp → Prop} (h : Pst S F c H r k) (ha : T.ac = S.ac) (hW : ∀ e c F H, S.W e c F H → T.W e c F H) : Pst T F c H r k := by
  cases r with
  | ok q =>
    obtain ⟨a, c1⟩ := q
    exact fun F1 H1 g w => h F1 H1 (by rw [← ha]; exact g) (by rw [← ha]; exact w)
  | err e c1 => exact fun F1 H1 g w => hW _ _ _ _ (h F1 H1 (by rw [← ha]; exact g) (by rw [← ha]; exact w))
  | no => exact h
/-- f(a, ..) of the program's own def -/
theorem se_call {CX : CXT} {k : Nat} {f : Addr} {fd : FuncData} {ps : List Str} {n : Nat} {Z : XK → Ex → Cup → Hp → Hp → Prop} {m : FV} {x : Str} {a : Expr} {as : List Expr} {xs : List EV} {E : XK} (G : FnOk X.prog X.w X.K X.mg X.base CX k f fd ps (spM X.K S.ft Z n m)) (hr : Room k X.A) (hg : Gl X x)
    (hm : X.mg x = some (.ref f)) (hk : PySem.W.keepIn X.K (.ref f) = true) (hb : Binds X.K fd ps []) (hx : Passes CX X E) (hZ : ∀ e c F H, S.W e c F H → Z E e c F H) (ha : SA X S (a :: as) xs) (hn : xs.length = n := by rfl) (hdb : (x == ("__debug__" : Str)) = false := by decide)
    (he : starEach (a :: as) X.env = (false, eval a X.env) :: starEach as X.env := by rfl) (hpl : (backTo pos (starEach as X.env)).any (·.1) = false := by rfl) : SE X S (.Call (.Name x p) (a :: as) [] pos) (eCall m xs) := ⟨fun ρ c F H σ Q w r p => by
  refine tw_of (pe_call G hr hg hm hk hb .nil hx pa_tw hdb he hpl) ?_
  refine ha.run ρ c F H σ _ w r (p.bind.eq.imp fun ds c1 F1 H1 g1 w1 p1 vs rvs => ?_)
  refine ⟨?_, S.ac, c1, F1, ds, w1, by rw [List.append_nil]; exact rvs, ?_⟩
  · rw [List.append_nil, rvs.length, es_length xs ρ c _ p1.2, hn]
  · exact Pst.chg (T := ⟨S.ft, S.ac, Z E⟩) p1.1 rfl hZ⟩
/-! ### comprehensions -/
theorem EnvR.q {K : PySem.W.Frag} {F H : Hp} {c : Cup} {σ : L2.St} {ρ : Env} (h : EnvR K S F c H σ ρ) : EnvR K S.q F c H σ ρ := ⟨h.len, h.sh, fun i d e => by
  obtain ⟨a, h1, h2, h3, h4⟩ := h.ow i d e
  refine ⟨a, h1, ?_, h3, h4⟩
  cases h2 with
  | lst h r => exact .lst h r
  | dct h r => exact .dct h r, h.dist⟩
theorem wipes_len : ∀ (vs : List Nat) (ρ : Env), (wipes vs ρ).length = ρ.length
  | [], _ => rfl
  | i :: r, ρ => by rw [wipes, List.length_set, wipes_len r ρ]
theorem wipes_get : ∀ (vs : List Nat) (ρ : Env) (i : Nat), (i ∉ vs → (wipes vs ρ)[i]? = ρ[i]?) ∧ (∀ sl, i ∈ vs → (wipes vs ρ)[i]? = some sl → sl = .un)
  | [], _, _ => ⟨fun _ => rfl, fun _ h => by cases h⟩
  | j :: r, ρ, i => by
    obtain ⟨h1, h2⟩ := wipes_get r ρ i
    rw [wipes]
    by_cases e : j = i
    · subst e
      refine ⟨fun h => absurd (List.mem_cons_self ..) h, fun sl _ h => ?_⟩
      by_cases hl : j < (wipes r ρ).length
      · rw [List.getElem?_set_self hl] at h
        cases h
        rfl
      · rw [List.getElem?_eq_none (by rw [List.length_set]; omega)] at h
        cases h
    · rw [List.getElem?_set_ne e]
      exact ⟨fun h => h1 fun q => h (List.mem_cons_of_mem _ q), fun sl h => h2 sl ((List.mem_cons.mp h).resolve_left fun q => e q.symm)⟩
theorem EnvR.wipe {K : PySem.W.Frag} {F H : Hp} {c : Cup} {σ : L2.St} {ρ : Env} (e : EnvR K S F c H σ ρ) (vs : List Nat) : EnvR K S F c H (L2.wipe σ vs) (wipes vs ρ) where
  len := by rw [wipe_length, wipes_len, e.len]
  sh := fun i d h => by
    by_cases hi : i ∈ vs
    · cases (wipes_get vs ρ i).2 _ hi h
    · rw [(wipes_get vs ρ i).1 hi] at h
      rw [wipe_out hi]
      exact e.sh i d h
  ow := fun i d h => by
    by_cases hi : i ∈ vs
    · cases (wipes_get vs ρ i).2 _ hi h
    · rw [(wipes_get vs ρ i).1 hi] at h
      rw [wipe_out hi]
      exact e.ow i d h
  dist := fun i j d d2 a hij h1 h2 h3 => by
    by_cases hi : i ∈ vs
    · cases (wipes_get vs ρ i).2 _ hi h1
    · by_cases hj : j ∈ vs
      · cases (wipes_get vs ρ j).2 _ hj h2
      · rw [(wipes_get vs ρ i).1 hi] at h1
        rw [(wipes_get vs ρ j).1 hj] at h2
        rw [wipe_out hi] at h3
        rw [wipe_out hj]
        exact e.dist i j d d2 a hij h1 h2 h3
theorem wipe_none : ∀ {vs : List Nat} {σ : L2.St} {i : Nat}, i ∈ vs → i < σ.length → (L2.wipe σ vs)[i]? = some none
  | v :: vs, σ, i, hi, hl => by
    rw [L2.wipe]
    by_cases e : v = i
    · subst e
      exact List.getElem?_set_self (by rw [wipe_length]; exact hl)
    · rw [List.getElem?_set_ne e]
      exact wipe_none ((List.mem_cons.mp hi).resolve_left fun q => e q.symm) hl
theorem wipe_same {σ σ' : L2.St} {vs : List Nat} (hl : σ'.length = σ.length) (h : ∀ j, j ∉ vs → σ'[j]? = σ[j]?) : L2.wipe σ' vs = L2.wipe σ vs := by
  apply List.ext_getElem?
  intro i
  by_cases hi : i ∈ vs
  · by_cases hlt : i < σ.length
    · rw [wipe_none hi hlt, wipe_none hi (by rw [hl]; exact hlt)]
    · rw [List.getElem?_eq_none (by rw [wipe_length, hl]; omega), List.getElem?_eq_none (by rw [wipe_length]; omega)]
  · rw [wipe_out hi, wipe_out hi, h i hi]
theorem wipe_wipe {σ : L2.St} {vs : List Nat} : L2.wipe (L2.wipe σ vs) vs = L2.wipe σ vs := wipe_same (wipe_length σ vs) fun _ hj => wipe_out hj
theorem Asg.wipe {K : PySem.W.Frag} {F : Hp} {is vs : List Nat} {σ σ' : L2.St} {ρ ρ' : Env} (a : Asg K S F is (L2.wipe σ vs) ρ σ' ρ') (h : ∀ j ∈ is, j ∈ vs) : L2.wipe σ' vs = L2.wipe σ vs := by
  refine wipe_same (by rw [a.l1, wipe_length]) fun j hj => ?_
  rw [(a.off j fun q => hj (h j q)).1, wipe_out hj]
/-- tests of a comprehension -/
structure SPs (X : Cx) (S : Sx) (ifs : List Expr) (t : TV) : Prop where
  run : ∀ (ρ : Env) (c : Cup) (F H : Hp) (σ : L2.St) (Q : Bool → Hp → Prop), Wd F S.ac c H → EnvR X.K S F c H σ ρ → Pst S F c H (t ρ c) (fun b _ _ H' => Q b H') →
    ∀ (pins : List (Addr × Obj)) (s : Shared), Inv X pins σ H s → ∃ tt : TT, PTs X ifs tt ∧ tt σ H Q
theorem sps_nil : SPs X S [] tT := ⟨fun ρ c F H σ Q w r p pins s I => ⟨tYes, pts_nil, show Q true H from p F H (Gr.refl _ _ _ _) w⟩⟩
theorem sps_one {e : Expr} {t : TV} (h : ST X S e t) : SPs X S [e] t := ⟨fun ρ c F H σ Q w r p pins s I => ⟨_, pts_one pt_tw, h.run ρ c F H σ Q w r p⟩⟩
def twPs (X : Cx) (ifs : List Expr) : TT := fun σ H Q => ∀ (pins : List (Addr × Obj)) (s : Shared), Inv X pins σ H s → ∃ tt : TT, PTs X ifs tt ∧ tt σ H Q
theorem pts_tw {ifs : List Expr} : PTs X ifs (twPs X ifs) := ⟨fun pins s σ H Q I h => by
  obtain ⟨tt, h1, h2⟩ := h pins s I
  exact h1.run pins s σ H Q I h2⟩
/-- for every block of that scope -/
abbrev Blk (X : Cx) (scope : Scope) (P : Cx → Prop) : Prop := ∀ (s : Shared) (H : Hp) (C : Addr) (cl : List (Str × Addr)) (fp : List Addr), P (X.blk s H scope (compEnvC scope cl C X.env) fp)
theorem lc_t {elt tg iter : Expr} {ifs : List Expr} {scope : Scope} {own : List (Str × Nat)} {it : IV} {g : TG} {t : TV} {e : EV} {is : List Nat} (hc : X.calm = true) (hN : X.N.Nodup) (ok : BlkOk X.N X.env.scope scope own) (hi : SI X S tg iter it)
    (hg : Blk X scope fun Y => SG Y S.q tg g is) (ht : Blk X scope fun Y => SPs Y S.q ifs t) (he : Blk X scope fun Y => SE Y S.q elt e) (his : ∀ j ∈ is, j ∈ own.map (·.2))
    {ρ : Env} {c : Cup} {F H : Hp} {σ : L2.St} {Q : VK} (w : Wd F S.ac c H) (r : EnvR X.K S F c H σ ρ) (p : Pst S F c H (eLc (own.map (·.2)) it g t e ρ c) (fun d c' F' H' => ∀ a, Own X.K S F' H' a d → F' a = none → H a = none → (c' ≠ none → a ≠ S.ac) → Q (.ref a) H')) :
    tLc (twI X tg iter) (fun v σ H Q => Blk X scope fun Y => twG Y tg v σ H Q) (fun σ H Q => Blk X scope fun Y => twPs Y ifs σ H Q) (fun σ H Q => Blk X scope fun Y => tw Y elt σ H Q) (own.map (·.2)) σ H Q := by
  refine hi.run ρ c F H σ _ w r (p.bind.imp fun ds c1 F1 H1 g1 w1 p1 J sJ Da hDa => ?_)
  obtain ⟨q, c2, eq, k⟩ := p1.bind.quiet
  obtain ⟨eq, hq⟩ := fit_ok eq
  have hq : q.length ≤ line := hq
  have hac : c1 ≠ none → Da ≠ S.ac := fun z e => by
    cases hc : c1 with
    | none => exact z hc
    | some xy =>
      obtain ⟨_, h2⟩ := w1.cup xy.1 xy.2 (by rw [hc])
      rw [e, h2] at hDa
      cases hDa
  have hDH : H Da = none := by
    cases e : H Da with
    | none => rfl
    | some o => exact absurd hDa (g1.dom Da (by rw [e]; exact fun z => nomatch z))
  refine ⟨fun i m H' => m = ds.length - i ∧ i ≤ ds.length ∧ ∃ (c' : Cup) (F' : Hp) (vs : List V) (ds1 ds2 : List D), lcL g t e (wipes (own.map (·.2)) ρ) (ds.drop i) c' = .ok (ds2, c2) ∧ q = ds1 ++ ds2 ∧ Reps X.K S.ft S.ac F' vs ds1 ∧ H' Da = some (.lst vs) ∧ F' Da = none ∧ Wd F' S.ac c' H' ∧ Gr S.ac c1 c' F1 H1 F' H',
    ⟨ds.length, by simp, Nat.zero_le _, c1, F1, [], [], q, by rw [List.drop_zero]; exact eq, rfl, .nil, upd_same, w1.free hDa, w1.laidO hDa _, Gr.laidO hDa⟩, ?_⟩
  rintro i m H' ⟨rfl, hi, c', F', vs, ds1, ds2, e1, e2, rvs, hD', hF', w', g'⟩
  by_cases hlt : i < ds.length
  · right
    refine ⟨sJ.go i c' F' H' hlt g'.f w', fun H'' => ∃ (c'' : Cup) (F'' : Hp) (vs' : List V) (ds1' ds2' : List D), lcL g t e (wipes (own.map (·.2)) ρ) (ds.drop (i + 1)) c'' = .ok (ds2', c2) ∧ q = ds1' ++ ds2' ∧ Reps X.K S.ft S.ac F'' vs' ds1' ∧ H'' Da = some (.lst vs') ∧ F'' Da = none ∧ Wd F'' S.ac c'' H'' ∧ Gr S.ac c1 c'' F1 H1 F'' H'',
      fun H'' n => ⟨ds.length - (i + 1), by omega, rfl, by omega, n⟩, fun x H2 y => ?_⟩
    obtain ⟨F2, g2, w2, rx⟩ := sJ.yld i ds[i] c' F' H' x H2 (List.getElem?_eq_getElem hlt) g'.f w' y
    have keepD : ∀ {c' c'' : Cup} {F' H' F'' H'' : Hp} {vs : List V}, Gr S.ac c1 c' F1 H1 F' H' → Gr S.ac c' c'' F' H' F'' H'' → H' Da = some (.lst vs) → F' Da = none → H'' Da = some (.lst vs) ∧ F'' Da = none := fun ga gb h1 h2 =>
      ⟨gb.h _ _ h1 fun z => hac fun q => z (ga.cc.mp q), gb.new _ h2 (by rw [h1]; exact fun z => nomatch z)⟩
    obtain ⟨hD2, hF2⟩ := keepD g' g2 hD' hF'
    have gg2 := g'.trans g2
    rw [List.drop_eq_getElem_cons hlt] at e1
    unfold lcL at e1
    cases eg : g (wipes (own.map (·.2)) ρ) ds[i] with
    | none => rw [eg] at e1; cases e1
    | some ρ' =>
      rw [eg] at e1
      obtain ⟨⟨b, c3⟩, et, e3⟩ := bind_ok e1
      have ev0 : EnvR X.K S F2 c' H2 (L2.wipe σ (own.map (·.2))) (wipes (own.map (·.2)) ρ) := ((r.grow g1).grow gg2).wipe _
      intro s0 Hb C cl fp
      refine (hg s0 Hb C cl fp).run (wipes (own.map (·.2)) ρ) ρ' c' F2 H2 _ x ds[i] _ w2 ev0.len rx eg fun σ2 a2 => ⟨a2.wipe his, fun s0 Hb C cl fp => ?_⟩
      have ev2 : EnvR X.K S.q F2 c' H2 σ2 ρ' := Asg.env (S := S.q) a2 ev0.q
      intro pins s I
      refine (ht s0 Hb C cl fp).run ρ' c' F2 H2 σ2 _ w2 ev2 ?_ pins s I
      rw [et]
      intro F3 H3 g3 w3
      obtain ⟨hD3, hF3⟩ := keepD gg2 g3 hD2 hF2
      have gg3 := gg2.trans g3
      cases b with
      | false =>
        have e3 : lcL g t e (wipes (own.map (·.2)) ρ) (ds.drop (i + 1)) c3 = .ok (ds2, c2) := e3
        rw [if_neg Bool.false_ne_true]
        exact ⟨c3, F3, vs, ds1, ds2, e3, e2, rvs.mono (g2.f.trans g3.f) _, hD3, hF3, w3, gg3⟩
      | true =>
        rw [if_pos rfl]
        have e3 : (e ρ' c3).bind (fun q => (lcL g t e (wipes (own.map (·.2)) ρ) (ds.drop (i + 1)) q.2).bind fun r => .ok (q.1 :: r.1, r.2)) = .ok (ds2, c2) := e3
        obtain ⟨⟨d, c4⟩, ee, e4⟩ := bind_ok e3
        obtain ⟨⟨ds3, c5⟩, e5, e6⟩ := bind_ok e4
        have e6 : R.ok (d :: ds3, c5) = .ok (ds2, c2) := e6
        injection e6 with e6
        injection e6 with e7 e8
        subst e7 e8
        intro s0 Hb C cl fp
        refine (he s0 Hb C cl fp).run ρ' c3 F3 H3 σ2 _ w3 (ev2.grow g3) ?_
        rw [ee]
        intro F4 H4 g4 w4 y ry
        obtain ⟨hD4, hF4⟩ := keepD gg3 g4 hD3 hF3
        have gg4 := gg3.trans g4
        have hlen : vs.length < sizeLine := by
          have h1 := rvs.length
          have h2 : q.length = ds1.length + (d :: ds3).length := by rw [e2, List.length_append]
          rw [List.length_cons] at h2
          rw [line_eq]
          omega
        refine ⟨vs, hD4, hlen, c4, F4, vs ++ [y], ds1 ++ [d], ds3, e5, by rw [e2, List.append_assoc]; rfl, (rvs.mono (g2.f.trans (g3.f.trans g4.f)) _).append (.cons ry .nil), upd_same, hF4, w4.set hF4 (fun z => hac fun q => z (gg4.cc.mp q)) _, gg4.set hDa _⟩
  · left
    have hi' : i = ds.length := by omega
    subst hi'
    rw [List.drop_length] at e1
    have e1 : R.ok (([] : List D), c') = .ok (ds2, c2) := e1
    injection e1 with e1
    injection e1 with e3 e4
    subst e3 e4
    rw [List.append_nil] at e2
    subst e2
    exact ⟨sJ.stop c' F' H' g'.f w', k F' H' g' w' F' H' (Gr.refl _ _ _ _) w' Da (.lst hD' rvs) hF' hDH fun z => hac fun q => z (g'.cc.mp q)⟩
theorem so_lc {elt tg iter : Expr} {ifs : List Expr} {scope : Scope} {own : List (Str × Nat)} {it : IV} {g : TG} {t : TV} {e : EV} {is : List Nat} (hc : X.calm = true) (hN : X.N.Nodup) (ok : BlkOk X.N X.env.scope scope own) (hi : SI X S tg iter it)
    (hg : Blk X scope fun Y => SG Y S.q tg g is) (ht : Blk X scope fun Y => SPs Y S.q ifs t) (he : Blk X scope fun Y => SE Y S.q elt e) (his : ∀ j ∈ is, j ∈ own.map (·.2)) (hs : ∀ x, foldedSetIterable iter X.env x = pure x := by intro _; rfl) :
    SO X S (.ListComp elt [⟨tg, iter, ifs, 0⟩] scope pos) (eLc (own.map (·.2)) it g t e) := ⟨fun ρ c F H σ Q w r p => by
  refine tw_of (pe_lc hc hN pi_tw ok (g := fun v σ H Q => Blk X scope fun Y => twG Y tg v σ H Q) (tt := fun σ H Q => Blk X scope fun Y => twPs Y ifs σ H Q) (te := fun σ H Q => Blk X scope fun Y => tw Y elt σ H Q)
    (fun s H C cl fp => ⟨fun pins s1 σ H1 v u Q I rv h => h s H C cl fp pins s1 u I rv⟩) (fun s H C cl fp => ⟨fun pins s1 σ H1 Q I h => pts_tw.run pins s1 σ H1 Q I (h s H C cl fp)⟩) (fun s H C cl fp => ⟨fun pins s1 σ H1 Q I h => h s H C cl fp pins s1 I⟩) hs) ?_
  exact lc_t hc hN ok hi hg ht he his w r p⟩
end
end Mi
end

section
/-! MiL: comprehensions with two clauses. -/
namespace Mi
open PySem PySem.Spec PyProof.Rows L2
section
variable {X : Cx} {S : Sx} {pos p : Pos}
/-- the list at Da holds what stands for ds; all else is as it was at (c1, F1, H1) or newer -/
structure Acc (K : PySem.W.Frag) (S : Sx) (Da : Addr) (c1 : Cup) (F1 H1 : Hp) (c : Cup) (F H : Hp) (ds : List D) : Prop where
  acc : ∃ vs, H Da = some (.lst vs) ∧ Reps K S.ft S.ac F vs ds
  nf : F Da = none
  w : Wd F S.ac c H
  g : Gr S.ac c1 c F1 H1 F H
theorem Acc.grow {K : PySem.W.Frag} {Da : Addr} {c1 c c' : Cup} {F1 H1 F H F' H' : Hp} {ds : List D} (a : Acc K S Da c1 F1 H1 c F H ds) (n : c1 ≠ none → Da ≠ S.ac) (g : Gr S.ac c c' F H F' H') (w : Wd F' S.ac c' H') : Acc K S Da c1 F1 H1 c' F' H' ds where
  acc := let ⟨vs, h1, h2⟩ := a.acc; ⟨vs, g.h _ _ h1 fun z => n fun q => z (a.g.cc.mp q), h2.mono g.f _⟩
  nf := let ⟨vs, h1, _⟩ := a.acc; g.new _ a.nf (by rw [h1]; exact fun z => nomatch z)
  w := w
  g := a.g.trans g
theorem Acc.push {K : PySem.W.Frag} {Da : Addr} {c1 c : Cup} {F1 H1 F H : Hp} {ds : List D} {d : D} {y : V} (a : Acc K S Da c1 F1 H1 c F H ds) (n : c1 ≠ none → Da ≠ S.ac) (hD : H1 Da = none) (r : Rep K S.ft S.ac F y d) (hl : ds.length < line) {Nx : Hp → Prop}
    (k : ∀ H', Acc K S Da c1 F1 H1 c F H' (ds ++ [d]) → Nx H') : ∃ acc, H Da = some (.lst acc) ∧ acc.length < sizeLine ∧ Nx (upd H Da (.lst (acc ++ [y]))) := by
  obtain ⟨vs, h1, h2⟩ := a.acc
  exact ⟨vs, h1, by rw [line_eq, h2.length]; exact hl, k _ ⟨⟨vs ++ [y], upd_same, h2.append (.cons r .nil)⟩, a.nf, a.w.set a.nf (fun z => n fun q => z (a.g.cc.mp q)) _, a.g.set hD _⟩⟩
/-- one clause's loop -/
theorem lc_loop {J : It} {F0 : Hp} {ds : List D} (sJ : Strm X.K S J F0 ds) {Da : Addr} {c1 : Cup} {F1 H1 : Hp} {gg : V → L2.St → Hp → (L2.St → Hp → Prop) → Prop} {tt : TT} {te : TE} {vs : List Nat} {σ σ0 : L2.St} {ρ : Env} {g : TG} {t : TV} {e : EV} {is : List Nat} {Fin : Hp → Prop}
    (hDa : H1 Da = none) (hac : c1 ≠ none → Da ≠ S.ac) (ev : EnvR X.K S.q F1 c1 H1 σ ρ) (his : ∀ j ∈ is, j ∈ vs) (hσ : σ = L2.wipe σ0 vs)
    (hg : ∀ (ρ' : Env) (c : Cup) (F H : Hp) (v : V) (d : D) (Q : L2.St → Hp → Prop), Wd F S.ac c H → Rep X.K S.ft S.ac F v d → g ρ d = some ρ' → (∀ σ', Asg X.K S.q F is σ ρ σ' ρ' → Q σ' H) → gg v σ H Q)
    (ht : ∀ (ρ' : Env) (c : Cup) (F H : Hp) (σ' : L2.St) (Q : Bool → Hp → Prop), Wd F S.ac c H → EnvR X.K S.q F c H σ' ρ' → Pst S.q F c H (t ρ' c) (fun b _ _ H' => Q b H') → tt σ' H Q)
    (he : ∀ (ρ' : Env) (c : Cup) (F H : Hp) (σ' : L2.St) (Q : VK), Wd F S.ac c H → EnvR X.K S.q F c H σ' ρ' → Pst S.q F c H (e ρ' c) (fun d _ F' H' => ∀ v, Rep X.K S.ft S.ac F' v d → Q v H') → te σ' H Q)
    {c c2 : Cup} {F H : Hp} {dsa q : List D} (a : Acc X.K S Da c1 F1 H1 c F H dsa) (hF : Le F0 F) (eq : lcL g t e ρ ds c = .ok (q, c2)) (hq : dsa.length + q.length ≤ line)
    (fin : ∀ F' H', Acc X.K S Da c1 F1 H1 c2 F' H' (dsa ++ q) → Le F F' → Fin H') :
    ∃ W : Nat → Nat → Hp → Prop, (∃ m, W 0 m H) ∧ ∀ i m H, W i m H → (J.stop i H ∧ Fin H) ∨ (J.go i H ∧ ∃ Nx : Hp → Prop, (∀ H', Nx H' → ∃ m', m' < m ∧ W (i + 1) m' H') ∧ ∀ x H', J.yld i H x H' → gg x σ H' fun σ3 H5 => L2.wipe σ3 vs = L2.wipe σ0 vs ∧ tt σ3 H5 fun b H6 =>
      if b = true then te σ3 H6 fun y H7 => ∃ acc, H7 Da = some (.lst acc) ∧ acc.length < sizeLine ∧ Nx (upd H7 Da (.lst (acc ++ [y]))) else Nx H6) := by
  refine ⟨fun i m H' => m = ds.length - i ∧ i ≤ ds.length ∧ ∃ (c' : Cup) (F' : Hp) (ds1 ds2 : List D), lcL g t e ρ (ds.drop i) c' = .ok (ds2, c2) ∧ q = ds1 ++ ds2 ∧ Acc X.K S Da c1 F1 H1 c' F' H' (dsa ++ ds1) ∧ Le F F',
    ⟨ds.length, by simp, Nat.zero_le _, c, F, [], q, by rw [List.drop_zero]; exact eq, rfl, by rw [List.append_nil]; exact a, Le.refl F⟩, ?_⟩
  rintro i m H' ⟨rfl, hi, c', F', ds1, ds2, e1, e2, a', hFF⟩
  by_cases hlt : i < ds.length
  · right
    refine ⟨sJ.go i c' F' H' hlt (hF.trans hFF) a'.w, fun H'' => ∃ (c'' : Cup) (F'' : Hp) (ds1' ds2' : List D), lcL g t e ρ (ds.drop (i + 1)) c'' = .ok (ds2', c2) ∧ q = ds1' ++ ds2' ∧ Acc X.K S Da c1 F1 H1 c'' F'' H'' (dsa ++ ds1') ∧ Le F F'',
      fun H'' n => ⟨ds.length - (i + 1), by omega, rfl, by omega, n⟩, fun x H2 y => ?_⟩
    obtain ⟨F2, g2, w2, rx⟩ := sJ.yld i ds[i] c' F' H' x H2 (List.getElem?_eq_getElem hlt) (hF.trans hFF) a'.w y
    have a2 := a'.grow hac g2 w2
    rw [List.drop_eq_getElem_cons hlt] at e1
    unfold lcL at e1
    cases eg : g ρ ds[i] with
    | none => rw [eg] at e1; cases e1
    | some ρ' =>
      rw [eg] at e1
      obtain ⟨⟨b, c3⟩, et, e3⟩ := bind_ok e1
      refine hg ρ' c' F2 H2 x ds[i] _ w2 rx eg fun σ2 as => ⟨?_, ?_⟩
      · have q := (Asg.wipe (S := S.q) (σ := σ0) (vs := vs) (by rw [← hσ]; exact as) his)
        exact q
      have ev2 : EnvR X.K S.q F2 c' H2 σ2 ρ' := Asg.env (S := S.q) as (EnvR.grow (S := S.q) ev a2.g)
      refine ht ρ' c' F2 H2 σ2 _ w2 ev2 ?_
      rw [et]
      intro F3 H3 g3 w3
      have a3 := a2.grow hac g3 w3
      cases b with
      | false =>
        have e3 : lcL g t e ρ (ds.drop (i + 1)) c3 = .ok (ds2, c2) := e3
        rw [if_neg Bool.false_ne_true]
        exact ⟨c3, F3, ds1, ds2, e3, e2, a3, hFF.trans (g2.f.trans g3.f)⟩
      | true =>
        rw [if_pos rfl]
        have e3 : (e ρ' c3).bind (fun q => (lcL g t e ρ (ds.drop (i + 1)) q.2).bind fun r => .ok (q.1 :: r.1, r.2)) = .ok (ds2, c2) := e3
        obtain ⟨⟨d, c4⟩, ee, e4⟩ := bind_ok e3
        obtain ⟨⟨ds3, c5⟩, e5, e6⟩ := bind_ok e4
        have e6 : R.ok (d :: ds3, c5) = .ok (ds2, c2) := e6
        injection e6 with e6
        injection e6 with e7 e8
        subst e7 e8
        refine he ρ' c3 F3 H3 σ2 _ w3 (ev2.grow g3) ?_
        rw [ee]
        intro F4 H4 g4 w4 y ry
        have a4 := a3.grow hac g4 w4
        have hNx : ∀ H', Acc X.K S Da c1 F1 H1 c4 F4 H' (dsa ++ ds1 ++ [d]) → ∃ (c'' : Cup) (F'' : Hp) (ds1' ds2' : List D), lcL g t e ρ (ds.drop (i + 1)) c'' = .ok (ds2', c5) ∧ q = ds1' ++ ds2' ∧ Acc X.K S Da c1 F1 H1 c'' F'' H' (dsa ++ ds1') ∧ Le F F'' :=
          fun H' a5 => ⟨c4, F4, ds1 ++ [d], ds3, e5, by rw [e2, List.append_assoc]; rfl, by rw [← List.append_assoc]; exact a5, hFF.trans (g2.f.trans (g3.f.trans g4.f))⟩
        refine a4.push hac hDa ry ?_ hNx
        have h2 : q.length = ds1.length + (d :: ds3).length := by rw [e2, List.length_append]
        rw [List.length_cons] at h2
        rw [List.length_append]
        omega
  · left
    have hi' : i = ds.length := by omega
    subst hi'
    rw [List.drop_length] at e1
    have e1 : R.ok (([] : List D), c') = .ok (ds2, c2) := e1
    injection e1 with e1
    injection e1 with e3 e4
    subst e3 e4
    rw [List.append_nil] at e2
    subst e2
    exact ⟨sJ.stop c' F' H' (hF.trans hFF) a'.w, fin F' H' a' hFF⟩
/-- a heap without one object -/
def del (H : Hp) (a : Addr) : Hp := fun x => if x = a then none else H x
theorem del_same {H : Hp} {a : Addr} : del H a a = none := by unfold del; rw [if_pos rfl]
theorem del_ne {H : Hp} {a x : Addr} (h : x ≠ a) : del H a x = H x := by unfold del; rw [if_neg h]
theorem Gr.toDel {ac a : Addr} {c c' : Cup} {F H F' H' : Hp} (g : Gr ac c c' F H F' H') (hh : H a = none) : Gr ac c c' F H F' (del H' a) where
  cc := g.cc
  f := g.f
  new := g.new
  h := fun x u e n => by
    have q : x ≠ a := fun z => by rw [z, hh] at e; cases e
    rw [del_ne q]
    exact g.h x u e n
  dom := fun x h => by
    have q : x ≠ a := fun z => h (by rw [z, hh])
    rw [del_ne q]
    exact g.dom x h
theorem Gr.ofDel {ac a : Addr} {c : Cup} {F H : Hp} : Gr ac c c F (del H a) F H where
  cc := Iff.rfl
  f := Le.refl F
  new := fun _ h _ => h
  h := fun x u e _ => by
    by_cases q : x = a
    · rw [q, del_same] at e; cases e
    · rwa [del_ne q] at e
  dom := fun x h => by
    by_cases q : x = a
    · rw [q, del_same] at h; exact absurd rfl h
    · rwa [del_ne q] at h
theorem Asg.mono {K : PySem.W.Frag} {F F' : Hp} {is : List Nat} {σ σ' : L2.St} {ρ ρ' : Env} (a : Asg K S F is σ ρ σ' ρ') (l : Le F F') : Asg K S F' is σ ρ σ' ρ' := ⟨a.l1, a.l2, a.off, fun j sl hj h => let ⟨d, v, h1, h2, h3⟩ := a.on j sl hj h; ⟨d, v, h1, h2, h3.mono l⟩⟩
theorem lc2_t {elt tg iter tg1 iter1 : Expr} {ifs ifs1 : List Expr} {scope : Scope} {own : List (Str × Nat)} {vs1 : List Nat} {it it1 : IV} {g g1 : TG} {t t1 : TV} {e : EV} {is is1 : List Nat} (hc : X.calm = true) (hN : X.N.Nodup) (ok : BlkOk X.N X.env.scope scope own) (hv : ∀ i ∈ vs1, i ∈ own.map (·.2)) (hi : SI X S tg iter it)
    (hg : Blk X scope fun Y => SG Y S.q tg g is) (ht : Blk X scope fun Y => SPs Y S.q ifs t) (hi1 : Blk X scope fun Y => SI Y S.q tg1 iter1 it1) (hg1 : Blk X scope fun Y => SG Y S.q tg1 g1 is1) (ht1 : Blk X scope fun Y => SPs Y S.q ifs1 t1) (he : Blk X scope fun Y => SE Y S.q elt e)
    (his : ∀ j ∈ is, j ∈ own.map (·.2)) (his1 : ∀ j ∈ is1, j ∈ vs1)
    {ρ : Env} {c : Cup} {F H : Hp} {σ : L2.St} {Q : VK} (w : Wd F S.ac c H) (r : EnvR X.K S F c H σ ρ) (p : Pst S F c H (eLc2 (own.map (·.2)) it g t vs1 it1 g1 t1 e ρ c) (fun d c' F' H' => ∀ a, Own X.K S F' H' a d → F' a = none → H a = none → (c' ≠ none → a ≠ S.ac) → Q (.ref a) H')) :
    tLc2 (twI X tg iter) (fun v σ H Q => Blk X scope fun Y => twG Y tg v σ H Q) (fun σ H Q => Blk X scope fun Y => twPs Y ifs σ H Q) (fun σ H R => Blk X scope fun Y => twI Y tg1 iter1 σ H R) (fun v σ H Q => Blk X scope fun Y => twG Y tg1 v σ H Q) (fun σ H Q => Blk X scope fun Y => twPs Y ifs1 σ H Q) (fun σ H Q => Blk X scope fun Y => tw Y elt σ H Q) (own.map (·.2)) vs1 σ H Q := by
  refine hi.run ρ c F H σ _ w r (p.bind.imp fun ds c1 F1 H1 g1' w1 p1 J sJ Da hDa => ?_)
  obtain ⟨q, c2, eq, k⟩ := p1.bind.quiet
  obtain ⟨eq, hq⟩ := fit_ok eq
  have hq : q.length ≤ line := hq
  have hac : c1 ≠ none → Da ≠ S.ac := fun z e => by
    cases hc : c1 with
    | none => exact z hc
    | some xy =>
      obtain ⟨_, h2⟩ := w1.cup xy.1 xy.2 (by rw [hc])
      rw [e, h2] at hDa
      cases hDa
  have hDH : H Da = none := by
    cases e : H Da with
    | none => rfl
    | some o => exact absurd hDa (g1'.dom Da (by rw [e]; exact fun z => nomatch z))
  have evB : EnvR X.K S F1 c1 H1 (L2.wipe σ (own.map (·.2))) (wipes (own.map (·.2)) ρ) := (r.grow g1').wipe _
  refine ⟨fun i m H' => m = ds.length - i ∧ i ≤ ds.length ∧ ∃ (c' : Cup) (F' : Hp) (ds1 ds2 : List D), lcL2 g t vs1 it1 g1 t1 e (wipes (own.map (·.2)) ρ) (ds.drop i) c' = .ok (ds2, c2) ∧ q = ds1 ++ ds2 ∧ Acc X.K S Da c1 F1 H1 c' F' H' ds1,
    ⟨ds.length, by simp, Nat.zero_le _, c1, F1, [], q, by rw [List.drop_zero]; exact eq, rfl, ⟨⟨[], upd_same, .nil⟩, w1.free hDa, w1.laidO hDa _, Gr.laidO hDa⟩⟩, ?_⟩
  rintro i m H' ⟨rfl, hi', c', F', ds1, ds2, e1, e2, a'⟩
  by_cases hlt : i < ds.length
  · right
    refine ⟨sJ.go i c' F' H' hlt a'.g.f a'.w, fun H'' => ∃ (c'' : Cup) (F'' : Hp) (ds1' ds2' : List D), lcL2 g t vs1 it1 g1 t1 e (wipes (own.map (·.2)) ρ) (ds.drop (i + 1)) c'' = .ok (ds2', c2) ∧ q = ds1' ++ ds2' ∧ Acc X.K S Da c1 F1 H1 c'' F'' H'' ds1',
      fun H'' n => ⟨ds.length - (i + 1), by omega, rfl, by omega, n⟩, fun x H2 y => ?_⟩
    obtain ⟨F2, g2, w2, rx⟩ := sJ.yld i ds[i] c' F' H' x H2 (List.getElem?_eq_getElem hlt) a'.g.f a'.w y
    have a2 := a'.grow hac g2 w2
    rw [List.drop_eq_getElem_cons hlt] at e1
    unfold lcL2 at e1
    cases eg : g (wipes (own.map (·.2)) ρ) ds[i] with
    | none => rw [eg] at e1; cases e1
    | some ρ' =>
      rw [eg] at e1
      obtain ⟨⟨b, c3⟩, et, e3⟩ := bind_ok e1
      intro s0 Hb C cl fp
      refine (hg s0 Hb C cl fp).run (wipes (own.map (·.2)) ρ) ρ' c' F2 H2 _ x ds[i] _ w2 evB.len rx eg fun σ2 as => ⟨as.wipe his, ?_⟩
      have ev2 : EnvR X.K S.q F2 c' H2 σ2 ρ' := Asg.env (S := S.q) as (evB.grow a2.g).q
      intro s0 Hb C cl fp pins s I
      refine (ht s0 Hb C cl fp).run ρ' c' F2 H2 σ2 _ w2 ev2 ?_ pins s I
      rw [et]
      intro F3 H3 g3 w3
      have a3 := a2.grow hac g3 w3
      cases b with
      | false =>
        have e3 : lcL2 g t vs1 it1 g1 t1 e (wipes (own.map (·.2)) ρ) (ds.drop (i + 1)) c3 = .ok (ds2, c2) := e3
        rw [if_neg Bool.false_ne_true]
        exact ⟨c3, F3, ds1, ds2, e3, e2, a3⟩
      | true =>
        rw [if_pos rfl]
        have e3 : (it1 ρ' c3).bind (fun q => (lcL g1 t1 e (wipes vs1 ρ') q.1 q.2).bind fun r => (lcL2 g t vs1 it1 g1 t1 e (wipes (own.map (·.2)) ρ) (ds.drop (i + 1)) r.2).bind fun u => .ok (r.1 ++ u.1, u.2)) = .ok (ds2, c2) := e3
        obtain ⟨⟨es, c4⟩, ei, e4⟩ := bind_ok e3
        obtain ⟨⟨q1, c5⟩, el, e5⟩ := bind_ok e4
        obtain ⟨⟨ds3, c6⟩, e6, e7⟩ := bind_ok e5
        have e7 : R.ok (q1 ++ ds3, c6) = .ok (ds2, c2) := e7
        injection e7 with e7
        injection e7 with e8 e9
        subst e8 e9
        intro s0 Hb C cl fp
        refine (hi1 s0 Hb C cl fp).run ρ' c3 F3 H3 σ2 _ w3 (ev2.grow g3) ?_
        rw [ei]
        intro F4 H4 g4 w4 J1 sJ1
        have a4 := a3.grow hac g4 w4
        have evC : EnvR X.K S.q F4 c4 H4 (L2.wipe σ2 vs1) (wipes vs1 ρ') := ((ev2.grow g3).grow g4).wipe _
        have hlen : q.length = ds1.length + (q1.length + ds3.length) := by rw [e2, List.length_append, List.length_append]
        have gD : Gr S.ac c1 c4 F1 H1 F4 (del H4 Da) := a4.g.toDel hDa
        have evD : EnvR X.K S.q F4 c4 (del H4 Da) (L2.wipe σ2 vs1) (wipes vs1 ρ') := ((as.mono (g3.f.trans g4.f)).env (S := S.q) (evB.grow gD).q).wipe _
        have hac4 : c4 ≠ none → Da ≠ S.ac := fun z => hac fun q => z (a4.g.cc.mp q)
        have aD : Acc X.K S Da c4 F4 (del H4 Da) c4 F4 H4 ds1 := ⟨a4.acc, a4.nf, w4, Gr.ofDel⟩
        exact lc_loop (X := X) (S := S) (gg := fun v σ H Q => Blk X scope fun Y => twG Y tg1 v σ H Q) (tt := fun σ H Q => Blk X scope fun Y => twPs Y ifs1 σ H Q) (te := fun σ H Q => Blk X scope fun Y => tw Y elt σ H Q) ⟨sJ1.stop, sJ1.go, sJ1.yld⟩ del_same hac4 evD his1 rfl
          (fun ρ'' c F H v d Q w rv eg k s0 Hb C cl fp => (hg1 s0 Hb C cl fp).run _ ρ'' c F H _ v d Q w evD.len rv eg k)
          (fun ρ'' c F H σ' Q w ev p s0 Hb C cl fp pins s I => (ht1 s0 Hb C cl fp).run ρ'' c F H σ' Q w ev p pins s I)
          (fun ρ'' c F H σ' Q w ev p s0 Hb C cl fp => (he s0 Hb C cl fp).run ρ'' c F H σ' Q w ev p)
          aD (Le.refl F4) el (by omega) fun F5 H5 a5 l5 => ⟨c5, F5, ds1 ++ q1, ds3, e6, by rw [e2, List.append_assoc], ⟨a5.acc, a5.nf, a5.w, gD.trans a5.g⟩⟩
  · left
    have hi'' : i = ds.length := by omega
    subst hi''
    rw [List.drop_length] at e1
    have e1 : R.ok (([] : List D), c') = .ok (ds2, c2) := e1
    injection e1 with e1
    injection e1 with e3 e4
    subst e3 e4
    rw [List.append_nil] at e2
    subst e2
    obtain ⟨vs, hD', rvs⟩ := a'.acc
    exact ⟨sJ.stop c' F' H' a'.g.f a'.w, k F' H' a'.g a'.w F' H' (Gr.refl _ _ _ _) a'.w Da (.lst hD' rvs) a'.nf hDH fun z => hac fun q => z (a'.g.cc.mp q)⟩
theorem so_lc2 {elt tg iter tg1 iter1 : Expr} {ifs ifs1 : List Expr} {scope : Scope} {own : List (Str × Nat)} {vs1 : List Nat} {it it1 : IV} {g g1 : TG} {t t1 : TV} {e : EV} {is is1 : List Nat} (hc : X.calm = true) (hN : X.N.Nodup) (ok : BlkOk X.N X.env.scope scope own) (hv : ∀ i ∈ vs1, i ∈ own.map (·.2)) (hi : SI X S tg iter it)
    (hg : Blk X scope fun Y => SG Y S.q tg g is) (ht : Blk X scope fun Y => SPs Y S.q ifs t) (hi1 : Blk X scope fun Y => SI Y S.q tg1 iter1 it1) (hg1 : Blk X scope fun Y => SG Y S.q tg1 g1 is1) (ht1 : Blk X scope fun Y => SPs Y S.q ifs1 t1) (he : Blk X scope fun Y => SE Y S.q elt e)
    (his : ∀ j ∈ is, j ∈ own.map (·.2)) (his1 : ∀ j ∈ is1, j ∈ vs1) (hs : ∀ x, foldedSetIterable iter X.env x = pure x := by intro _; rfl) (hs1 : ∀ env x, foldedSetIterable iter1 env x = pure x := by intro _ _; rfl) :
    SO X S (.ListComp elt [⟨tg, iter, ifs, 0⟩, ⟨tg1, iter1, ifs1, 0⟩] scope pos) (eLc2 (own.map (·.2)) it g t vs1 it1 g1 t1 e) := ⟨fun ρ c F H σ Q w r p => by
  refine tw_of (pe_lc2 (vs1 := vs1) hc hN pi_tw ok hv (g := fun v σ H Q => Blk X scope fun Y => twG Y tg v σ H Q) (tt := fun σ H Q => Blk X scope fun Y => twPs Y ifs σ H Q) (wi1 := fun σ H R => Blk X scope fun Y => twI Y tg1 iter1 σ H R)
    (g1 := fun v σ H Q => Blk X scope fun Y => twG Y tg1 v σ H Q) (tt1 := fun σ H Q => Blk X scope fun Y => twPs Y ifs1 σ H Q) (te := fun σ H Q => Blk X scope fun Y => tw Y elt σ H Q)
    (fun s H C cl fp => ⟨fun pins s1 σ H1 v u Q I rv h => h s H C cl fp pins s1 u I rv⟩) (fun s H C cl fp => ⟨fun pins s1 σ H1 Q I h => pts_tw.run pins s1 σ H1 Q I (h s H C cl fp)⟩)
    (fun s H C cl fp => ⟨fun pins s1 σ H1 R I h => h s H C cl fp pins s1 I⟩)
    (fun s H C cl fp => ⟨fun pins s1 σ H1 v u Q I rv h => h s H C cl fp pins s1 u I rv⟩) (fun s H C cl fp => ⟨fun pins s1 σ H1 Q I h => pts_tw.run pins s1 σ H1 Q I (h s H C cl fp)⟩)
    (fun s H C cl fp => ⟨fun pins s1 σ H1 Q I h => h s H C cl fp pins s1 I⟩) hs hs1) ?_
  exact lc2_t hc hN ok hv hi hg ht hi1 hg1 ht1 he his his1 w r p⟩
end
end Mi
end

section
/-! MiM: statements. -/
namespace Mi
open PySem PySem.Spec PyProof.Rows L2
/-- the state within a def: begun at (c0, F0, H0); Fl's objects stand -/
structure S8 (K : PySem.W.Frag) (S : Sx) (c0 : Cup) (F0 H0 Fl : Hp) (c : Cup) (F H : Hp) (σ : L2.St) (ρ : Env) : Prop where
  w : Wd F S.ac c H
  e : EnvR K S F c H σ ρ
  f : ∀ (i : Nat) (d : D) (a : Addr), ρ[i]? = some (.ow d) → σ[i]? = some (some (.ref a)) → H0 a = none
  g : Gr S.ac c0 c F0 H0 F H
  l : Le Fl F
/-- what a statement's end asks -/
def Fin (K : PySem.W.Frag) (S : Sx) (c0 : Cup) (F0 H0 Fl : Hp) (E : Ends) : R (Ctl × Env × Cup) → Prop
  | .ok (.nx, ρ, c) => ∀ σ F H, S8 K S c0 F0 H0 Fl c F H σ ρ → E.nx σ H
  | .ok (.bk, ρ, c) => ∀ σ F H, S8 K S c0 F0 H0 Fl c F H σ ρ → E.bk σ H
  | .ok (.ct, ρ, c) => ∀ σ F H, S8 K S c0 F0 H0 Fl c F H σ ρ → E.ct σ H
  | .ok (.rt d, _, c) => ∀ v F H, Wd F S.ac c H → Gr S.ac c0 c F0 H0 F H → Rep K S.ft S.ac F v d → E.rt v H
  | .err e c => ∀ F H, Wd F S.ac c H → Gr S.ac c0 c F0 H0 F H → S.W e c F H
  | .no => False
structure SS (X : Cx) (S : Sx) (st : Stmt) (sv : SV) : Prop where
  run : ∀ (c0 : Cup) (F0 H0 Fl : Hp) (ρ : Env) (c : Cup) (F H : Hp) (σ : L2.St) (E : Ends), S8 X.K S c0 F0 H0 Fl c F H σ ρ → Fin X.K S c0 F0 H0 Fl E (sv ρ c) → twS X st E σ H
structure SSs (X : Cx) (S : Sx) (sts : List Stmt) (sv : SV) : Prop where
  run : ∀ (c0 : Cup) (F0 H0 Fl : Hp) (ρ : Env) (c : Cup) (F H : Hp) (σ : L2.St) (E : Ends), S8 X.K S c0 F0 H0 Fl c F H σ ρ → Fin X.K S c0 F0 H0 Fl E (sv ρ c) → twSs X sts E σ H
section
variable {K : PySem.W.Frag} {S : Sx} {c0 c c' : Cup} {F0 H0 Fl F H F' H' : Hp} {σ : L2.St} {ρ : Env} {E : Ends}
theorem fin_bind {α : Type} {r : R (α × Cup)} {f : α × Cup → R (Ctl × Env × Cup)} (h : Fin K S c0 F0 H0 Fl E (r.bind f)) (g : Gr S.ac c0 c F0 H0 F H) : Pst S F c H r fun a c1 _ _ => Fin K S c0 F0 H0 Fl E (f (a, c1)) := by
  cases r with
  | ok p =>
    obtain ⟨a, c1⟩ := p
    exact fun F1 H1 _ _ => h
  | err e c1 => exact fun F1 H1 g1 w1 => h F1 H1 w1 (g.trans g1)
  | no => exact h
theorem S8.grow (s : S8 K S c0 F0 H0 Fl c F H σ ρ) (g : Gr S.ac c c' F H F' H') (w : Wd F' S.ac c' H') : S8 K S c0 F0 H0 Fl c' F' H' σ ρ := ⟨w, s.e.grow g, s.f, s.g.trans g, s.l.trans g.f⟩
theorem S8.low {Fm : Hp} (s : S8 K S c0 F0 H0 Fl c F H σ ρ) (l : Le Fm F) : S8 K S c0 F0 H0 Fm c F H σ ρ := ⟨s.w, s.e, s.f, s.g, l⟩
theorem S8.asg {σ' : L2.St} {ρ' : Env} {is : List Nat} (s : S8 K S c0 F0 H0 Fl c F H σ ρ) (a : Asg K S F is σ ρ σ' ρ') : S8 K S c0 F0 H0 Fl c F H σ' ρ' := ⟨s.w, a.env s.e, fun i d b h1 h2 => by
  by_cases hi : i ∈ is
  · obtain ⟨d', v, h3, _⟩ := a.on i _ hi h1
    cases h3
  · obtain ⟨x1, x2⟩ := a.off i hi
    rw [x2] at h1
    rw [x1] at h2
    exact s.f i d b h1 h2, s.g, s.l⟩
theorem S8.wipes (s : S8 K S c0 F0 H0 Fl c F H σ ρ) (ks : List Nat) : S8 K S c0 F0 H0 Fl c F H σ (Mi.wipes ks ρ) := by
  have sub : ∀ {i : Nat} {sl : Sl}, sl ≠ .un → (Mi.wipes ks ρ)[i]? = some sl → ρ[i]? = some sl := fun {i sl} n h => by
    by_cases hi : i ∈ ks
    · exact absurd ((wipes_get ks ρ i).2 _ hi h) n
    · rwa [(wipes_get ks ρ i).1 hi] at h
  exact ⟨s.w, ⟨by rw [wipes_len, s.e.len], fun i d h => s.e.sh i d (sub (fun z => nomatch z) h), fun i d h => s.e.ow i d (sub (fun z => nomatch z) h), fun i j d e a hij h1 h2 => s.e.dist i j d e a hij (sub (fun z => nomatch z) h1) (sub (fun z => nomatch z) h2)⟩,
    fun i d a h => s.f i d a (sub (fun z => nomatch z) h), s.g, s.l⟩
/-- a name's own object is shared; a dict is locked -/
theorem S8.frz1 (s : S8 K S c0 F0 H0 Fl c F H σ ρ) {i : Nat} {a : Addr} {d : D} {o : HO} (e : ρ[i]? = some (.ow d)) (h1 : σ[i]? = some (some (.ref a))) (h3 : F a = none) (h4 : c ≠ none → a ≠ S.ac) (hr : ∀ F', Le F F' → F' a = some o → Rep K S.ft S.ac F' (.ref a) d) : S8 K S c0 F0 H0 Fl c (upd F a o) (upd H a o) σ (ρ.set i (.sh d)) := by
  have hi : i < ρ.length := (List.getElem?_eq_some_iff.mp e).1
  have le : Le F (upd F a o) := Le.new h3
  have h0 := s.f i d a e h1
  refine ⟨(s.w.set h3 h4 o).share upd_same h4, ⟨by rw [List.length_set, s.e.len], fun j d' h => ?_, fun j d' h => ?_, fun j k d' e' b hjk g1 g2 => ?_⟩, fun j d' b g1 => ?_, (s.g.set h0 o).share h3 h0, s.l.trans le⟩
  · by_cases q : i = j
    · subst q
      rw [List.getElem?_set_self hi] at h
      cases h
      exact ⟨.ref a, h1, hr _ le upd_same⟩
    · rw [List.getElem?_set_ne q] at h
      obtain ⟨v, x1, x2⟩ := s.e.sh j d' h
      exact ⟨v, x1, x2.mono le⟩
  · by_cases q : i = j
    · subst q
      rw [List.getElem?_set_self hi] at h
      cases h
    · rw [List.getElem?_set_ne q] at h
      obtain ⟨b, x1, x2, x3, x4⟩ := s.e.ow j d' h
      have hb : b ≠ a := fun z => s.e.dist i j d d' a q e h h1 (by rw [← z]; exact x1)
      refine ⟨b, x1, ?_, by rw [upd_ne hb]; exact x3, x4⟩
      cases x2 with
      | lst y r => exact .lst (by rw [upd_ne hb]; exact y) (r.mono le _)
      | dct y r => exact .dct (by rw [upd_ne hb]; exact y) (r.mono le _)
  · by_cases q : i = j
    · subst q
      rw [List.getElem?_set_self hi] at g1
      cases g1
    · by_cases q' : i = k
      · subst q'
        rw [List.getElem?_set_self hi] at g2
        cases g2
      · rw [List.getElem?_set_ne q] at g1
        rw [List.getElem?_set_ne q'] at g2
        exact s.e.dist j k d' e' b hjk g1 g2
  · by_cases q : i = j
    · subst q
      rw [List.getElem?_set_self hi] at g1
      cases g1
    · rw [List.getElem?_set_ne q] at g1
      exact s.f j d' b g1
theorem upd_id {H : Hp} {a : Addr} {o : HO} (h : H a = some o) : upd H a o = H := by
  funext b
  by_cases q : b = a
  · rw [q, upd_same, h]
  · rw [upd_ne q]
/-- a new object of its own -/
theorem S8.own (s : S8 K S c0 F0 H0 Fl c F H σ ρ) {i : Nat} {a : Addr} {d : D} (o : Own K S F H a d) (hf : F a = none) (h0 : H0 a = none) (hc : c ≠ none → a ≠ S.ac) (hn : ∀ (j : Nat) (e : D) (b : Addr), j ≠ i → ρ[j]? = some (.ow e) → σ[j]? = some (some (.ref b)) → b ≠ a) : S8 K S c0 F0 H0 Fl c F H (σ.set i (some (.ref a))) (ρ.set i (.ow d)) := by
  have old : ∀ {j : Nat} {sl : Sl}, j ≠ i → (ρ.set i (.ow d))[j]? = some sl → ρ[j]? = some sl := fun q h => by rwa [List.getElem?_set_ne (Ne.symm q)] at h
  have olds : ∀ {j : Nat}, j ≠ i → (σ.set i (some (.ref a)))[j]? = σ[j]? := fun q => List.getElem?_set_ne (Ne.symm q)
  have at_i : ∀ {sl : Sl}, (ρ.set i (.ow d))[i]? = some sl → sl = .ow d ∧ (σ.set i (some (.ref a)))[i]? = some (some (.ref a)) := fun h => by
    have hi : i < ρ.length := by
      have := (List.getElem?_eq_some_iff.mp h).1
      rwa [List.length_set] at this
    rw [List.getElem?_set_self hi] at h
    cases h
    exact ⟨rfl, List.getElem?_set_self (by rw [s.e.len]; exact hi)⟩
  refine ⟨s.w, ⟨by rw [List.length_set, List.length_set, s.e.len], fun j d' h => ?_, fun j d' h => ?_, fun j k d' e' b hjk g1 g2 g3 g4 => ?_⟩, fun j d' b g1 g2 => ?_, s.g, s.l⟩
  · by_cases q : j = i
    · subst q
      cases (at_i h).1
    · rw [olds q]
      exact s.e.sh j d' (old q h)
  · by_cases q : j = i
    · subst q
      obtain ⟨x1, x2⟩ := at_i h
      cases x1
      exact ⟨a, x2, o, hf, hc⟩
    · rw [olds q]
      exact s.e.ow j d' (old q h)
  · by_cases q : j = i
    · subst q
      rw [(at_i g1).2] at g3
      cases g3
      rw [olds (Ne.symm hjk)] at g4
      exact hn k e' a (Ne.symm hjk) (old (Ne.symm hjk) g2) g4 rfl
    · by_cases q' : k = i
      · subst q'
        rw [(at_i g2).2] at g4
        cases g4
        rw [olds q] at g3
        exact hn j d' a q (old q g1) g3 rfl
      · rw [olds q] at g3
        rw [olds q'] at g4
        exact s.e.dist j k d' e' b hjk (old q g1) (old q' g2) g3 g4
  · by_cases q : j = i
    · subst q
      rw [(at_i g1).2] at g2
      cases g2
      exact h0
    · rw [olds q] at g2
      exact s.f j d' b (old q g1) g2
/-- an own object is written -/
theorem S8.put (s : S8 K S c0 F0 H0 Fl c F H σ ρ) {i : Nat} {a : Addr} {d d' : D} {o : HO} (h1 : ρ[i]? = some (.ow d)) (h2 : σ[i]? = some (some (.ref a))) (h3 : F a = none) (h4 : c ≠ none → a ≠ S.ac) (ow : Own K S F (upd H a o) a d') : S8 K S c0 F0 H0 Fl c F (upd H a o) σ (ρ.set i (.ow d')) := by
  have hi : i < ρ.length := (List.getElem?_eq_some_iff.mp h1).1
  have old : ∀ {j : Nat} {sl : Sl}, j ≠ i → (ρ.set i (.ow d'))[j]? = some sl → ρ[j]? = some sl := fun q h => by rwa [List.getElem?_set_ne (Ne.symm q)] at h
  have sub : ∀ {j : Nat} {e : D}, (ρ.set i (.ow d'))[j]? = some (.ow e) → ∃ e', ρ[j]? = some (.ow e') := fun {j e} h => by
    by_cases q : j = i
    · subst q; exact ⟨d, h1⟩
    · exact ⟨e, old q h⟩
  refine ⟨s.w.set h3 h4 _, ⟨by rw [List.length_set, s.e.len], fun j e h => ?_, fun j e h => ?_, fun j k e e' b hjk g1 g2 => ?_⟩, fun j e b g1 => ?_, s.g.set (s.f i d a h1 h2) _, s.l⟩
  · by_cases q : j = i
    · subst q
      rw [List.getElem?_set_self hi] at h
      cases h
    · exact s.e.sh j e (old q h)
  · by_cases q : j = i
    · subst q
      rw [List.getElem?_set_self hi] at h
      cases h
      exact ⟨a, h2, ow, h3, h4⟩
    · obtain ⟨b, x1, x2, x3, x4⟩ := s.e.ow j e (old q h)
      have hb : b ≠ a := fun z => s.e.dist i j d e a (Ne.symm q) h1 (old q h) h2 (by rw [← z]; exact x1)
      refine ⟨b, x1, ?_, x3, x4⟩
      cases x2 with
      | lst y r => exact .lst (by rw [upd_ne hb]; exact y) r
      | dct y r => exact .dct (by rw [upd_ne hb]; exact y) r
  · obtain ⟨e1, g1⟩ := sub g1
    obtain ⟨e2, g2⟩ := sub g2
    exact s.e.dist j k e1 e2 b hjk g1 g2
  · obtain ⟨e1, g1⟩ := sub g1
    exact s.f j e1 b g1
/-- the cup is written -/
theorem S8.cup (s : S8 K S c0 F0 H0 Fl c F H σ ρ) {x y x' y' : Int} (hc : c = some (x, y)) : S8 K S c0 F0 H0 Fl (some (x', y')) F (upd H S.ac (.lst [.int x', .int y'])) σ ρ := by
  obtain ⟨h1, h2⟩ := s.w.cup x y hc
  have nn : c ≠ none := by rw [hc]; exact fun z => nomatch z
  have kp : ∀ {b : Addr}, b ≠ S.ac → upd H S.ac (.lst [.int x', .int y']) b = H b := fun q => upd_ne q
  refine ⟨⟨fun b u e => ?_, fun x2 y2 e => ?_⟩, ⟨s.e.len, s.e.sh, fun j d h => ?_, s.e.dist⟩, s.f, ⟨?_, s.g.f, s.g.new, fun b u e n => ?_, fun b e => ?_⟩, s.l⟩
  · have q : b ≠ S.ac := fun z => by rw [z, h1] at e; cases e
    rw [kp q]
    exact s.w.fh b u e
  · cases e
    exact ⟨h1, upd_same⟩
  · obtain ⟨b, x1, x2, x3, x4⟩ := s.e.ow j d h
    have q := x4 nn
    refine ⟨b, x1, ?_, x3, fun _ => q⟩
    cases x2 with
    | lst y r => exact .lst (by rw [kp q]; exact y) r
    | dct y r => exact .dct (by rw [kp q]; exact y) r
  · rw [s.g.cc, hc]
    exact ⟨fun z => (nomatch z), fun z => (nomatch z)⟩
  · have n0 : c0 ≠ none := fun z => nn (s.g.cc.mp z)
    rw [kp (n n0)]
    exact s.g.h b u e n
  · by_cases q : b = S.ac
    · rw [q, upd_same]; exact fun z => nomatch z
    · rw [kp q]; exact s.g.dom b e
end
section
variable {X : Cx} {S : Sx} {pos p : Pos}
/-! ### rules -/
theorem ss_no {st : Stmt} : SS X S st fun _ _ => .no := ⟨fun _ _ _ _ _ _ _ _ _ _ _ h => h.elim⟩
theorem sss_no {sts : List Stmt} : SSs X S sts fun _ _ => .no := ⟨fun _ _ _ _ _ _ _ _ _ _ _ h => h.elim⟩
theorem sss_nil : SSs X S [] sSkip := ⟨fun c0 F0 H0 Fl ρ c F H σ E s h => twSs_of pss_nil (show E.nx σ H from h σ F H s)⟩
theorem sss_one {st : Stmt} {a : SV} (h : SS X S st a) : SSs X S [st] a := ⟨fun c0 F0 H0 Fl ρ c F H σ E s q => twSs_of (pss_one ps_tw) (h.run c0 F0 H0 Fl ρ c F H σ E s q)⟩
theorem sss_cons {st : Stmt} {rest : List Stmt} {a b : SV} (ha : SS X S st a) (hb : SSs X S rest b) : SSs X S (st :: rest) (sSeq a b) := ⟨fun c0 F0 H0 Fl ρ c F H σ E s q => by
  refine twSs_of (pss_cons ps_tw pss_tw) ?_
  refine ha.run c0 F0 H0 Fl ρ c F H σ _ s ?_
  unfold sSeq at q
  cases e : a ρ c with
  | no => rw [e] at q; exact q
  | err x c1 => rw [e] at q; exact q
  | ok r =>
    obtain ⟨k, ρ1, c1⟩ := r
    rw [e] at q
    cases k with
    | nx =>
      have q : Fin X.K S c0 F0 H0 Fl E (b ρ1 c1) := q
      exact fun σ1 F1 H1 s1 => hb.run c0 F0 H0 Fl ρ1 c1 F1 H1 σ1 E s1 q
    | rt d => exact q
    | bk => exact q
    | ct => exact q⟩
theorem ss_kill {st : Stmt} {ks : List Nat} {a : SV} (h : SS X S st a) : SS X S st (sKill ks a) := ⟨fun c0 F0 H0 Fl ρ c F H σ E s q => h.run c0 F0 H0 Fl ρ c F H σ E s (by
  unfold sKill at q
  cases e : a ρ c with
  | no => rw [e] at q; exact q
  | err x c1 => rw [e] at q; exact q
  | ok r =>
    obtain ⟨k, ρ1, c1⟩ := r
    rw [e] at q
    cases k with
    | nx => exact fun σ1 F1 H1 s1 => q σ1 F1 H1 (s1.wipes ks)
    | rt d => exact q
    | bk => exact fun σ1 F1 H1 s1 => q σ1 F1 H1 (s1.wipes ks)
    | ct => exact fun σ1 F1 H1 s1 => q σ1 F1 H1 (s1.wipes ks))⟩
theorem frz_run {st : Stmt} {c0 : Cup} {F0 H0 Fl : Hp} {c : Cup} {σ : L2.St} {E : Ends} : ∀ (is : List Nat) {F H : Hp} {ρ : Env}, S8 X.K S c0 F0 H0 Fl c F H σ ρ → (∀ F' H', S8 X.K S c0 F0 H0 Fl c F' H' σ (Mi.frzs is ρ) → twS X st E σ H') → twS X st E σ H
  | [], F, H, _, s, k => k F H s
  | i :: r, F, H, ρ, s, k => by
    have k : ∀ F' H', S8 X.K S c0 F0 H0 Fl c F' H' σ (Mi.frzs r (Mi.frz i ρ)) → twS X st E σ H' := k
    cases e : ρ[i]? with
    | none =>
      have e2 : Mi.frz i ρ = ρ := by unfold Mi.frz; rw [e]
      rw [e2] at k
      exact frz_run r s k
    | some sl =>
      cases sl with
      | un =>
        have e2 : Mi.frz i ρ = ρ := by unfold Mi.frz; rw [e]
        rw [e2] at k
        exact frz_run r s k
      | sh d =>
        have e2 : Mi.frz i ρ = ρ := by unfold Mi.frz; rw [e]
        rw [e2] at k
        exact frz_run r s k
      | ow d =>
        have e2 : Mi.frz i ρ = ρ.set i (.sh d) := by unfold Mi.frz; rw [e]
        rw [e2] at k
        obtain ⟨a, h1, h2, h3, h4⟩ := s.e.ow i d e
        cases h2 with
        | lst ho rr =>
          have s1 := s.frz1 e h1 h3 h4 (o := .lst _) fun F' l e => .lst e (rr.mono l _)
          rw [upd_id ho] at s1
          exact frz_run r s1 k
        | dct ho rr => exact twS_lk ho trivial fun od => frz_run r (s.frz1 e h1 h3 h4 (o := .frz od (.dK _)) fun F' l e => .dct e (rr.mono l _)) k
theorem ss_frz {st : Stmt} {is : List Nat} {a : SV} (h : SS X S st a) : SS X S st (sFrz is a) := ⟨fun c0 F0 H0 Fl ρ c F H σ E s q => frz_run is s fun F1 H1 s1 => h.run c0 F0 H0 Fl _ c F1 H1 σ E s1 q⟩
theorem ss_pass : SS X S (.Pass pos) sSkip := ⟨fun c0 F0 H0 Fl ρ c F H σ E s h => twS_of ps_pass (show E.nx σ H from h σ F H s)⟩
theorem ss_asg {tg e : Expr} {g : TG} {ev : EV} {is : List Nat} (he : SE X S e ev) (hg : SG X S tg g is) (hs : swapsWithSole [tg] e pos.line X.env = pure false := by rfl) (hw : swappedStores [tg] e X.env = pure none := by rfl)
    (h1 : (assignEach [tg] X.env).map (·.2) = [assign tg X.env] := by rfl) : SS X S (.Assign [tg] e pos) (sAsg g ev) := ⟨fun c0 F0 H0 Fl ρ c F H σ E s q => by
  refine twS_of (ps_asg pe_tw pg_tw hs hw h1) ?_
  refine he.run ρ c F H σ _ s.w s.e ((fin_bind q s.g).imp fun d c1 F1 H1 g1 w1 q1 v rv => ?_)
  have q1 : Fin X.K S c0 F0 H0 Fl E (match g ρ d with
    | some ρ' => .ok (.nx, ρ', c1)
    | none => .no) := q1
  cases eg : g ρ d with
  | none => rw [eg] at q1; exact q1.elim
  | some ρ' =>
    rw [eg] at q1
    have s1 := s.grow g1 w1
    exact hg.run ρ ρ' c1 F1 H1 σ v d _ w1 s.e.len rv eg fun σ' a => q1 σ' F1 H1 (s1.asg a)⟩
/-- .. a name -/
theorem ss_set {i : Nat} {x : Str} {e : Expr} {ev : EV} {pos' : Pos} (hN : X.N.Nodup) (hi : X.N[i]? = some x) (hx : Loc X.env.scope x) (he : SE X S e ev) (hs : swapsWith e (some (.Name x pos')) pos.line X.env = pure false := by rfl)
    (hf : X.fn x = true ∨ X.env.scope.names.lookup x = some .local := by first | exact .inl rfl | exact .inr rfl | assumption) : SS X S (.Assign [.Name x pos'] e pos) (sAsg (gN i) ev) := ⟨fun c0 F0 H0 Fl ρ c F H σ E s q => by
  refine twS_of (ps_set hN hi hx pe_tw hs hf) ?_
  refine he.run ρ c F H σ _ s.w s.e ((fin_bind q s.g).imp fun d c1 F1 H1 g1 w1 q1 v rv => ?_)
  have q1 : Fin X.K S c0 F0 H0 Fl E (.ok (.nx, ρ.set i (.sh d), c1)) := q1
  have s1 := s.grow g1 w1
  refine q1 (σ.set i (some v)) F1 H1 (s1.asg (is := [i]) ⟨by simp, by simp, fun j hj => ?_, fun j sl hj h => ?_⟩)
  · have hij : i ≠ j := fun z => hj (by rw [z]; exact List.mem_singleton.mpr rfl)
    rw [List.getElem?_set_ne hij, List.getElem?_set_ne hij]
    exact ⟨rfl, rfl⟩
  · cases List.mem_singleton.mp hj
    have hlt : i < ρ.length := by
      have := (List.getElem?_eq_some_iff.mp h).1
      rwa [List.length_set] at this
    rw [List.getElem?_set_self hlt] at h
    cases h
    exact ⟨d, v, rfl, List.getElem?_set_self (by rw [s.e.len]; exact hlt), rv⟩⟩
theorem own_new {c0 c c1 : Cup} {F0 H0 Fl F H F1 H1 : Hp} {σ : L2.St} {ρ : Env} (s : S8 X.K S c0 F0 H0 Fl c F H σ ρ) (g1 : Gr S.ac c c1 F H F1 H1) (w1 : Wd F1 S.ac c1 H1) {i : Nat} {a : Addr} {d : D} (o : Own X.K S F1 H1 a d) (hf : F1 a = none) (hh : H a = none) (hc : c1 ≠ none → a ≠ S.ac) :
    S8 X.K S c0 F0 H0 Fl c1 F1 H1 (σ.set i (some (.ref a))) (ρ.set i (.ow d)) := by
  refine (s.grow g1 w1).own o hf ?_ hc fun j e b _ h1 h2 z => ?_
  · cases q : H0 a with
    | none => rfl
    | some u => exact absurd hh (s.g.dom a (by rw [q]; exact fun z => nomatch z))
  · obtain ⟨b', x1, x2, _⟩ := s.e.ow j e h1
    rw [h2] at x1
    cases x1
    exact x2.there (by rw [z]; exact hh)
theorem ss_own {i : Nat} {x : Str} {e : Expr} {ev : EV} {pos' : Pos} (hN : X.N.Nodup) (hi : X.N[i]? = some x) (hx : Loc X.env.scope x) (he : SO X S e ev) (hs : swapsWith e (some (.Name x pos')) pos.line X.env = pure false := by rfl)
    (hf : X.fn x = true ∨ X.env.scope.names.lookup x = some .local := by first | exact .inl rfl | exact .inr rfl | assumption) : SS X S (.Assign [.Name x pos'] e pos) (sOwn i ev) := ⟨fun c0 F0 H0 Fl ρ c F H σ E s q => by
  refine twS_of (ps_set hN hi hx pe_tw hs hf) ?_
  refine he.run ρ c F H σ _ s.w s.e ((fin_bind q s.g).imp fun d c1 F1 H1 g1 w1 q1 a o h1 h2 h3 => ?_)
  have q1 : Fin X.K S c0 F0 H0 Fl E (.ok (.nx, ρ.set i (.ow d), c1)) := q1
  exact q1 (σ.set i (some (.ref a))) F1 H1 (own_new s g1 w1 o h1 h2 h3)⟩
theorem ss_setLc {i : Nat} {y : Str} {py : Pos} {elt tg iter : Expr} {ifs : List Expr} {scope : Scope} {own : List (Str × Nat)} {spos : Pos} {it : IV} {g : TG} {t : TV} {e : EV} {is : List Nat} (hc : X.calm = true) (hN : X.N.Nodup) (hy : X.N[i]? = some y) (hyl : X.env.scope.names.lookup y = some .local)
    (hsw : swapsWith (.ListComp elt [⟨tg, iter, ifs, 0⟩] scope pos) (some (.Name y py)) spos.line X.env = pure true) (ok : BlkOk X.N X.env.scope scope own) (hi : SI X S tg iter it)
    (hg : Blk X scope fun Y => SG Y S.q tg g is) (ht : Blk X scope fun Y => SPs Y S.q ifs t) (he : Blk X scope fun Y => SE Y S.q elt e) (his : ∀ j ∈ is, j ∈ own.map (·.2)) (hs : ∀ x, foldedSetIterable iter X.env x = pure x := by intro _; rfl) :
    SS X S (.Assign [.Name y py] (.ListComp elt [⟨tg, iter, ifs, 0⟩] scope pos) spos) (sOwn i (eLc (own.map (·.2)) it g t e)) := ⟨fun c0 F0 H0 Fl ρ c F H σ E s q => by
  refine twS_of (ps_setLc hc hN hy hyl hsw pi_tw ok (g := fun v σ H Q => Blk X scope fun Y => twG Y tg v σ H Q) (tt := fun σ H Q => Blk X scope fun Y => twPs Y ifs σ H Q) (te := fun σ H Q => Blk X scope fun Y => tw Y elt σ H Q)
    (fun s H C cl fp => ⟨fun pins s1 σ H1 v u Q I rv h => h s H C cl fp pins s1 u I rv⟩) (fun s H C cl fp => ⟨fun pins s1 σ H1 Q I h => pts_tw.run pins s1 σ H1 Q I (h s H C cl fp)⟩) (fun s H C cl fp => ⟨fun pins s1 σ H1 Q I h => h s H C cl fp pins s1 I⟩) hs) ?_
  refine lc_t hc hN ok hi hg ht he his s.w s.e ((fin_bind q s.g).imp fun d c1 F1 H1 g1 w1 q1 a o h1 h2 h3 => ?_)
  have q1 : Fin X.K S c0 F0 H0 Fl E (.ok (.nx, ρ.set i (.ow d), c1)) := q1
  exact q1 (σ.set i (some (.ref a))) F1 H1 (own_new s g1 w1 o h1 h2 h3)⟩
theorem ss_exp {e : Expr} {ev : EV} (he : SE X S e ev) (hs : swapsWith e none pos.line X.env = pure false := by rfl) : SS X S (.Expr e pos) (sExp ev) := ⟨fun c0 F0 H0 Fl ρ c F H σ E s q => by
  refine twS_of (ps_expr pe_tw hs) ?_
  refine he.run ρ c F H σ _ s.w s.e ((fin_bind q s.g).imp fun d c1 F1 H1 g1 w1 q1 v rv => ?_)
  have q1 : Fin X.K S c0 F0 H0 Fl E (.ok (.nx, ρ, c1)) := q1
  exact q1 σ F1 H1 (s.grow g1 w1)⟩
theorem ss_ret {e : Expr} {ev : EV} (he : SE X S e ev) : SS X S (.Return (some e) pos) (sRet ev) := ⟨fun c0 F0 H0 Fl ρ c F H σ E s q => by
  refine twS_of (ps_ret pe_tw) ?_
  refine he.run ρ c F H σ _ s.w s.e ((fin_bind q s.g).imp fun d c1 F1 H1 g1 w1 q1 v rv => ?_)
  have q1 : Fin X.K S c0 F0 H0 Fl E (.ok (.rt d, ρ, c1)) := q1
  exact q1 v F1 H1 w1 (s.g.trans g1) rv⟩
theorem ss_retN : SS X S (.Return none pos) sRetN := ⟨fun c0 F0 H0 Fl ρ c F H σ E s q => twS_of ps_retN (show E.rt .non H from q .non F H s.w s.g .non)⟩
theorem ss_if {cnd : Expr} {xs ys : List Stmt} {t : TV} {a b : SV} (hc : ST X S cnd t) (ha : SSs X S xs a) (hb : SSs X S ys b) : SS X S (.If cnd xs ys pos) (sIf t a b) := ⟨fun c0 F0 H0 Fl ρ c F H σ E s q => by
  refine twS_of (ps_if pt_tw pss_tw pss_tw) ?_
  refine hc.run ρ c F H σ _ s.w s.e ((fin_bind q s.g).imp fun k c1 F1 H1 g1 w1 q1 => ?_)
  cases k with
  | true => exact ha.run c0 F0 H0 Fl ρ c1 F1 H1 σ E (s.grow g1 w1) q1
  | false => exact hb.run c0 F0 H0 Fl ρ c1 F1 H1 σ E (s.grow g1 w1) q1⟩
theorem ss_break : SS X S (.Break pos) sBreak := ⟨fun c0 F0 H0 Fl ρ c F H σ E s h => twS_of ps_break (show E.bk σ H from h σ F H s)⟩
theorem ss_cont : SS X S (.Continue pos) sCont := ⟨fun c0 F0 H0 Fl ρ c F H σ E s h => twS_of ps_continue (show E.ct σ H from h σ F H s)⟩
theorem Fin.low {K : PySem.W.Frag} {c0 : Cup} {F0 H0 Fl Fm : Hp} {E : Ends} {r : R (Ctl × Env × Cup)} (h : Fin K S c0 F0 H0 Fl E r) (l : Le Fl Fm) : Fin K S c0 F0 H0 Fm E r := by
  cases r with
  | no => exact h
  | err e c => exact h
  | ok q =>
    obtain ⟨k, ρ, c⟩ := q
    cases k with
    | nx => exact fun σ F H s => h σ F H (s.low (l.trans s.l))
    | bk => exact fun σ F H s => h σ F H (s.low (l.trans s.l))
    | ct => exact fun σ F H s => h σ F H (s.low (l.trans s.l))
    | rt d => exact h
/-- the turn of a loop -/
theorem fin_turn {K : PySem.W.Frag} {c0 : Cup} {F0 H0 Fl : Hp} {E : Ends} {r : R (Ctl × Env × Cup)} {k : Env → Cup → R (Ctl × Env × Cup)} {N : L2.St → Hp → Prop}
    (h : Fin K S c0 F0 H0 Fl E (r.bind fun p => match p.1 with
      | .nx => k p.2.1 p.2.2
      | .ct => k p.2.1 p.2.2
      | .bk => .ok (.nx, p.2)
      | .rt d => .ok (.rt d, p.2))) (n : ∀ ρ c σ F H, S8 K S c0 F0 H0 Fl c F H σ ρ → Fin K S c0 F0 H0 Fl E (k ρ c) → N σ H) : Fin K S c0 F0 H0 Fl { E with nx := N, ct := N, bk := E.nx } r := by
  cases r with
  | no => exact h
  | err e c => exact h
  | ok q =>
    obtain ⟨f, ρ, c⟩ := q
    cases f with
    | nx => exact fun σ F H s => n ρ c σ F H s h
    | ct => exact fun σ F H s => n ρ c σ F H s h
    | bk => exact h
    | rt d => exact h
theorem ss_for {tg iter : Expr} {body : List Stmt} {it : IV} {g : TG} {b : SV} {is : List Nat} (hp : PassesOwn (model X.prog X.w) X.A X.env X.xe) (hc : X.calm = true) (hi : SI X S tg iter it) (hg : SG X S tg g is) (hb : SSs X S body b) (hs : ∀ x, foldedSetIterable iter X.env x = pure x := by intro _; rfl) :
    SS X S (.For tg iter body [] pos) (sFor it g b) := ⟨fun c0 F0 H0 Fl ρ c F H σ E s q => by
  refine twS_of (ps_for hp hc pi_tw pg_tw pss_tw hs) ?_
  refine hi.run ρ c F H σ _ s.w s.e ((fin_bind q s.g).imp fun ds c1 F1 H1 g1 w1 q1 J sJ => ?_)
  have s1 := s.grow g1 w1
  have q1 : Fin X.K S c0 F0 H0 Fl E (forL g b ds ρ c1) := q1
  refine ⟨fun i m σ H => m = ds.length - i ∧ i ≤ ds.length ∧ ∃ (c' : Cup) (F' : Hp) (ρ' : Env), S8 X.K S c0 F0 H0 F1 c' F' H σ ρ' ∧ Fin X.K S c0 F0 H0 F1 E (forL g b (ds.drop i) ρ' c'),
    ⟨ds.length, by simp, Nat.zero_le _, c1, F1, ρ, s1.low (Le.refl F1), by rw [List.drop_zero]; exact q1.low s1.l⟩, ?_⟩
  rintro i m σ2 H2 ⟨rfl, hi', c', F', ρ', s2, q2⟩
  by_cases hlt : i < ds.length
  · right
    refine ⟨sJ.go i c' F' H2 hlt s2.l s2.w, fun σ3 H3 => ∃ (c' : Cup) (F' : Hp) (ρ' : Env), S8 X.K S c0 F0 H0 F1 c' F' H3 σ3 ρ' ∧ Fin X.K S c0 F0 H0 F1 E (forL g b (ds.drop (i + 1)) ρ' c'), fun σ3 H3 n => ⟨ds.length - (i + 1), by omega, rfl, by omega, n⟩, fun x H3 y => ?_⟩
    obtain ⟨F3, g3, w3, rx⟩ := sJ.yld i ds[i] c' F' H2 x H3 (List.getElem?_eq_getElem hlt) s2.l s2.w y
    have s3 := s2.grow g3 w3
    rw [List.drop_eq_getElem_cons hlt] at q2
    unfold forL at q2
    cases eg : g ρ' ds[i] with
    | none => rw [eg] at q2; exact q2.elim
    | some ρ2 =>
      rw [eg] at q2
      refine hg.run ρ' ρ2 c' F3 H3 σ2 x ds[i] _ w3 s3.e.len rx eg fun σ3 a => ?_
      exact hb.run c0 F0 H0 F1 ρ2 c' F3 H3 σ3 _ (s3.asg a) (fin_turn q2 fun ρ4 c4 σ4 F4 H4 s4 q4 => ⟨c4, F4, ρ4, s4, q4⟩)
  · left
    have e : i = ds.length := by omega
    subst e
    rw [List.drop_length] at q2
    exact ⟨sJ.stop c' F' H2 s2.l s2.w, q2 σ2 F' H2 s2⟩⟩
theorem ss_while {cnd : Expr} {body : List Stmt} {t : TV} {b : SV} {n : Nat} (hp : PassesOwn (model X.prog X.w) X.A X.env X.xe) (hc : ST X S cnd t) (hb : SSs X S body b) : SS X S (.While cnd body [] pos) (sWhile n t b) := ⟨fun c0 F0 H0 Fl ρ c F H σ E s q => by
  refine twS_of (ps_while hp pt_tw pss_tw) ?_
  refine ⟨fun m σ H => ∃ (c' : Cup) (F' : Hp) (ρ' : Env), S8 X.K S c0 F0 H0 Fl c' F' H σ ρ' ∧ Fin X.K S c0 F0 H0 Fl E (whL t b m ρ' c'), ⟨n, c, F, ρ, s, q⟩, ?_⟩
  rintro m σ1 H1 ⟨c1, F1, ρ1, s1, q1⟩
  cases m with
  | zero => exact q1.elim
  | succ m =>
    unfold whL at q1
    refine hc.run ρ1 c1 F1 H1 σ1 _ s1.w s1.e ((fin_bind q1 s1.g).imp fun k c2 F2 H2 g2 w2 q2 => ?_)
    have s2 := s1.grow g2 w2
    cases k with
    | false => exact q2 σ1 F2 H2 s2
    | true =>
      refine ⟨fun σ H => ∃ (c' : Cup) (F' : Hp) (ρ' : Env), S8 X.K S c0 F0 H0 Fl c' F' H σ ρ' ∧ Fin X.K S c0 F0 H0 Fl E (whL t b m ρ' c'), fun σ3 H3 n3 => ⟨m, Nat.lt_succ_self m, n3⟩, ?_⟩
      exact hb.run c0 F0 H0 Fl ρ1 c2 F2 H2 σ1 _ s2 (fin_turn q2 fun ρ4 c4 σ4 F4 H4 s4 q4 => ⟨c4, F4, ρ4, s4, q4⟩)⟩
end
end Mi
end

section
/-! MiN: stores, methods, isinstance, defs. -/
namespace Mi
open PySem PySem.Spec PyProof.Rows L2
section
variable {X : Cx} {S : Sx} {pos p : Pos}
theorem loc_vis {sc : Scope} {x : Str} (h : Loc sc x) : Vis sc x := h.elim .inl fun z => .inr (.inl z)
/-! ### x[k] = v -/
theorem rep_key {F : Hp} {v : V} {d : D} (hk : isKey d = true) (h : Rep X.K S.ft S.ac F v d) : ∃ k, KeyD k d ∧ v = kV k := by
  cases h with
  | int i => exact ⟨_, .int i, rfl⟩
  | str s ok => exact ⟨_, .str s ok, rfl⟩
  | _ => cases hk
theorem keyD_eq {k k' : Key} {d d' : D} (h : KeyD k d) (h' : KeyD k' d') : eqB d' d = decide (k' = k) := by
  cases h with
  | int i =>
    cases h' with
    | int j =>
      simp only [eqB]
      by_cases q : j = i
      · subst q; simp
      · rw [decide_eq_false q, decide_eq_false fun z => q (Sum.inl.inj z)]
    | str t _ => rfl
  | str s _ =>
    cases h' with
    | int j => rfl
    | str t _ =>
      simp only [eqB]
      by_cases q : t = s
      · subst q; simp
      · rw [decide_eq_false q, decide_eq_false fun z => q (mkS_inj (Sum.inr.inj z))]
theorem repKs_any {F : Hp} {k : Key} {d : D} (hk : KeyD k d) : ∀ {ks : List (Key × V)} {ds : List (D × D)}, RepKs X.K S.ft S.ac F ks ds → (ks.any fun kv => decide (kv.1 = k)) = ds.any fun p => eqB p.1 d
  | _, _, .nil => rfl
  | _, _, .cons hk' _ t => by rw [List.any_cons, List.any_cons, repKs_any hk t, keyD_eq hk hk']
theorem repKs_map {F : Hp} {k : Key} {d e : D} {v : V} (hk : KeyD k d) (rv : Rep X.K S.ft S.ac F v e) : ∀ {ks : List (Key × V)} {ds : List (D × D)}, RepKs X.K S.ft S.ac F ks ds →
    RepKs X.K S.ft S.ac F (ks.map fun kv => if kv.1 = k then (kv.1, v) else kv) (ds.map fun p => if eqB p.1 d = true then (p.1, e) else p)
  | _, _, .nil => .nil
  | _, _, @RepKs.cons _ _ _ _ k' v' _ a b _ hk' h t => by
    rw [List.map_cons, List.map_cons]
    have q := keyD_eq hk hk'
    by_cases z : k' = k
    · rw [decide_eq_true z] at q
      simp only [z, q, if_true]
      exact .cons (by rw [← z]; exact hk') rv (repKs_map hk rv t)
    · rw [decide_eq_false z] at q
      simp only [z, q, if_false, Bool.false_eq_true]
      exact .cons hk' h (repKs_map hk rv t)
theorem repKs_app {F : Hp} {k : Key} {d e : D} {v : V} (hk : KeyD k d) (rv : Rep X.K S.ft S.ac F v e) : ∀ {ks : List (Key × V)} {ds : List (D × D)}, RepKs X.K S.ft S.ac F ks ds → RepKs X.K S.ft S.ac F (ks ++ [(k, v)]) (ds ++ [(d, e)])
  | _, _, .nil => .cons hk rv .nil
  | _, _, .cons hk' h t => .cons hk' h (repKs_app hk rv t)
theorem repKs_put {F : Hp} {k : Key} {d e : D} {v : V} (hk : KeyD k d) (rv : Rep X.K S.ft S.ac F v e) {ks : List (Key × V)} {ds : List (D × D)} (r : RepKs X.K S.ft S.ac F ks ds) : RepKs X.K S.ft S.ac F (putK ks k v) (dput ds d e) := by
  unfold putK dput
  rw [repKs_any hk r]
  cases (ds.any fun p => eqB p.1 d) with
  | true =>
    rw [if_pos rfl, if_pos rfl]
    exact repKs_map hk rv r
  | false =>
    rw [if_neg Bool.false_ne_true, if_neg Bool.false_ne_true]
    exact repKs_app hk rv r
def wSet (X : Cx) : TSet := fun o i v H Q => ∀ (pins : List (Addr × Obj)) (s : Shared) (σ : L2.St) (ov iv u : Value), Inv X pins σ H s → RelV o ov → RelV i iv → RelV v u →
  wpAny (model X.prog X.w) X.A (setItem ov iv u) (fun _ s' => ∃ H', Inv X pins σ H' s' ∧ Q H') X.xe s
theorem set_w : PSet X (wSet X) := fun pins s σ H o i v ov iv u Q I ro ri rv h => h pins s σ ov iv u I ro ri rv
theorem wSet_of {t : TSet} (h : PSet X t) {o i v : V} {H : Hp} {Q : Hp → Prop} (q : t o i v H Q) : wSet X o i v H Q := fun pins s σ ov iv u I ro ri rv => h pins s σ H o i v ov iv u Q I ro ri rv q
theorem ss_put {i : Nat} {x : Str} {k e : Expr} {kv ev : EV} {xp sp : Pos} (hu : X.A.units + 1 < cLine) (hx : PE X (.Name x xp) (tVar i)) (hk : SE X S k kv) (he : SE X S e ev) (hs : swapsWithSole [.Subscript (.Name x xp) k sp] e pos.line X.env = pure false := by rfl)
    (hw : swappedStores [.Subscript (.Name x xp) k sp] e X.env = pure none := by rfl) (h1 : (assignEach [.Subscript (.Name x xp) k sp] X.env).map (·.2) = [assign (.Subscript (.Name x xp) k sp) X.env] := by rfl)
    (ha : ∀ v, assign (.Subscript (.Name x xp) k sp) X.env v = (do
      let ov ← holding [v] (eval (.Name x xp) X.env)
      let iv ← holding [v, ov] (eval k X.env)
      standAt sp
      holding [v, ov, iv] (setItem ov iv v)
      release [v, ov, iv] []) := by intro _; rfl) : SS X S (.Assign [.Subscript (.Name x xp) k sp] e pos) (sSet i kv ev) := ⟨fun c0 F0 H0 Fl ρ c F H σ E s q => by
  unfold sSet at q
  cases hr : ρ[i]? with
  | none => rw [hr] at q; exact q.elim
  | some sl =>
    rw [hr] at q
    cases sl with
    | un => exact q.elim
    | sh d => exact q.elim
    | ow dx =>
      have q : Fin X.K S c0 F0 H0 Fl E ((ev ρ c).bind fun p => (kv ρ p.2).bind fun q => match setD dx q.1 p.1 with
        | some y => .ok (.nx, ρ.set i (.ow y), q.2)
        | none => .no) := q
      refine twS_of (ps_asg pe_tw (pg_sub hx pe_tw set_w ha) hs hw h1) ?_
      refine he.run ρ c F H σ _ s.w s.e ((fin_bind q s.g).imp fun d c1 F1 H1 g1 w1 q1 v rv => ?_)
      have s1 := s.grow g1 w1
      obtain ⟨a, a1, a2, a3, a4⟩ := s1.e.ow i dx hr
      refine ⟨.ref a, a1, ?_⟩
      refine hk.run ρ c1 F1 H1 σ _ w1 s1.e ((fin_bind q1 s1.g).imp fun dk c2 F2 H2 g2 w2 q2 y ry => ?_)
      have s2 := s1.grow g2 w2
      have o2 := a2.grow a4 g2
      have f2 : F2 a = none := g2.new a a3 a2.there
      have n2 : c2 ≠ none → a ≠ S.ac := fun z => a4 fun q => z (g2.cc.mp q)
      have q2 : Fin X.K S c0 F0 H0 Fl E (match setD dx dk d with
        | some y => .ok (.nx, ρ.set i (.ow y), c2)
        | none => .no) := q2
      cases es : setD dx dk d with
      | none => rw [es] at q2; exact q2.elim
      | some dy =>
        rw [es] at q2
        cases o2 with
        | @lst vs ds ho r =>
          cases dk with
          | int j =>
            cases ry
            obtain ⟨n, e1, e2⟩ := Option.map_eq_some_iff.mp (show (Mi.ixN ds.length j).map (fun n => D.lst (ds.set n d)) = some dy from es)
            subst e2
            refine wSet_of set_list ⟨a, vs, j, n, rfl, rfl, ho, by rw [ixN_eq, r.length]; exact e1, ?_⟩
            exact q2 σ F2 _ (s2.put hr a1 f2 n2 (.lst upd_same (r.set (rv.mono g2.f) n)))
          | _ => cases es
        | @dct ks ds ho r =>
          have es' : (if (isKey dk && decide (ds.length < line)) = true then some (D.dct (dput ds dk d)) else none) = some dy := es
          obtain ⟨h, e2⟩ := ite_some es'
          subst e2
          rw [Bool.and_eq_true, decide_eq_true_eq] at h
          obtain ⟨kk, hk', rfl⟩ := rep_key h.1 ry
          refine wSet_of (set_dict hu) ⟨a, _, rfl, .inl ⟨ks, kk, ho, rfl, by rw [r.length, line_eq]; exact h.2, rfl⟩, ?_⟩
          exact q2 σ F2 _ (s2.put hr a1 f2 n2 (.dct upd_same (repKs_put hk' (rv.mono g2.f) r)))⟩
/-- cup[k] = v -/
theorem ss_cup {i k : Nat} {x : Str} {e : Expr} {ev : EV} {xp sp kp : Pos} {j : Nat} (hk : k = 0 ∨ k = 1) (hx : PE X (.Name x xp) (tVar i)) (he : SE X S e ev) (hs : swapsWithSole [.Subscript (.Name x xp) (.Constant (.int k) j kp) sp] e pos.line X.env = pure false := by rfl)
    (hw : swappedStores [.Subscript (.Name x xp) (.Constant (.int k) j kp) sp] e X.env = pure none := by rfl) (h1 : (assignEach [.Subscript (.Name x xp) (.Constant (.int k) j kp) sp] X.env).map (·.2) = [assign (.Subscript (.Name x xp) (.Constant (.int k) j kp) sp) X.env] := by rfl)
    (ha : ∀ v, assign (.Subscript (.Name x xp) (.Constant (.int k) j kp) sp) X.env v = (do
      let ov ← holding [v] (eval (.Name x xp) X.env)
      let iv ← holding [v, ov] (eval (.Constant (.int k) j kp) X.env)
      standAt sp
      holding [v, ov, iv] (setItem ov iv v)
      release [v, ov, iv] []) := by intro _; rfl) : SS X S (.Assign [.Subscript (.Name x xp) (.Constant (.int k) j kp) sp] e pos) (sCup i k ev) := ⟨fun c0 F0 H0 Fl ρ c F H σ E s q => by
  unfold sCup at q
  cases hr : ρ[i]? with
  | none => rw [hr] at q; exact q.elim
  | some sl =>
    rw [hr] at q
    cases sl with
    | un => exact q.elim
    | ow d => exact q.elim
    | sh dx =>
      cases dx with
      | cup =>
        have q : Fin X.K S c0 F0 H0 Fl E ((ev ρ c).bind fun p => match cupSet k p.1 p.2 with
          | some c' => .ok (.nx, ρ, c')
          | none => .no) := q
        refine twS_of (ps_asg pe_tw (pg_sub hx pe_int set_w ha) hs hw h1) ?_
        refine he.run ρ c F H σ _ s.w s.e ((fin_bind q s.g).imp fun d c1 F1 H1 g1 w1 q1 v rv => ?_)
        have s1 := s.grow g1 w1
        obtain ⟨u, u1, u2⟩ := s1.e.sh i _ hr
        cases u2
        refine ⟨.ref S.ac, u1, ?_⟩
        have q1 : Fin X.K S c0 F0 H0 Fl E (match cupSet k d c1 with
          | some c' => .ok (.nx, ρ, c')
          | none => .no) := q1
        cases d with
        | int z =>
          cases rv
          cases hc : c1 with
          | none => rw [hc] at q1; exact q1.elim
          | some xy =>
            obtain ⟨a, b⟩ := xy
            rw [hc] at q1
            have q1 : Fin X.K S c0 F0 H0 Fl E (.ok (.nx, ρ, if k = 0 then some (z, b) else some (a, z))) := q1
            obtain ⟨h1, h2⟩ := w1.cup a b hc
            rcases hk with rfl | rfl
            · exact wSet_of set_list ⟨S.ac, _, 0, 0, rfl, rfl, h2, rfl, q1 σ F1 _ (s1.cup hc)⟩
            · exact wSet_of set_list ⟨S.ac, _, 1, 1, rfl, rfl, h2, rfl, q1 σ F1 _ (s1.cup hc)⟩
        | _ => exact q1.elim
      | _ => exact q.elim⟩
/-- cup[k] -/
theorem se_cup {i k : Nat} {x : Str} {xp kp : Pos} {j : Nat} (hk : k = 0 ∨ k = 1) (hx : PE X (.Name x xp) (tVar i)) (hs : PlainIx (.Constant (.int k) j kp)) : SE X S (.Subscript (.Name x xp) (.Constant (.int k) j kp) pos) (eCup i k) := ⟨fun ρ c F H σ Q w r p => by
  refine tw_of (pe_ix ix_list hx pe_int hs) ?_
  unfold eCup at p
  cases hr : ρ[i]? with
  | none => rw [hr] at p; exact p.elim
  | some sl =>
    rw [hr] at p
    cases sl with
    | un => exact p.elim
    | ow d => exact p.elim
    | sh dx =>
      cases dx with
      | cup =>
        obtain ⟨u, u1, u2⟩ := r.sh i _ hr
        cases u2
        refine ⟨.ref S.ac, u1, ?_⟩
        cases c with
        | none => exact p.elim
        | some xy =>
          obtain ⟨a, b⟩ := xy
          obtain ⟨h1, h2⟩ := w.cup a b rfl
          have p : Pst S F (some (a, b)) H (if k = 0 then .ok (.int a, some (a, b)) else .ok (.int b, some (a, b))) fun d c' F' H' => ∀ v, Rep X.K S.ft S.ac F' v d → Q v H' := p
          rcases hk with rfl | rfl
          · exact ⟨S.ac, _, 0, .int a, rfl, rfl, SqL.of h2, rfl, p F H (Gr.refl _ _ _ _) w _ (.int a)⟩
          · exact ⟨S.ac, _, 1, .int b, rfl, rfl, SqL.of h2, rfl, p F H (Gr.refl _ _ _ _) w _ (.int b)⟩
      | _ => exact p.elim⟩
/-- x.append(v) -/
theorem ss_app {i : Nat} {x : Str} {e : Expr} {ev : EV} {xp ap cp : Pos} (hx : PE X (.Name x xp) (tVar i)) (he : SE X S e ev)
    (hbase : attributeBase (.Name x xp) "append" X.env (eval (.Name x xp) X.env) = eval (.Name x xp) X.env := by rfl)
    (hfew : ((backTo cp (starEach [e] X.env)).all (fun x => !x.1) && (backToKw cp (keywordEach [] X.env)).all (fun x => x.1.isSome) && decide ([e].length + ([] : List Keyword).length + (if ([] : List Keyword).isEmpty then 0 else 1) < 30)) = true := by rfl)
    (hline : (ap.endLine == cp.line) = true := by rfl) (hss : starEach [e] X.env = (false, eval e X.env) :: starEach [] X.env := by rfl) (hplain : (backTo cp (starEach [] X.env)).any (·.1) = false := by rfl)
    (hs : swapsWith (.Call (.Attribute (.Name x xp) "append" ap) [e] [] cp) none pos.line X.env = pure false := by rfl) : SS X S (.Expr (.Call (.Attribute (.Name x xp) "append" ap) [e] [] cp) pos) (sApp i ev) := ⟨fun c0 F0 H0 Fl ρ c F H σ E s q => by
  unfold sApp at q
  cases hr : ρ[i]? with
  | none => rw [hr] at q; exact q.elim
  | some sl =>
    rw [hr] at q
    cases sl with
    | un => exact q.elim
    | sh d => exact q.elim
    | ow dx =>
      cases dx with
      | lst ds =>
        have q : Fin X.K S c0 F0 H0 Fl E ((ev ρ c).bind fun p => if ds.length < line then .ok (.nx, ρ.set i (.ow (.lst (ds ++ [p.1]))), p.2) else .no) := q
        obtain ⟨a, a1, a2, a3, a4⟩ := s.e.ow i _ hr
        cases a2 with
        | @lst vs _ ho r =>
          refine twS_of (ps_expr (pe_bm PySem.F.plainAttrs_list PySem.F.slot_list_append PySem.F.type_list_append mt_append hx pa_tw hbase hfew hline hss hplain) hs) ?_
          refine ⟨.ref a, a1, .inl ⟨rfl, vs, SqL.of ho⟩, ?_⟩
          refine twA_of (pa_cons pe_tw pa_nil hss) ?_
          refine he.run ρ c F H σ _ s.w s.e ((fin_bind q s.g).imp fun d c1 F1 H1 g1 w1 q1 v rv => ?_)
          have s1 := s.grow g1 w1
          obtain ⟨a', b1, b2, b3, b4⟩ := s1.e.ow i _ hr
          rw [a1] at b1
          cases b1
          cases b2 with
          | lst ho1 r1 =>
            have q1 : Fin X.K S c0 F0 H0 Fl E (if ds.length < line then .ok (.nx, ρ.set i (.ow (.lst (ds ++ [d]))), c1) else .no) := q1
            by_cases hl : ds.length < line
            · rw [if_pos hl] at q1
              exact ⟨a, _, v, rfl, rfl, ho1, by rw [r1.length, line_eq]; exact hl, q1 σ F1 _ (s1.put hr a1 b3 b4 (.lst upd_same (r1.append (.cons rv .nil))))⟩
            · rw [if_neg hl] at q1
              exact q1.elim
      | _ => exact q.elim⟩
end
end Mi
end

section
/-! MiO: methods of texts, isinstance, pairs of stores, defs. -/
namespace Mi
open PySem PySem.Spec PyProof.Rows L2
section
variable {X : Cx} {S : Sx} {pos p : Pos}
/-! ### {} -/
theorem so_dct : SO X S (.Dict [] [] pos) eDct0 := ⟨fun ρ c F H σ Q w r p => tw_of pe_dnewK fun q hq => p _ _ (Gr.laidO hq) (w.laidO hq _) q (.dct upd_same .nil) (w.free hq) hq fun z e => by
  cases hc : c with
  | none => exact z hc
  | some xy =>
    obtain ⟨_, h2⟩ := w.cup xy.1 xy.2 (by rw [hc])
    rw [e, h2] at hq
    cases hq⟩
/-! ### methods -/
def wMt (X : Cx) (id : String) : V → List V → Hp → VK → Prop := fun x xs H Q => ∀ (pins : List (Addr × Obj)) (s : Shared) (σ : L2.St) (v : Value) (us : List Value), Inv X pins σ H s → RelV x v → Vals xs us → wpAny (model X.prog X.w) X.A (call (.builtin id) (v :: us)) (EP X pins σ Q) X.xe s
theorem mt_w {id : String} : MtR X id (wMt X id) := fun pins s σ H x xs v us Q I rx rs h => h pins s σ v us I rx rs
theorem wMt_of {id : String} {r : V → List V → Hp → VK → Prop} (h : MtR X id r) {x : V} {xs : List V} {H : Hp} {Q : VK} (q : r x xs H Q) : wMt X id x xs H Q := fun pins s σ v us I rx rs => h pins s σ H x xs v us Q I rx rs q
/-- what a method of one argument gives -/
def MtT (X : Cx) (S : Sx) (T id : String) (chk : D → Bool) (pf : D → D → Option D) : Prop :=
  (∀ (F H : Hp) (c : Cup) (x : V) (dx : D), Wd F S.ac c H → RepT X.K S F c H x dx → chk dx = true → tyV X.K T x H) ∧
  ∀ (F H : Hp) (c : Cup) (x y : V) (dx dy r : D) (Q : VK), Wd F S.ac c H → RepT X.K S F c H x dx → RepT X.K S F c H y dy → pf dx dy = some r →
    (∀ v F' H', Gr S.ac c c F H F' H' → Wd F' S.ac c H' → Rep X.K S.ft S.ac F' v r → Q v H') → wMt X id x [y] H Q
theorem se_mt {T id : String} {name : Str} {ap : Pos} {chk : D → Bool} {pf : D → D → Option D} {a b : Expr} {ea eb : EV} (pa : PlainAttrs T) (slot : Slot T name id) (hty : typeOf (.builtin id) = pure (.type "method_descriptor")) (hm : MtT X S T id chk pf) (ha : SB X S a ea) (hb : SB X S b eb)
    (hbase : attributeBase a name X.env (eval a X.env) = eval a X.env := by rfl)
    (hfew : ((backTo pos (starEach [b] X.env)).all (fun x => !x.1) && (backToKw pos (keywordEach [] X.env)).all (fun x => x.1.isSome) && decide ([b].length + ([] : List Keyword).length + (if ([] : List Keyword).isEmpty then 0 else 1) < 30)) = true := by rfl)
    (hline : (ap.endLine == pos.line) = true := by rfl) (hs : starEach [b] X.env = (false, eval b X.env) :: starEach [] X.env := by rfl) (hplain : (backTo pos (starEach [] X.env)).any (·.1) = false := by rfl) :
    SE X S (.Call (.Attribute a name ap) [b] [] pos) (eM chk pf ea eb) := ⟨fun ρ c F H σ Q w r p => by
  refine tw_of (pe_bm pa slot hty mt_w pe_tw pa_tw hbase hfew hline hs hplain) ?_
  refine ha.run ρ c F H σ _ w r (p.bind.imp fun dx c1 F1 H1 g1 w1 p1 x rx => ?_)
  have p1 : Pst S F1 c1 H1 (if chk dx = true then (eb ρ c1).bind (fun q => lift (pf dx q.1) q.2) else .no) fun d _ F' H' => ∀ v, Rep X.K S.ft S.ac F' v d → Q v H' := p1
  by_cases hc : chk dx = true
  · rw [if_pos hc] at p1
    refine ⟨hm.1 F1 H1 c1 x dx w1 rx hc, ?_⟩
    refine (sa1 hb hs).run ρ c1 F1 H1 σ _ w1 (r.grow g1) (p1.bind.imp fun dy c2 F2 H2 g2 w2 p2 y ry => ?_)
    obtain ⟨d, e, k⟩ := p2.lift
    exact hm.2 F2 H2 c2 x y dx dy d Q w2 (rx.grow g2) ry e fun v F' H' g w' rv => k F' H' g w' v rv
  · rw [if_neg hc] at p1
    exact p1.elim⟩
theorem ty_str {F H : Hp} {c : Cup} {x : V} {dx : D} (r : RepT X.K S F c H x dx) (h : isStr dx = true) : tyV X.K "str" x H := by
  cases dx with
  | str s =>
    rw [(t_str r).1]
    rfl
  | _ => cases h
theorem strs_of {F : Hp} : ∀ {ds : List D} {zs : List (List Nat)} {vs : List V}, strsD ds = some zs → Reps X.K S.ft S.ac F vs ds → vs = zs.map (fun z => V.str (mkS z)) ∧ ∀ z ∈ zs, OkS z
  | [], zs, vs, e, r => by
    cases e
    cases r
    exact ⟨rfl, fun _ h => by cases h⟩
  | d :: ds, zs, vs, e, r => by
    cases d with
    | str s =>
      obtain ⟨zs', e1, e2⟩ := Option.map_eq_some_iff.mp (show (strsD ds).map (s :: ·) = some zs from e)
      subst e2
      cases r with
      | cons h t =>
        obtain ⟨q1, q2⟩ := strs_of e1 t
        cases h with
        | str _ ok =>
          refine ⟨by rw [q1]; rfl, fun z hz => ?_⟩
          rcases List.mem_cons.mp hz with h | h
          · rw [h]; exact ok
          · exact q2 z h
    | _ => cases e
theorem join_mk (s : List Nat) : ∀ zs : List (List Nat), PySem.Str.join (mkS s) (zs.map mkS) = mkS (joinS s zs)
  | [] => rfl
  | [x] => rfl
  | x :: y :: r => by
    have ih := join_mk s (y :: r)
    show mkS x ++ mkS s ++ PySem.Str.join (mkS s) ((y :: r).map mkS) = mkS (x ++ s ++ joinS s (y :: r))
    rw [ih, mkS_app, mkS_app]
theorem okS_join {s : List Nat} (hs : OkS s) : ∀ {zs : List (List Nat)}, (∀ z ∈ zs, OkS z) → OkS (joinS s zs)
  | [], _ => fun _ h => by cases h
  | [x], h => h x (List.mem_singleton.mpr rfl)
  | x :: y :: r, h => ((h x (List.mem_cons_self ..)).app hs).app (okS_join hs fun z hz => h z (List.mem_cons_of_mem _ hz))
theorem m_join : MtT X S "str" "str.join" isStr pJoin := ⟨fun F H c x dx w r h => ty_str r h, fun F H c x y dx dy r Q w rx ry e k => by
  cases dx with
  | str s =>
    obtain ⟨rfl, ok⟩ := t_str rx
    have fin : ∀ (a : Addr) (vs : List V) (ds : List D) (zs : List (List Nat)), (SqL X.K H a vs ∨ SqT X.K H a vs) → Reps X.K S.ft S.ac F vs ds → strsD ds = some zs → (zs.map (·.length)).sum + zs.length * s.length ≤ line → r = .str (joinS s zs) → wMt X "str.join" (.str (mkS s)) [.ref a] H Q := fun a vs ds zs hq rs e1 hl er => by
      obtain ⟨q1, q2⟩ := strs_of e1 rs
      subst q1
      refine wMt_of mt_join ⟨_, a, zs.map mkS, rfl, rfl, by rw [List.map_map]; exact hq, ?_, ?_⟩
      · rw [List.map_map, List.length_map, mkS_len]
        have e2 : zs.map ((fun z : Str => z.length) ∘ mkS) = zs.map (·.length) := List.map_congr_left fun z _ => mkS_len z
        have e3 : (zs.map (Str.length ∘ mkS)) = zs.map (·.length) := e2
        first | rw [e3] | rw [e2]
        exact hl
      · refine k _ F H (Gr.refl _ _ _ _) w ?_
        rw [show Txt.join (mkS s) (zs.map mkS) = PySem.Str.join (mkS s) (zs.map mkS) from TL.join_eq _ _, join_mk, er]
        exact .str _ (okS_join ok q2)
    cases dy with
    | lst ds =>
      obtain ⟨zs, e1, e2⟩ := Option.bind_eq_some_iff.mp (show (strsD ds).bind (fun zs => if (zs.map (·.length)).sum + zs.length * s.length ≤ line then some (D.str (joinS s zs)) else none) = some r from e)
      obtain ⟨hl, e3⟩ := ite_some e2
      obtain ⟨a, vs, rfl, h, rs⟩ := t_lst w ry
      exact fin a vs ds zs (.inl (SqL.of h)) rs e1 hl e3.symm
    | tup ds =>
      obtain ⟨zs, e1, e2⟩ := Option.bind_eq_some_iff.mp (show (strsD ds).bind (fun zs => if (zs.map (·.length)).sum + zs.length * s.length ≤ line then some (D.str (joinS s zs)) else none) = some r from e)
      obtain ⟨hl, e3⟩ := ite_some e2
      obtain ⟨a, vs, rfl, _, h, rs⟩ := t_tup w ry
      exact fin a vs ds zs (.inr h) rs e1 hl e3.symm
    | scr ns =>
      obtain ⟨zs, e1, e2⟩ := Option.bind_eq_some_iff.mp (show (strsD (ns.map D.int)).bind (fun zs => if (zs.map (·.length)).sum + zs.length * s.length ≤ line then some (D.str (joinS s zs)) else none) = some r from e)
      obtain ⟨hl, e3⟩ := ite_some e2
      obtain ⟨a, rfl, h⟩ := t_scr w ry
      exact fin a _ _ zs (.inl h) (ints_repsK (S := S) (ns := ns)) e1 hl e3.symm
    | _ => cases e
  | _ => cases e⟩
/-! ### isinstance -/
def tyN : Ty → String
  | .int => "int"
  | .bool => "bool"
  | .str => "str"
  | .tuple => "tuple"
  | .list => "list"
  | .dict => "dict"
theorem ty_of {F H : Hp} {c : Cup} {x : V} {d : D} {t : Ty} {b : Bool} (w : Wd F S.ac c H) (r : RepT X.K S F c H x d) (e : isTy t d = some b) : ∃ u, TyX X.K H x u ∧ PySem.W.kitOne X.K u (.type (tyN t)) = some b := by
  cases d with
  | non =>
    rw [t_non r]
    cases e
    exact ⟨_, .base .non, by cases t <;> exact kit_ty (by decide +kernel)⟩
  | bl k =>
    rw [t_bl r]
    cases e
    exact ⟨_, .base (.bl k), by cases t <;> exact kit_ty (by decide +kernel)⟩
  | int i =>
    rw [t_int r]
    cases e
    exact ⟨_, .base (.int i), by cases t <;> exact kit_ty (by decide +kernel)⟩
  | str s =>
    rw [(t_str r).1]
    cases e
    exact ⟨_, .base (.str _), by cases t <;> exact kit_ty (by decide +kernel)⟩
  | tup ds =>
    obtain ⟨a, vs, rfl, _, h, _⟩ := t_tup w r
    cases e
    rcases h with (h | ⟨o, h⟩) | ⟨o, its, n, h1, h2, _⟩
    · exact ⟨_, .base (.tup h), by cases t <;> exact kit_ty (by decide +kernel)⟩
    · exact ⟨_, .fTuple h, by cases t <;> exact kit_ty (by decide +kernel)⟩
    · exact ⟨_, .kTuple h1 h2, by cases t <;> exact kit_ty (by decide +kernel)⟩
  | lst ds =>
    obtain ⟨a, vs, rfl, h, _⟩ := t_lst w r
    cases e
    exact ⟨_, .base (.lst h), by cases t <;> exact kit_ty (by decide +kernel)⟩
  | _ => cases e
theorem boot_isi : bootBuiltins "isinstance" = some (.builtin "isinstance") := by decide +kernel
theorem se_isi (t : Ty) {x2 : Str} {p2 : Pos} {a : Expr} {ea : EV} (hg : Gl X "isinstance") (hm : X.mg "isinstance" = none) (hg2 : Gl X x2) (hm2 : X.mg x2 = none) (hv2 : bootBuiltins x2 = some (.type (tyN t))) (ha : SB X S a ea) (hn2 : x2 ≠ "__name__" := by decide) (hd2 : (x2 == ("__debug__" : Str)) = false := by decide)
    (hs : starEach [a, .Name x2 p2] X.env = (false, eval a X.env) :: starEach [.Name x2 p2] X.env := by rfl) (hs2 : starEach [.Name x2 p2] X.env = (false, eval (.Name x2 p2) X.env) :: starEach [] X.env := by rfl) (hpl : (backTo pos (starEach [.Name x2 p2] X.env)).any (·.1) = false := by rfl) :
    SE X S (.Call (.Name "isinstance" p) [a, .Name x2 p2] [] pos) (e1 (pIsi t) ea) := ⟨fun ρ c F H σ Q w r p => by
  refine tw_of (pe_callB call_isi hg hm boot_isi (pa_cons pe_tw (pa_cons (pe_bltn (v := .ty (tyN t)) hg2 hm2 hv2 rfl hn2 hd2) pa_nil hs2) hs) (by decide) (by decide) hs hpl) ?_
  refine ha.run ρ c F H σ _ w r (p.bind.imp fun d c1 F1 H1 g1 w1 p1 x rx => ?_)
  obtain ⟨r, e, k⟩ := p1.lift
  obtain ⟨b, e1, rfl⟩ := Option.map_eq_some_iff.mp (show (isTy t d).map D.bl = some r from e)
  obtain ⟨u, h1, h2⟩ := ty_of w1 rx e1
  exact ⟨x, .ty (tyN t), u, .type (tyN t), b, rfl, .ty _, h1, h2, k F1 H1 (Gr.refl _ _ _ _) w1 _ (.bl b)⟩⟩
/-! ### a, b = x, y -/
def NewP (K : PySem.W.Frag) (S : Sx) (own : Bool) (c : Cup) (F H Hs : Hp) (v : V) (d : D) : Prop := match own with
  | true => ∃ a, v = .ref a ∧ Own K S F H a d ∧ F a = none ∧ Hs a = none ∧ (c ≠ none → a ≠ S.ac)
  | false => Rep K S.ft S.ac F v d
structure SN (X : Cx) (S : Sx) (own : Bool) (pe : Expr) (e : EV) : Prop where
  run : ∀ (ρ : Env) (c : Cup) (F H : Hp) (σ : L2.St) (Q : VK), Wd F S.ac c H → EnvR X.K S F c H σ ρ → Pst S F c H (e ρ c) (fun d c' F' H' => ∀ v, NewP X.K S own c' F' H' H v d → Q v H') → tw X pe σ H Q
theorem SE.n {pe : Expr} {e : EV} (h : SE X S pe e) : SN X S false pe e := ⟨h.run⟩
theorem SO.n {pe : Expr} {e : EV} (h : SO X S pe e) : SN X S true pe e := ⟨fun ρ c F H σ Q w r p => h.run ρ c F H σ Q w r (p.imp fun d c' F' H' g w' q a o h1 h2 h3 => q _ ⟨a, rfl, o, h1, h2, h3⟩)⟩
def slOf (own : Bool) (d : D) : Sl := if own then .ow d else .sh d
theorem S8.newp {K : PySem.W.Frag} {c0 c : Cup} {F0 H0 Fl F H Hs : Hp} {σ : L2.St} {ρ : Env} (s : S8 K S c0 F0 H0 Fl c F H σ ρ) {own : Bool} {v : V} {d : D} (i : Nat) (n : NewP K S own c F H Hs v d)
    (hn : ∀ a, v = .ref a → Hs a = none → H0 a = none ∧ ∀ (j : Nat) (e : D) (b : Addr), j ≠ i → ρ[j]? = some (.ow e) → σ[j]? = some (some (.ref b)) → b ≠ a) : S8 K S c0 F0 H0 Fl c F H (σ.set i (some v)) (ρ.set i (slOf own d)) := by
  cases own with
  | true =>
    obtain ⟨a, rfl, o, h1, h2, h3⟩ := n
    obtain ⟨x1, x2⟩ := hn a rfl h2
    exact s.own o h1 x1 h3 x2
  | false =>
    refine s.asg (is := [i]) ⟨by simp, by simp, fun j hj => ?_, fun j sl hj h => ?_⟩
    · have hij : i ≠ j := fun z => hj (by rw [z]; exact List.mem_singleton.mpr rfl)
      rw [List.getElem?_set_ne hij, List.getElem?_set_ne hij]
      exact ⟨rfl, rfl⟩
    · cases List.mem_singleton.mp hj
      have hlt : i < ρ.length := by
        have := (List.getElem?_eq_some_iff.mp h).1
        rwa [List.length_set] at this
      rw [List.getElem?_set_self hlt] at h
      cases h
      exact ⟨d, v, rfl, List.getElem?_set_self (by rw [s.e.len]; exact hlt), n⟩
theorem ss_par {i j : Nat} {x y : Str} {oi oj : Bool} {a b : Expr} {ea eb : EV} {px py pt : Pos} {kt k2 pt2} (hc : X.calm = true) (hN : X.N.Nodup) (hi : X.N[i]? = some x) (hj : X.N[j]? = some y) (hij : i ≠ j)
    (hx : X.env.scope.names.lookup x = some .local) (hy : X.env.scope.names.lookup y = some .local) (ha : SN X S oi a ea) (hb : SN X S oj b eb)
    (hw : swappedStores [.Tuple [.Name x px, .Name y py] kt pt] (.Tuple [a, b] k2 pt2) X.env = pure (some [x, y]))
    (hs : swapsWithSole [.Tuple [.Name x px, .Name y py] kt pt] (.Tuple [a, b] k2 pt2) pos.line X.env = pure false := by rfl)
    (hs1 : starEach [a, b] X.env = (false, eval a X.env) :: starEach [b] X.env := by rfl) (hs2 : starEach [b] X.env = (false, eval b X.env) :: starEach [] X.env := by rfl) :
    SS X S (.Assign [.Tuple [.Name x px, .Name y py] kt pt] (.Tuple [a, b] k2 pt2) pos) (sPar2 i oi ea j oj eb) := ⟨fun c0 F0 H0 Fl ρ c F H σ E s q => by
  refine twS_of (ps_par hc hN hi hj hij hx hy (pa_cons pe_tw (pa_cons pe_tw pa_nil hs2) hs1) hw hs) ?_
  refine ha.run ρ c F H σ _ s.w s.e ((fin_bind q s.g).imp fun d c1 F1 H1 g1 w1 q1 v nv => ?_)
  have s1 := s.grow g1 w1
  refine hb.run ρ c1 F1 H1 σ _ w1 s1.e ((fin_bind q1 s1.g).imp fun d2 c2 F2 H2 g2 w2 q2 v2 nv2 => ?_)
  have s2 := s1.grow g2 w2
  have q2 : Fin X.K S c0 F0 H0 Fl E (.ok (.nx, (ρ.set i (slOf oi d)).set j (slOf oj d2), c2)) := q2
  refine ⟨v, v2, rfl, q2 _ F2 H2 ?_⟩
  have old : ∀ {Hs : Hp} {a : Addr} {k : Nat} {e : D} {b : Addr}, (∀ x, H x ≠ none → Hs x ≠ none) → Hs a = none → ρ[k]? = some (.ow e) → σ[k]? = some (some (.ref b)) → b ≠ a := fun hd hs h1 h2 z => by
    obtain ⟨b', x1, x2, _⟩ := s.e.ow _ _ h1
    rw [h2] at x1
    cases x1
    exact hd _ x2.there (by rw [z]; exact hs)
  have h0 : ∀ {Hs : Hp} {a : Addr}, (∀ x, H x ≠ none → Hs x ≠ none) → Hs a = none → H0 a = none := fun {Hs a} hd hs => by
    cases q : H0 a with
    | none => rfl
    | some u => exact absurd hs (hd a (s.g.dom a (by rw [q]; exact fun z => nomatch z)))
  have nv' : NewP X.K S oi c2 F2 H2 H v d := by
    cases oi with
    | true =>
      obtain ⟨a, e, o, h1, h2, h3⟩ := nv
      exact ⟨a, e, o.grow h3 g2, g2.new a h1 o.there, h2, fun z => h3 fun q => z (g2.cc.mp q)⟩
    | false => exact Rep.mono g2.f _ nv
  have s3 := s2.newp i nv' fun a e h => ⟨h0 (Hs := H) (fun _ z => z) h, fun k e' b _ h1 h2 => old (Hs := H) (fun _ z => z) h h1 h2⟩
  refine s3.newp j nv2 fun a e h => ⟨h0 (Hs := H1) g1.dom h, fun k e' b hk h1 h2 => ?_⟩
  by_cases q : k = i
  · subst q
    have hlt : k < ρ.length := by
      have := (List.getElem?_eq_some_iff.mp h1).1
      rwa [List.length_set] at this
    rw [List.getElem?_set_self hlt] at h1
    rw [List.getElem?_set_self (by rw [s.e.len]; exact hlt)] at h2
    cases oi with
    | true =>
      obtain ⟨a', e3, o, _⟩ := nv
      rw [e3] at h2
      cases h2
      exact fun z => o.there (by rw [z]; exact h)
    | false => cases h1
  · rw [List.getElem?_set_ne (Ne.symm q)] at h1 h2
    exact old (Hs := H1) g1.dom h h1 h2⟩
end
/-! ### defs -/
theorem start_get {n : Nat} {ds : List D} {i : Nat} {sl : Sl} (h : (Mi.start n ds)[i]? = some sl) : (∃ d, sl = .sh d ∧ ds[i]? = some d) ∨ sl = .un := by
  unfold Mi.start at h
  by_cases hi : i < ds.length
  · rw [List.getElem?_append_left (by rw [List.length_map]; exact hi), List.getElem?_map] at h
    obtain ⟨d, h1, h2⟩ := Option.map_eq_some_iff.mp h
    exact .inl ⟨d, h2.symm, h1⟩
  · rw [List.getElem?_append_right (by rw [List.length_map]; omega)] at h
    exact .inr (List.eq_of_mem_replicate (List.mem_of_getElem? h))
theorem start_env {K : PySem.W.Frag} {S : Sx} {F H : Hp} {c : Cup} {N : List Str} {vs : List V} {ds : List D} (r : Reps K S.ft S.ac F vs ds) (hN : vs.length ≤ N.length) : EnvR K S F c H (L2.start N vs) (Mi.start N.length ds) where
  len := by
    unfold L2.start Mi.start
    rw [List.length_append, List.length_append, List.length_map, List.length_map, List.length_replicate, List.length_replicate, r.length]
  sh := fun i d h => by
    rcases start_get h with ⟨d', e, h1⟩ | e
    · cases e
      obtain ⟨v, h2, h3⟩ := r.get h1
      refine ⟨v, ?_, h3⟩
      unfold L2.start
      have hi : i < vs.length := (List.getElem?_eq_some_iff.mp h2).1
      rw [List.getElem?_append_left (by rw [List.length_map]; exact hi), List.getElem?_map, h2]
      rfl
    · cases e
  ow := fun i d h => by
    rcases start_get h with ⟨d', e, _⟩ | e
    · cases e
    · cases e
  dist := fun i j d e a _ h => by
    rcases start_get h with ⟨d', e, _⟩ | e
    · cases e
    · cases e
abbrev Z0 : XK → Ex → Cup → Hp → Hp → Prop := fun _ _ _ _ _ => False
/-- a def that raises nothing is what its mirror says -/
theorem fn_ok {P : Program} {w : World} {K : PySem.W.Frag} {mg : Str → Option Value} {base : Heap} {x qual : Str} {params : Arguments} {body : List Stmt} {scope : Scope} {f : Addr} {fd : FuncData} {N ps : List Str} {k n : Nat} {ft : Nat → Addr} {sv : SV}
    (F : FunD K x qual params body scope [] [] f fd) (Sc : FnScope N ps scope) (hn : ps.length = n) (hN : n ≤ N.length)
    (hb : ∀ (cdv : Value) (A : Around) (outer : List PySem.Env) (s : Shared) (H : Hp) (E : XK) (ac : Addr), Room k (A.deeper (envOfC qual scope s.heap.objs.size f cdv)) →
      SSs (cxOf L2.CX0 P w K mg base N qual scope f cdv A outer s H E).nox ⟨ft, ac, fun _ _ _ _ => False⟩ body sv) : FnOk P w K mg base L2.CX0 (k + 1) f fd ps (spM K ft Z0 n (mkF n N.length sv)) := by
  refine F.ok Sc (fun vs H Q E h => by rw [h.1, hn]) fun cdv A outer s H vs Q E hr h => ⟨_, PSs.nox pss_tw, ?_⟩
  obtain ⟨hl, ac, c, F1, ds, w1, rvs, p⟩ := h
  have hds : ds.length = n := by rw [← rvs.length, hl]
  refine (hb cdv A outer s H E ac hr).run c F1 H F1 (Mi.start N.length ds) c F1 H _ _ ⟨w1, start_env rvs (by rw [hl]; exact hN), fun i d a h => ?_, Gr.refl _ _ _ _, Le.refl _⟩ ?_
  · rcases start_get h with ⟨d', e, _⟩ | e
    · cases e
    · cases e
  · unfold mkF at p
    rw [if_pos hds] at p
    cases e : sv (Mi.start N.length ds) c with
    | no => rw [e] at p; exact p
    | err x c1 => rw [e] at p; exact fun F2 H2 w2 g2 => p F2 H2 g2 w2
    | ok r =>
      obtain ⟨t, ρ', c'⟩ := r
      rw [e] at p
      cases t with
      | nx => exact fun σ2 F2 H2 s2 => p F2 H2 s2.g s2.w .non .non
      | bk => exact p.elim
      | ct => exact p.elim
      | rt d => exact fun v F2 H2 w2 g2 rv => p F2 H2 g2 w2 v rv
end Mi
end

section
/-! MiP: sorted. -/
namespace Mi
open PySem PySem.Spec PyProof.Rows L2
/-! ### the order -/
mutual
theorem alike_py : ∀ d e : D, plain d = true → plain e = true → PySem.W.alike (py d) (py e) = Mi.alike d e
  | .non, e, _, k => by cases e <;> first | rfl | cases k
  | .bl _, e, _, k => by cases e <;> first | rfl | cases k
  | .int _, e, _, k => by cases e <;> first | rfl | cases k
  | .str _, e, _, k => by cases e <;> first | rfl | cases k
  | .tup xs, e, h, k => by
    cases e with
    | tup ys =>
      show PySem.W.alike (.tuple (pys xs)) (.tuple (pys ys)) = Mi.alikes xs ys
      simp only [PySem.W.alike]
      exact alikes_py xs ys h k
    | _ => first | rfl | cases k
  | .lst xs, e, h, k => by
    cases e with
    | lst ys =>
      show PySem.W.alike (.list (pys xs)) (.list (pys ys)) = Mi.alikes xs ys
      simp only [PySem.W.alike]
      exact alikes_py xs ys h k
    | _ => first | rfl | cases k
  | .dct _, _, h, _ => by cases h
  | .fn _, _, h, _ => by cases h
  | .cup, _, h, _ => by cases h
  | .scr _, _, h, _ => by cases h
theorem alikes_py : ∀ ds es : List D, plains ds = true → plains es = true → PySem.W.alikeAll (pys ds) (pys es) = Mi.alikes ds es
  | [], es, _, _ => by cases es <;> simp [pys, PySem.W.alikeAll, Mi.alikes]
  | _ :: _, [], _, _ => by simp [pys, PySem.W.alikeAll, Mi.alikes]
  | d :: ds, e :: es, h, k => by
    have h' : (plain d && plains ds) = true := h
    have k' : (plain e && plains es) = true := k
    rw [Bool.and_eq_true] at h' k'
    show PySem.W.alikeAll (py d :: pys ds) (py e :: pys es) = (Mi.alike d e && Mi.alikes ds es)
    rw [PySem.W.alikeAll, alike_py d e h'.1 k'.1, alikes_py ds es h'.2 k'.2]
end
open PySem.W in
mutual
theorem lt_py : ∀ d e : D, plain d = true → plain e = true → Mi.alike d e = true → PySem.W.dataLt (py d) (py e) = ltB d e
  | .non, e, _, _, a => by
    cases e with
    | non =>
      show PySem.W.dataLt .none .none = false
      exact PyProof.Rows.lex_irrefl _
    | _ => cases a
  | .bl x, e, _, _, a => by
    cases e with
    | bl y =>
      show PySem.W.dataLt (.bool x) (.bool y) = (!x && y)
      rw [dataLt_bool]
      cases x <;> cases y <;> rfl
    | _ => cases a
  | .int x, e, _, _, a => by
    cases e with
    | int y => exact dataLt_int x y
    | _ => cases a
  | .str x, e, _, _, a => by
    cases e with
    | str y =>
      show PySem.W.dataLt (.str (mkS x)) (.str (mkS y)) = ltS x y
      rw [dataLt_str, mkS_cps, mkS_cps, ltS_eq]
    | _ => cases a
  | .tup xs, e, h, k, a => by
    cases e with
    | tup ys =>
      show PySem.W.dataLt (.tuple (pys xs)) (.tuple (pys ys)) = ltBs xs ys
      rw [dataLt_tuple]
      exact lts_py xs ys h k a
    | _ => cases a
  | .lst xs, e, h, k, a => by
    cases e with
    | lst ys =>
      show PySem.W.dataLt (.list (pys xs)) (.list (pys ys)) = ltBs xs ys
      rw [dataLt_list]
      exact lts_py xs ys h k a
    | _ => cases a
  | .dct _, _, h, _, _ => by cases h
  | .fn _, _, h, _, _ => by cases h
  | .cup, _, h, _, _ => by cases h
  | .scr _, _, h, _, _ => by cases h
theorem lts_py : ∀ ds es : List D, plains ds = true → plains es = true → Mi.alikes ds es = true → PyProof.Rows.lexLt itemOrd (keyToksAll (pys ds)) (keyToksAll (pys es)) = ltBs ds es
  | [], [], _, _, _ => PyProof.Rows.lex_irrefl _
  | [], e :: es, _, _, _ => by
    show PyProof.Rows.lexLt itemOrd (keyToksAll []) (keyToksAll (py e :: pys es)) = true
    rw [toks_all_cons]
    simp only [keyToksAll]
    rw [lex_diff (O := itemOrd) (by simp)]
    rfl
  | d :: ds, [], _, _, _ => by
    show PyProof.Rows.lexLt itemOrd (keyToksAll (py d :: pys ds)) (keyToksAll []) = false
    rw [toks_all_cons]
    simp only [keyToksAll]
    rw [lex_diff (O := itemOrd) (by simp)]
    rfl
  | d :: ds, e :: es, h, k, a => by
    have h' : (plain d && plains ds) = true := h
    have k' : (plain e && plains es) = true := k
    have a' : (Mi.alike d e && Mi.alikes ds es) = true := a
    rw [Bool.and_eq_true] at h' k' a'
    show PyProof.Rows.lexLt itemOrd (keyToksAll (py d :: pys ds)) (keyToksAll (py e :: pys es)) = (if eqB d e then ltBs ds es else ltB d e)
    rw [dataLt_cons (by rw [alike_py d e h'.1 k'.1]; exact a'.1), py_eqv d e h'.1 k'.1, lts_py ds es h'.2 k'.2 a'.2, lt_py d e h'.1 k'.1 a'.1]
end
/-! ### insertion gives the same -/
def leP : D → D → Bool := PySem.W.dataLe false py
theorem leP_eq {d e : D} (h : plain d = true) (k : plain e = true) (a : Mi.alike e d = true) : leP d e = !ltB e d := by
  show (!PySem.W.dataLt (py e) (py d)) = _
  rw [lt_py e d k h a]
theorem ins_over {x : D} : ∀ {l1 l2 : List D}, (∀ b ∈ l1, ltB b x = true) → ins x (l1 ++ l2) = l1 ++ ins x l2
  | [], _, _ => rfl
  | b :: l1, l2, h => by
    show (if ltB b x = true then b :: ins x (l1 ++ l2) else _) = _
    rw [if_pos (h b (List.mem_cons_self ..)), ins_over fun c hc => h c (List.mem_cons_of_mem _ hc)]
    rfl
theorem plains_mem : ∀ {xs : List D}, plains xs = true → ∀ x ∈ xs, plain x = true
  | [], _, _, h => by cases h
  | d :: ds, h, x, hx => by
    have h' : (plain d && plains ds) = true := h
    rw [Bool.and_eq_true] at h'
    rcases List.mem_cons.mp hx with e | e
    · rw [e]; exact h'.1
    · exact plains_mem h'.2 x e
theorem allAlike_mem : ∀ {xs : List D}, allAlike xs = true → ∀ x ∈ xs, ∀ y ∈ xs, Mi.alike x y = true
  | [], _, _, h => by cases h
  | d :: ds, h, x, hx => fun y hy => by
    have h' : (Mi.alike d d && ds.all (fun y => Mi.alike d y && Mi.alike y d) && allAlike ds) = true := h
    rw [Bool.and_eq_true, Bool.and_eq_true, List.all_eq_true] at h'
    obtain ⟨⟨h1, h2⟩, h3⟩ := h'
    rcases List.mem_cons.mp hx with e | e
    · rcases List.mem_cons.mp hy with e' | e'
      · rw [e, e']; exact h1
      · have := h2 y e'
        rw [Bool.and_eq_true] at this
        rw [e]; exact this.1
    · rcases List.mem_cons.mp hy with e' | e'
      · have := h2 x e
        rw [Bool.and_eq_true] at this
        rw [e']; exact this.2
      · exact allAlike_mem h3 x e y e'
theorem sort_isort : ∀ (xs : List D), (∀ x ∈ xs, plain x = true) → (∀ x ∈ xs, ∀ y ∈ xs, Mi.alike x y = true) → xs.mergeSort leP = isort xs
  | [], _, _ => by rw [List.mergeSort_nil]; rfl
  | x :: xs, hp, ha => by
    have T := PySem.W.sortLe_total (PyProof.Rows.listOrd PyProof.Rows.itemOrd) false fun d : D => PySem.W.keyToks (py d)
    have tr : ∀ a b c : D, leP a b = true → leP b c = true → leP a c = true := T.trans
    have to : ∀ a b : D, (leP a b || leP b a) = true := fun a b => Bool.or_eq_true_iff.mpr (T.total a b)
    obtain ⟨l1, l2, e1, e2, e3⟩ := List.mergeSort_cons tr to x xs
    have ih := sort_isort xs (fun y hy => hp y (List.mem_cons_of_mem _ hy)) fun y hy z hz => ha y (List.mem_cons_of_mem _ hy) z (List.mem_cons_of_mem _ hz)
    have mem : ∀ b ∈ l1 ++ l2, b ∈ xs := fun b hb => by rw [← e2] at hb; exact List.mem_mergeSort.mp hb
    have px := hp x (List.mem_cons_self ..)
    show _ = ins x (isort xs)
    rw [e1, ← ih, e2, ins_over fun b hb => ?_]
    · congr 1
      cases l2 with
      | nil => rfl
      | cons y ys =>
        have hy := mem y (List.mem_append_right _ (List.mem_cons_self ..))
        have pw := List.pairwise_mergeSort (le := leP) tr to (x :: xs)
        rw [e1] at pw
        have le := (List.pairwise_cons.mp (List.pairwise_append.mp pw).2.1).1 y (List.mem_cons_self ..)
        rw [leP_eq px (hp y (List.mem_cons_of_mem _ hy)) (ha y (List.mem_cons_of_mem _ hy) x (List.mem_cons_self ..))] at le
        show _ = if ltB y x = true then _ else _
        rw [if_neg (by cases h : ltB y x <;> simp [h] at le ⊢)]
    · have hb' := mem b (List.mem_append_left _ hb)
      have q := e3 b hb
      rw [leP_eq px (hp b (List.mem_cons_of_mem _ hb')) (ha b (List.mem_cons_of_mem _ hb') x (List.mem_cons_self ..))] at q
      simpa using q
/-! ### collecting -/
section
variable {X : Cx} {S : Sx} {pos p : Pos}
theorem collect_ok (hc : X.calm = true) {A : Around} (hA : A.handled = none) {pins : List (Addr × Obj)} {σ : L2.St} {F H : Hp} {c : Cup} {s : Shared} {x : V} {u : Value} {dx : D} {xs : List D} {Q : List Value → Shared → Prop} {E : Value → Shared → Prop} (I : Inv X pins σ H s) (w : Wd F S.ac c H) (rx : RepT X.K S F c H x dx) (ru : RelV x u)
    (e : items dx = some xs) (hl : xs.length ≤ line) (k : ∀ (us : List Value) (vs : List V) (h' : Heap) (tk : Nat), (∀ b o, s.heap.get? b = some o → h'.get? b = some o) → Vals vs us → Reps X.K S.ft S.ac F vs xs → Q us { s with heap := h', toks := tk }) :
    wpAny (model X.prog X.w) A (collect u) Q E s := by
  have seq : ∀ (a : Addr) (vs : List V) (its : List Value) (T : String) (o : Obj) (n : Nat), (T = "list" ∨ T = "tuple") → s.heap.get? a = some o → o.cls = .type T → o.data = .seq its.toArray n → Vals vs its → Reps X.K S.ft S.ac F vs xs → wpAny (model X.prog X.w) A (collect (.ref a)) Q E s := fun a vs its T o n hT h1 h2 h3 rv rs => by
    refine wpAny_collect_seq a hT h1 h2 h3 (fun h' g => ?_) ?_
    · exact k _ vs h' s.toks g (by simpa using rv) rs
    · rw [List.size_toArray, ← rv.length, rs.length]
      exact le_line hl
  have lst : ∀ (a : Addr) (vs : List V), SqL X.K H a vs → Reps X.K S.ft S.ac F vs xs → wpAny (model X.prog X.w) A (collect (.ref a)) Q E s := fun a vs h rs => by
    obtain ⟨its, rv, pl, _⟩ := I.list h
    obtain ⟨o, ho, hcl, n, hd⟩ := pl.isList
    exact seq a vs its "list" o n (.inl rfl) ho hcl hd rv rs
  cases dx with
  | str z =>
    cases e
    rw [List.length_map] at hl
    obtain ⟨rfl, ok⟩ := t_str rx
    obtain ⟨t, rfl⟩ := ru
    refine wpAny_collect_str hA (mkS z) t (fun s' acc g e1 e2 e3 it => ?_) (by have := mkS_len z; have := le_line hl; unfold Str.length at *; omega)
    have q := k acc.toList _ s'.heap s'.toks g (sign_at it) (signs_repsK ok)
    obtain ⟨h', g', d', t', o'⟩ := s'
    cases (show g' = s.gens from e1)
    cases (show d' = s.drawn from e2)
    cases (show o' = s.os from e3)
    exact q
  | tup ds =>
    cases e
    obtain ⟨a, vs, rfl, _, h, rs⟩ := t_tup w rx
    cases ru
    obtain ⟨its, rv, ⟨o, ho, hcl, n, hd⟩, _⟩ := I.tuple h
    exact seq a vs its "tuple" o n (.inr rfl) ho hcl hd rv rs
  | lst ds =>
    cases e
    obtain ⟨a, vs, rfl, h, rs⟩ := t_lst w rx
    cases ru
    exact lst a vs (SqL.of h) rs
  | scr ns =>
    cases e
    obtain ⟨a, rfl, h⟩ := t_scr w rx
    cases ru
    exact lst a _ h ints_repsK
  | dct kvs =>
    cases e
    obtain ⟨a, ks, rfl, h, rs⟩ := t_dct w rx
    cases ru
    obtain ⟨z, lo, vs, rel, dd⟩ := dk_rd I.hok h
    obtain ⟨ep, hat⟩ := dd.dictAt
    refine PySem.W.kdu_collect (PySem.W.kdl_dict (knd := mixKind X.prog X.w) (kvs := vs) (ep := ep) lo) hA hat (by rw [← rel.length]; exact z) fun h' tk acc g it => ?_
    have ek : (ks.map fun kv => kV kv.1) = vs.map fun p => kV p.1 := by
      have e := congrArg (List.map kV) rel.keys
      rw [List.map_map, List.map_map] at e
      exact e
    have hv : Vals (vs.map fun p => kV p.1) acc.toList := keys_at (by rw [Array.length_toList]; exact it.1) fun j v e => it.2 j v (by rw [← Array.getElem?_toList]; exact e)
    exact k _ _ h' tk g (by rw [ek]; exact hv) (keys_reps rs)
  | _ => cases e
end
mutual
theorem reads_lt {h : Heap} : ∀ {v : Value} {d : PyData} {as : List Addr}, Reads h v d as → ∀ a ∈ as, a < h.objs.size
  | _, _, _, .none, _, ha => by cases ha
  | _, _, _, .bool _, _, ha => by cases ha
  | _, _, _, .int _ _, _, ha => by cases ha
  | _, _, _, .str _ _, _, ha => by cases ha
  | _, _, _, .list h1 _ _ r, a, ha => by
    rcases List.mem_cons.mp ha with e | e
    · rw [e]; exact Heap.lt_size h1
    · exact readsAll_lt r a e
  | _, _, _, .tuple _ _ _ r, a, ha => readsAll_lt r a ha
  | _, _, _, .dict h1 _ _ r r', a, ha => by
    rcases List.mem_append.mp ha with e | e
    · rcases List.mem_cons.mp e with e | e
      · rw [e]; exact Heap.lt_size h1
      · exact readsAll_lt r a e
    · exact readsAll_lt r' a e
theorem readsAll_lt {h : Heap} : ∀ {vs : List Value} {ds : List PyData} {as : List Addr}, ReadsAll h vs ds as → ∀ a ∈ as, a < h.objs.size
  | _, _, _, .nil, _, ha => by cases ha
  | _, _, _, .cons r r', a, ha => by
    rcases List.mem_append.mp ha with e | e
    · exact reads_lt r a e
    · exact readsAll_lt r' a e
end
section
variable {X : Cx} {S : Sx} {pos p : Pos}
/-- what may be put in order -/
def okSort (xs : List D) : Bool := flats xs && allAlike xs && (xs.all noTup || xs.all isTup1) && decide (xs.length ≤ line)
theorem zip_vals : ∀ {vs : List V} {xs : List D} {us : List Value}, Vals vs us → vs.length = xs.length → PySem.W.EachIs (fun u (b : V × D) => RelV b.1 u) us (vs.zip xs)
  | _, xs, _, .nil, hl => by
    cases xs with
    | nil => exact .nil
    | cons => simp at hl
  | _, xs, _, .cons r t, hl => by
    cases xs with
    | nil => simp at hl
    | cons x xs => exact .cons r (zip_vals t (by simpa using hl))
theorem each_vals : ∀ {us : List Value} {bs : List (V × D)}, PySem.W.EachIs (fun u (b : V × D) => RelV b.1 u) us bs → Vals (bs.map (·.1)) us
  | _, _, .nil => .nil
  | _, _, .cons r t => .cons r (each_vals t)
theorem zip_reps {F : Hp} : ∀ {vs : List V} {xs : List D}, Reps X.K S.ft S.ac F vs xs → ∀ b ∈ vs.zip xs, Rep X.K S.ft S.ac F b.1 b.2
  | _, _, .nil, _, hb => by cases hb
  | _, _, .cons r t, b, hb => by
    rw [List.zip_cons_cons] at hb
    rcases List.mem_cons.mp hb with e | e
    · rw [e]; exact r
    · exact zip_reps t b e
theorem reps_pairs {F : Hp} : ∀ {bs : List (V × D)}, (∀ b ∈ bs, Rep X.K S.ft S.ac F b.1 b.2) → Reps X.K S.ft S.ac F (bs.map (·.1)) (bs.map (·.2))
  | [], _ => .nil
  | b :: bs, h => .cons (h b (List.mem_cons_self ..)) (reps_pairs fun c hc => h c (List.mem_cons_of_mem _ hc))
theorem deps_mem : ∀ {xs : List D}, ∀ x ∈ xs, dep x ≤ deps xs
  | [], _, h => by cases h
  | d :: ds, x, hx => by
    show dep x ≤ max (dep d) (deps ds)
    rcases List.mem_cons.mp hx with e | e
    · rw [e]; exact Nat.le_max_left _ _
    · exact Nat.le_trans (deps_mem x e) (Nat.le_max_right _ _)
theorem okSort_iff {xs : List D} (h : okSort xs = true) : (∀ x ∈ xs, plain x = true) ∧ (∀ x ∈ xs, ∀ y ∈ xs, Mi.alike x y = true) ∧ ((xs.all noTup || xs.all isTup1) = true) ∧ xs.length ≤ line ∧ ∀ x ∈ xs, dep x ≤ 58 := by
  unfold okSort at h
  rw [Bool.and_eq_true, Bool.and_eq_true, Bool.and_eq_true, decide_eq_true_eq] at h
  obtain ⟨⟨⟨h1, h2⟩, h3⟩, h4⟩ := h
  obtain ⟨p1, p2⟩ := flats_iff.mp h1
  exact ⟨plains_mem p1, allAlike_mem h2, h3, h4, fun x hx => Nat.le_trans (deps_mem x hx) p2⟩
/-- what stands behind the collecting: the new list is sorted -/
theorem sort_tail (hc : X.calm = true) {A : Around} (hA : A.units + 64 < cLine) {pins : List (Addr × Obj)} {σ : L2.St} {F H : Hp} {c : Cup} {s : Shared} {xs : List D} {us : List Value} {vs : List V} {Q : PySem.Fin → Shared → Prop} {E : Value → Shared → Prop} (I : Inv X pins σ H s) (w : Wd F S.ac c H)
    (rv : Vals vs us) (rs : Reps X.K S.ft S.ac F vs xs) (ok : okSort xs = true)
    (k : ∀ (L : Addr) (vs' : List V) (s' : Shared), Reps X.K S.ft S.ac F vs' (isort xs) → H L = none → Inv X pins σ (upd H L (.lst vs')) s' → Q (.done (.ret (.ref L))) s') :
    wpAny (model X.prog X.w) A (do
      let l ← newList us
      let _ ← holding [l] (call (.builtin "list.sort") [l] [])
      ret l) Q E s := by
  obtain ⟨hp, hal, hso, hln, hdp⟩ := okSort_iff ok
  have hvx : vs.length = xs.length := rs.length
  have hux : us.length = xs.length := by rw [← rv.length, hvx]
  refine wpAny_bind (wpAny_newList ?_ (by rw [hux]; exact le_line hln))
  have hoL : (s.heap.push (seqObj "list" us.toArray 0)).get? s.heap.objs.size = some (seqObj "list" us.toArray 0) := Heap.get?_push_size _ rfl
  have bmap : (vs.zip xs).map (fun b => py b.2) = xs.map py := by
    rw [show (fun b : V × D => py b.2) = py ∘ Prod.snd from rfl, ← List.map_map, List.map_snd_zip (by omega)]
  have bmem : ∀ b ∈ vs.zip xs, b.2 ∈ xs := fun b hb => (List.of_mem_zip (a := b.1) (b := b.2) hb).2
  refine wpAny_bind (wpAny_holding (PySem.W.list_sort_data (bs := vs.zip xs) (enc := fun b => py b.2) (R := fun u b => RelV b.1 u) (s := { s with heap := s.heap.push (seqObj "list" us.toArray 0) }) (vs := us) hoL (zip_vals rv hvx) ?_ ?_ ?_ ?_ ?_ fun out hlen eo => ?_))
  · have er : ∀ {us : List Value} {bs : List (V × D)}, PySem.W.EachIs (fun u (b : V × D) => RelV b.1 u) us bs → (∀ b ∈ bs, b ∈ vs.zip xs) → PySem.W.EachIs (fun v (b : V × D) => ∃ as, Reads (s.heap.push (seqObj "list" us.toArray 0)) v (py b.2) as ∧ s.heap.objs.size ∉ as) us bs → True := fun _ _ _ => trivial
    have go : ∀ {us' : List Value} {bs : List (V × D)}, PySem.W.EachIs (fun u (b : V × D) => RelV b.1 u) us' bs → (∀ b ∈ bs, b ∈ vs.zip xs) → PySem.W.EachIs (fun v (b : V × D) => ∃ as, Reads (s.heap.push (seqObj "list" us.toArray 0)) v (py b.2) as ∧ s.heap.objs.size ∉ as) us' bs := fun {us' bs} e => by
      induction e with
      | nil => exact fun _ => .nil
      | @cons u b us1 bs1 r t ih =>
        intro hm
        refine .cons ?_ (ih fun b hb => hm b (List.mem_cons_of_mem _ hb))
        have hb := hm b (List.mem_cons_self ..)
        obtain ⟨dp, _⟩ := (zip_reps rs b hb).dp w.fh _ (hp _ (bmem b hb))
        obtain ⟨as, ra⟩ := Dp.reads I _ _ _ dp r
        exact ⟨as, PyProof.Rows.Reads.keeps (fun b o e => Heap.get?_push_of_some _ e) ra, fun hm => absurd (reads_lt ra _ hm) (Nat.lt_irrefl _)⟩
    exact go (zip_vals rv hvx) fun b hb => hb
  · rw [bmap]
    intro d hd d' hd'
    obtain ⟨x, hx, rfl⟩ := List.mem_map.mp hd
    obtain ⟨y, hy, rfl⟩ := List.mem_map.mp hd'
    rw [alike_py x y (hp x hx) (hp y hy)]
    exact hal x hx y hy
  · rw [bmap]
    rw [Bool.or_eq_true, List.all_eq_true, List.all_eq_true] at hso
    rcases hso with h | h
    · refine .inr fun d hd => ?_
      obtain ⟨x, hx, rfl⟩ := List.mem_map.mp hd
      have q := h x hx
      have pl := hp x hx
      cases x <;> first | (simp [py]; done) | (simp [noTup] at q; done) | (simp [plain] at pl; done)
    · refine .inl fun d hd => ?_
      obtain ⟨x, hx, rfl⟩ := List.mem_map.mp hd
      have q := h x hx
      cases x with
      | tup ds =>
        cases ds with
        | nil => cases q
        | cons d r => exact ⟨py d, pys r, rfl⟩
      | _ => cases q
  · rw [List.length_zip]
    have := le_line hln
    omega
  · intro b hb
    rw [py_depth]
    have := hdp _ (bmem b hb)
    omega
  · have hms : ((vs.zip xs).mergeSort (PySem.W.dataLe false fun b : V × D => py b.2)).map (·.2) = isort xs := by
      refine (PySem.W.sort_maps (r := PySem.W.dataLe false fun b : V × D => py b.2) (s := leP) Prod.snd (l := vs.zip xs) fun a _ b _ => rfl).trans ?_
      rw [List.map_snd_zip (by omega), sort_isort xs hp hal]
    refine wpAny_pure ?_
    obtain ⟨e', he'⟩ := PyProof.Rows.sortedHeap_at (vs := us) (out := out.toArray) hoL
    have rp := reps_pairs (X := X) (S := S) (F := F) (bs := (vs.zip xs).mergeSort (PySem.W.dataLe false fun b : V × D => py b.2)) fun b hb => zip_reps rs b (List.mem_mergeSort.mp hb)
    rw [hms] at rp
    have hn : H s.heap.objs.size = none := I.hok.fresh (Nat.le_refl _)
    refine k _ _ _ rp hn (I.laid (t' := s.toks) (fun b u e => ?_) (Nat.le_refl _) (show ObjOk X.prog X.w _ _ _ (.lst _) from ⟨?_, out, e', each_vals eo, he'⟩))
    · have hb : b < s.heap.objs.size := Heap.lt_size e
      rw [PyProof.Rows.sortedHeap_old (Nat.ne_of_lt hb) (by rw [size_push']; exact Nat.lt_succ_of_lt hb)]
      exact Heap.get?_push_of_some _ e
    · rw [List.length_map, List.length_mergeSort, List.length_zip]
      have := le_line hln
      omega
theorem cl_sorted (hc : X.calm = true) (hu : X.A.units + 65 < cLine) : ClO X S (.builtin "sorted") pSorted := fun F H c x dx r Q w rx e k => by
  obtain ⟨xs, hx, e⟩ := Option.bind_eq_some_iff.mp e
  obtain ⟨ok, rfl⟩ := ite_some e
  have ok : okSort xs = true := ok
  have hl := (okSort_iff ok).2.2.2.1
  intro pins s σ us I rv
  obtain ⟨u, rfl, ru⟩ := vals1 rv
  refine Calls.call_function_entry PyProof.Rows.kind_sorted PyProof.Rows.plain_sorted PyProof.Rows.entry_sorted (PyProof.Rows.args_sorted1 _) ?_
  unfold Builtin.«sorted»
  refine wpAny_bind (m := checkCount "sorted" 1 1 _) (wpAny_pure ?_)
  refine wpAny_bind (collect_ok hc (A := X.A.in1) (I.ok.hd hc) I w rx ru hx hl fun us vs h' tk g rv rs => ?_)
  have I1 : Inv X pins σ H { s with heap := h', toks := tk } := I.kept g
  refine sort_tail hc (A := X.A.in1) (by show X.A.units + 1 + 64 < cLine; omega) I1 w rv rs ok fun L vs' s' rs' hn I' => ⟨_, rfl, .ref L, _, I', rfl, ?_⟩
  · exact k L _ _ (Gr.laidO hn) (w.laidO hn _) (.lst upd_same rs') (w.free hn) hn fun z e => by
      cases hcu : c with
      | none => exact z hcu
      | some xy =>
        obtain ⟨_, h2⟩ := w.cup xy.1 xy.2 (by rw [hcu])
        rw [e, h2] at hn
        cases hn
end
end Mi
end

section
/-! MiQ: sorted(set(..)), len(set(..)) of ints and texts. -/
namespace Mi
open PySem PySem.Spec PyProof.Rows L2
/-! ### keys, each once -/
def addK (ks : List Key) (k : Key) : List Key := if (ks.any fun j => decide (j = k)) = true then ks else ks ++ [k]
theorem addK_in {ks : List Key} {k : Key} (h : k ∈ ks) : addK ks k = ks := by
  unfold addK
  rw [if_pos (List.any_eq_true.mpr ⟨k, h, decide_eq_true rfl⟩)]
theorem addK_out {ks : List Key} {k : Key} (h : k ∉ ks) : addK ks k = ks ++ [k] := by
  unfold addK
  rw [if_neg]
  intro q
  obtain ⟨j, hj, e⟩ := List.any_eq_true.mp q
  exact h (by rw [← of_decide_eq_true e]; exact hj)
def onceK (ks : List Key) : List Key := ks.foldl addK []
theorem onceK_app (ks : List Key) (k : Key) : onceK (ks ++ [k]) = addK (onceK ks) k := by
  unfold onceK
  rw [List.foldl_append]
  rfl
theorem addK_nodup {ks : List Key} (h : ks.Nodup) (k : Key) : (addK ks k).Nodup := by
  by_cases q : k ∈ ks
  · rw [addK_in q]; exact h
  · rw [addK_out q]
    exact List.nodup_append.mpr ⟨h, by simp, fun a ha b hb e => q (by rw [List.mem_singleton.mp hb] at e; rw [← e]; exact ha)⟩
theorem addK_len (ks : List Key) (k : Key) : (addK ks k).length ≤ ks.length + 1 := by
  by_cases q : k ∈ ks
  · rw [addK_in q]; omega
  · rw [addK_out q, List.length_append, List.length_singleton]; omega
theorem addK_mem {ks : List Key} {k j : Key} : j ∈ addK ks k ↔ j ∈ ks ∨ j = k := by
  by_cases q : k ∈ ks
  · rw [addK_in q]
    exact ⟨.inl, fun h => h.elim id fun e => e ▸ q⟩
  · rw [addK_out q, List.mem_append, List.mem_singleton]
theorem foldK_len : ∀ (ks : List Key) (acc : List Key), (ks.foldl addK acc).length ≤ acc.length + ks.length
  | [], acc => Nat.le_refl _
  | k :: ks, acc => by
    have h1 := foldK_len ks (addK acc k)
    have h2 := addK_len acc k
    rw [List.foldl_cons, List.length_cons]
    omega
theorem foldK_nodup : ∀ (ks : List Key) {acc : List Key}, acc.Nodup → (ks.foldl addK acc).Nodup
  | [], _, h => h
  | k :: ks, _, h => foldK_nodup ks (addK_nodup h k)
theorem foldK_mem {j : Key} : ∀ (ks : List Key) (acc : List Key), j ∈ ks.foldl addK acc ↔ j ∈ acc ∨ j ∈ ks
  | [], acc => by simp
  | k :: ks, acc => by
    rw [List.foldl_cons, foldK_mem ks, addK_mem, List.mem_cons, or_assoc]
theorem onceK_len (ks : List Key) : (onceK ks).length ≤ ks.length := by
  have := foldK_len ks []
  simpa [onceK] using this
/-! ### a set of such keys in the heap -/
/-- an entry that stands for a key -/
def EnK (w : World) (k : Key) (e : Int × Value) : Prop := keyIs k e.2 = true ∧ e.1 = keyH w k
theorem EnK.scan {w : World} {k : Key} {e : Int × Value} (h : EnK w k e) : e.2.scannable = true := by
  rcases keyIs_shape h.1 with ⟨i, t, _, q⟩ | ⟨x, t, _, q⟩ <;> rw [q] <;> rfl
structure SetM (w : World) (h : Heap) (a : Addr) (ks : List Key) : Prop where
  ex : ∃ o es ep t, h.get? a = some o ∧ o.ExactSet ∧ o.data = .set es ep t ∧ (∃ l : List Key, l.Perm ks ∧ Paired (EnK w) l es.toList) ∧ es.size < scanBound ∧ t.fits es.size = true ∧ Ris t.place.toList ∧ (w.params.followText "set-order" = true ∨ t.led = true)
  nd : ks.Nodup
theorem SetM.at {w : World} {h h' : Heap} {a : Addr} {ks : List Key} (m : SetM w h a ks) (k : ∀ o, h.get? a = some o → h'.get? a = some o) : SetM w h' a ks :=
  ⟨let ⟨o, es, ep, t, ho, r⟩ := m.ex; ⟨o, es, ep, t, k o ho, r⟩, m.nd⟩
theorem paired_len {α β : Type} {R : α → β → Prop} : ∀ {l : List α} {m : List β}, Paired R l m → l.length = m.length
  | _, _, .nil => rfl
  | _, _, .cons _ t => by rw [List.length_cons, List.length_cons, paired_len t]
theorem paired_elems {P : Program} {w : World} : ∀ {l : List Key} {m : List (Int × Value)}, Paired (EnK w) l m → ElemsOf (mixKind P w) m
  | _, _, .nil => fun e he => by cases he
  | _, _, .cons h t => fun e he => by
    rcases List.mem_cons.mp he with q | q
    · rw [q]; exact ⟨⟨_, h.1, h.2⟩, h.scan⟩
    · exact paired_elems (P := P) t e q
theorem paired_mem {w : World} {k : Key} : ∀ {l : List Key} {m : List (Int × Value)}, Paired (EnK w) l m → (k ∈ l ↔ ∃ e ∈ m, keyIs k e.2 = true)
  | _, _, .nil => ⟨fun h => (by cases h), fun ⟨_, h, _⟩ => (by cases h)⟩
  | _, _, @Paired.cons _ _ _ k' e' _ _ h t => by
    have ih := paired_mem (k := k) t
    constructor
    · intro q
      rcases List.mem_cons.mp q with q | q
      · exact ⟨e', List.mem_cons_self .., by rw [q]; exact h.1⟩
      · obtain ⟨e, he, hk⟩ := ih.mp q
        exact ⟨e, List.mem_cons_of_mem _ he, hk⟩
    · rintro ⟨e, he, hk⟩
      rcases List.mem_cons.mp he with q | q
      · rw [q] at hk
        have : k = k' := by
          rcases keyIs_shape hk with ⟨i, t, rfl, e1⟩ | ⟨x, t, rfl, e1⟩
          · rcases keyIs_shape h.1 with ⟨j, t', rfl, e2⟩ | ⟨y, t', rfl, e2⟩
            · rw [e1] at e2; cases e2; rfl
            · rw [e1] at e2; cases e2
          · rcases keyIs_shape h.1 with ⟨j, t', rfl, e2⟩ | ⟨y, t', rfl, e2⟩
            · rw [e1] at e2; cases e2
            · rw [e1] at e2; cases e2; rfl
        rw [this]
        exact List.mem_cons_self ..
      · exact List.mem_cons_of_mem _ (ih.mpr ⟨e, q, hk⟩)
theorem paired_perm {w : World} : ∀ {m m' : List (Int × Value)}, m.Perm m' → ∀ {l : List Key}, Paired (EnK w) l m → ∃ l', l.Perm l' ∧ Paired (EnK w) l' m' := by
  intro m m' p
  induction p with
  | nil => exact fun h => ⟨_, List.Perm.refl _, h⟩
  | cons x _ ih =>
    intro l h
    cases h with
    | cons h t =>
      obtain ⟨l', p', q⟩ := ih t
      exact ⟨_, p'.cons _, .cons h q⟩
  | swap x y _ =>
    intro l h
    cases h with
    | cons h t =>
      cases t with
      | cons h' t => exact ⟨_, List.Perm.swap .., .cons h' (.cons h t)⟩
  | trans _ _ ih1 ih2 =>
    intro l h
    obtain ⟨l1, p1, q1⟩ := ih1 h
    obtain ⟨l2, p2, q2⟩ := ih2 q1
    exact ⟨l2, p1.trans p2, q2⟩
section
variable {P : Program} {w : World} {A : Around} {E : Value → Shared → Prop} {s : Shared} {a : Addr} {ks : List Key}
theorem setM_tail {g : Bool → Sem Unit} (hg : ∀ (b : Bool) (s₁ : Shared) (Q' : Unit → Shared → Prop), Q' () s₁ → wpAny (model P w) A (g b) Q' E s₁) {o : Obj} {es : Array (Int × Value)} {ep : Nat} {t : SetTable} (ho : s.heap.get? a = some o) (hex : o.ExactSet) (hd : o.data = .set es ep t)
    {es1 : Array (Int × Value)} {t2 : SetTable} {ks' l1 : List Key} (p1 : l1.Perm ks') (r1 : Paired (EnK w) l1 es1.toList) (nd1 : ks'.Nodup) (hb1 : es1.size < scanBound) (hf2 : t2.fits es1.size = true) (hr : Ris t2.place.toList) (hl : w.params.followText "set-order" = true ∨ t2.led = true)
    {old : Bool} {R : Option Bool → Shared → Prop} (hR : ∀ h', Heap.SameBut a s.heap h' → SetM w h' a ks' → R (some true) { s with heap := h' }) :
    wpAny (model P w) A (do
        storeSet a es1 t2
        if (!old && t2.tooFull) = true then do
            g (relayAll t2 es1 (SetTable.grown es1.size)).2.2
            storeSet a (relayAll t2 es1 (SetTable.grown es1.size)).1 (relayAll t2 es1 (SetTable.grown es1.size)).2.1
            pure (some true)
          else pure (some true)) R E s := by
  refine wpAny_bind (wpAny_storeSet_of ho hd ?_ (fits_of_scanBound hb1))
  have o1 := store_at (es' := es1) (t' := t2) ho hd
  have sb := Heap.SameBut.update s.heap a (Obj.putSet es1 t2)
  split
  · have pm := relayAll_perm t2 es1 (SetTable.grown es1.size)
    have f3 := relayAll_fits t2 es1 (SetTable.grown es1.size)
    have r3 := relayAll_ris t2 es1 (SetTable.grown es1.size)
    have l3 := relayAll_led t2 es1 (SetTable.grown es1.size)
    generalize relayAll t2 es1 (SetTable.grown es1.size) = Z at pm f3 r3 l3 ⊢
    obtain ⟨es2, t3, gave⟩ := Z
    dsimp only at pm f3 r3 l3 ⊢
    have z2 : es2.size = es1.size := by rw [← Array.length_toList, pm.length_eq, Array.length_toList]
    have b2 : es2.size < scanBound := by rw [z2]; exact hb1
    refine wpAny_bind (hg _ _ _ ?_)
    refine wpAny_bind (wpAny_storeSet_of o1 rfl ?_ (fits_of_scanBound b2))
    have o2 := store_at (es' := es2) (t' := t3) o1 rfl
    obtain ⟨l2, p2, r2⟩ := paired_perm pm.symm r1
    exact wpAny_pure (hR _ (sb.trans (Heap.SameBut.update _ a _)) ⟨⟨_, es2, _, t3, o2, hex, rfl, ⟨l2, p2.symm.trans p1, r2⟩, b2, f3, r3, hl.imp id fun z => by rw [l3]; exact z⟩, nd1⟩)
  · exact wpAny_pure (hR _ sb ⟨⟨_, es1, _, t2, o1, hex, rfl, ⟨l1, p1, r1⟩, hb1, hf2, hr, hl⟩, nd1⟩)
theorem setM_add {k : Key} {v : Value} (hv : keyIs k v = true) {Q : Bool → Shared → Prop} (R : SetM w s.heap a ks) (room : ks.length + 1 < scanBound) (hQ : ∀ b h', Heap.SameBut a s.heap h' → SetM w h' a (addK ks k) → Q b { s with heap := h' }) :
    wpAny (model P w) A (setAddHashed a v ((mixKind P w).hash k)) Q E s := by
  obtain ⟨⟨o, es, ep, t, ho, hex, hd, ⟨l, pl, pr⟩, hb, hf, hr, hl⟩, nd⟩ := R
  have hkey : (mixKind P w).is k v = true := hv
  have hsc : v.scannable = true := by rcases keyIs_shape hv with ⟨i, t, _, q⟩ | ⟨x, t, _, q⟩ <;> rw [q] <;> rfl
  have hel : ElemsOf (mixKind P w) es.toList := paired_elems pr
  have hsz : es.size = ks.length := by rw [← Array.length_toList, ← paired_len pr, pl.length_eq]
  unfold setAddHashed setAddHashedIn
  refine wpAny_holding (wpAny_bind (wpAny_setState_of ho hd hf ?_))
  dsimp only
  rw [byScan_of hsc hb hel]
  simp only [↓reduceIte]
  unfold setAddByScan
  refine wpAny_bind ?_
  refine wpAny_bind (wpAny_rule ?_)
  refine wpAny_bind (wpAny_setScan_of hkey ho hd hf hel ?_)
  cases hfi : List.findIdx? (fun e => (mixKind P w).is k e.2) es.toList with
  | some j =>
    dsimp only
    obtain ⟨hj, pj, _⟩ := List.findIdx?_eq_some_iff_getElem.mp hfi
    have hm : k ∈ ks := pl.mem_iff.mp ((paired_mem pr).mpr ⟨es.toList[j], List.getElem_mem hj, pj⟩)
    refine wpAny_pure (wpAny_pure ?_)
    have e : addK ks k = ks := addK_in hm
    exact hQ _ s.heap (Heap.SameBut.refl a s.heap) (by rw [e]; exact ⟨⟨o, es, ep, t, ho, hex, hd, ⟨l, pl, pr⟩, hb, hf, hr, hl⟩, nd⟩)
  | none =>
    dsimp only
    have hnk : k ∉ ks := fun z => by
      obtain ⟨e, he, q⟩ := (paired_mem pr).mp (pl.mem_iff.mpr z)
      have c := List.findIdx?_eq_none_iff.mp hfi e he
      have q' : (mixKind P w).is k e.2 = true := q
      rw [q'] at c
      cases c
    have ea : addK ks k = ks ++ [k] := addK_out hnk
    have ga : ∀ (b : Bool) {s₁ : Shared} {Q' : Unit → Shared → Prop}, Q' () s₁ → wpAny (model P w) A (match b with | true => rule "set.scan.the-table-gave-way" | false => pure ()) Q' E s₁ :=
      fun b s₁ Q' q => by cases b <;> first | exact wpAny_pure q | exact wpAny_rule q
    have pm := layNew_perm t es ((mixKind P w).hash k) v
    have f1 := layNew_fits t es ((mixKind P w).hash k) v
    have r1 := layNew_ris t es ((mixKind P w).hash k) v hr
    have l1 := layNew_led t es ((mixKind P w).hash k) v
    generalize layNew t es ((mixKind P w).hash k) v = Z at pm f1 r1 l1 ⊢
    obtain ⟨es1, t1, old, gave⟩ := Z
    dsimp only at pm f1 r1 l1 ⊢
    rw [Array.toList_push] at pm
    have pc : es1.toList.Perm (((mixKind P w).hash k, v) :: es.toList) := pm.trans (List.perm_append_singleton _ _)
    have pr0 : Paired (EnK w) (k :: l) (((mixKind P w).hash k, v) :: es.toList) := .cons ⟨hv, rfl⟩ pr
    obtain ⟨l', pl', pr'⟩ := paired_perm pc.symm pr0
    have pk : l'.Perm (addK ks k) := by
      rw [ea]
      exact (pl'.symm.trans (pl.cons k)).trans (List.perm_append_singleton _ _).symm
    have z1 : es1.size = ks.length + 1 := by rw [← Array.length_toList, pc.length_eq, List.length_cons, Array.length_toList, hsz]
    have b1 : es1.size < scanBound := by rw [z1]; exact room
    have ld : w.params.followText "set-order" = true ∨ t1.led = true := hl.imp id fun z => by rw [l1]; exact z
    have nd1 := addK_nodup nd k
    refine wpAny_bind (ga _ ?_)
    split
    · refine wpAny_bind ?_
      rw [hashByValue_scannable 8 hsc]
      refine wpAny_pure ?_
      refine setM_tail ?_ ho hex hd pk pr' nd1 b1 ?_ ?_ ?_ ?_
      · intro b s₁ Q' q; cases b <;> first | exact wpAny_pure q | exact wpAny_rule q
      · first | (split <;> first | exact f1 | exact SetTable.fits_plain_off f1) | exact f1
      · first | (split <;> exact r1) | exact r1
      · first | (split <;> exact ld) | exact ld
      · intro h' sb r; dsimp only; exact wpAny_pure (hQ _ h' sb r)
    · refine wpAny_bind (wpAny_pure ?_)
      simp only [↓reduceIte]
      refine setM_tail ?_ ho hex hd pk pr' nd1 b1 f1 r1 ld ?_
      · intro b s₁ Q' q; cases b <;> first | exact wpAny_pure q | exact wpAny_rule q
      · intro h' sb r; dsimp only; exact wpAny_pure (hQ _ h' sb r)
end
section
variable {prog : Program} {w : World} {A : Around} {R : Result → Shared → Prop} {I : Addr} {fp wr : List Addr} {G : Array GenState → Array GenState → Prop} {n : Nat} {P : Nat → Value → Prop} {St : Nat → Shared → Prop}
/-- the loop that fills the set -/
theorem loopM (W : WalksS prog w A.in1 I fp wr G n P St) (S : Addr) (hSf : S ∉ fp) (ks : List Key) (hn : ks.length = n) (hb : n + 1 < scanBound) (hval : ∀ i v, P i v → ∃ k, ks[i]? = some k ∧ keyIs k v = true) :
    ∀ (m i : Nat) (s : Shared), n - i = m → i ≤ n → St i s → SetM w s.heap S (onceK (ks.take i)) → (∀ s', Moved (S :: wr) G s s' → SetM w s'.heap S (onceK ks) → R (.ok (.ret .none)) s') →
      codeAny (model prog w) A (.builtin "set.update.loop" ⟨[.ref S, .ref I], []⟩) R s := by
  have hSw : S ∉ wr := fun h => hSf (W.sub _ h)
  have sub : ∀ b ∈ wr, b ∈ S :: wr := fun b hb => List.mem_cons_of_mem _ hb
  intro m
  induction m with
  | zero =>
    intro i s hk hi st M hR
    have e : i = n := by omega
    subst e
    refine codeAny_builtin PyProof.Rows.F.entry_set_update_loop ?_
    rw [Around.under_plainId PyProof.Rows.F.plain_set_update_loop _]
    show wpAny _ A.in1 (pyNext (.ref I) >>= _) _ _ s
    refine wpAny_bind (W.done s _ _ st fun s' mv => ?_)
    show wpAny _ A.in1 (ret Value.none) _ _ s'
    rw [← hn, List.take_length] at M
    exact wpAny_pure (hR s' (mv.mono sub) (M.at fun o e => mv.heap S _ hSw e))
  | succ m ih =>
    intro i s hk hi st M hR
    have hlt : i < n := by omega
    refine codeAny_builtin PyProof.Rows.F.entry_set_update_loop ?_
    rw [Around.under_plainId PyProof.Rows.F.plain_set_update_loop _]
    show wpAny _ A.in1 (pyNext (.ref I) >>= _) _ _ s
    refine wpAny_bind (W.item i s _ _ hlt st fun v s' hP st' mv => ?_)
    obtain ⟨k, hk1, hk2⟩ := hval i v hP
    have M' : SetM w s'.heap S (onceK (ks.take i)) := M.at fun o e => mv.heap S _ hSw e
    show wpAny _ A.in1 (holding [v] (setAdd S v) >>= _) _ _ s'
    refine wpAny_bind (wpAny_holding ?_)
    unfold setAdd
    refine wpAny_holding ?_
    refine wpAny_bind ((mixKind prog w).pyHash (k := k) hk2 ?_)
    have room : (onceK (ks.take i)).length + 1 < scanBound := by
      have h1 := onceK_len (ks.take i)
      rw [List.length_take] at h1
      omega
    refine setM_add (s := { s' with toks := s'.toks + 1 }) hk2 M' room fun b h' sb M2 => ?_
    have M3 : SetM w h' S (onceK (ks.take (i + 1))) := by
      rw [List.take_succ, hk1]
      show SetM w h' S (onceK (ks.take i ++ [k]))
      rw [onceK_app]
      exact M2
    refine wpAny_pure ⟨plainId_quiet PyProof.Rows.F.plain_set_update_loop _, ih (i + 1) _ (by omega) hlt (W.frame _ s' _ _ st' (Nat.le_succ _) fun b hb o e => ?_) M3 fun s'' mv2 M4 => ?_⟩
    · rw [sb.2 b (fun h : b = S => hSf (by rw [← h]; exact hb))]; exact e
    · refine hR s'' (Moved.trans W.gtrans ((mv.mono sub).then_heap (Nat.le_succ _) fun b o hb e => ?_) mv2) M4
      rw [sb.2 b (fun h : b = S => hb (by rw [h]; exact List.mem_cons_self))]; exact e
end
/-! ### the call -/
section
variable {prog : Program} {w : World} {A : Around} {E : Value → Shared → Prop} {s : Shared}
/-- the object of a new set -/
abbrev newS (w : World) : Obj := { cls := .type "set", dict := none, data := .set #[] 0 (.fresh 0 0 (!w.params.followText "set-order")) }
theorem newS_set {h : Heap} (w : World) {h' : Heap} {a : Addr} (e : h'.get? a = some (newS w)) : SetM w h' a [] :=
  ⟨⟨newS w, #[], 0, _, e, ⟨rfl, rfl, rfl⟩, rfl, ⟨[], List.Perm.refl _, .nil⟩, (by decide), rfl, List.Pairwise.nil, by
    show _ ∨ (!w.params.followText "set-order") = true
    cases w.params.followText "set-order"
    · exact .inr rfl
    · exact .inl rfl⟩, List.nodup_nil⟩
theorem code_new1 (a : Value) {Q₁ : Value → Shared → Prop} (h : Q₁ (.ref s.heap.objs.size) { s with heap := s.heap.push (newS w) }) : codeAny (model prog w) A (.call (.builtin "set.__new__") ⟨[.type "set", a], []⟩) (wants Q₁ E) s := by
  refine codeAny_of_tree ?_
  show wpAny _ A.in1 (do checkBuiltinCall "set.__new__" ⟨[.type "set", a], []⟩; again (.builtin "set.__new__" ⟨[.type "set", a], []⟩)) _ _ s
  refine wpAny_bind (wpAny_of_eq (F.newCall_set_1 a) (wpAny_pure ⟨plainId_quiet F.plain_set_new _, codeAny_builtin F.entry_set_new ?_⟩))
  rw [Around.under_plainId F.plain_set_new _]
  unfold Builtin.«set.__new__» Builtin.Frozenset.newClass
  have hsub := sub_set_self
  obtain ⟨hp, g, d, tk, os⟩ := s
  dsimp only
  wp_walk
  refine wpAny_askSetting (wpAny_pure ?_)
  dsimp only
  simp only [newObj]
  refine wpAny_bind (wpAny_alloc (wpAny_pure ?_))
  exact wpAny_pure h
theorem call_setL {l : Addr} {items : Array Value} {ks : List Key} {Q : Value → Shared → Prop} (hh : A.handled = none) (hl : s.heap.IsList l items) (hn : ks.length = items.size) (hval : ∀ (i : Nat) (v : Value), items[i]? = some v → ∃ k, ks[i]? = some k ∧ keyIs k v = true) (hb : ks.length + 1 < scanBound)
    (h : ∀ (h' : Heap) (tk : Nat), SetM w h' s.heap.objs.size (onceK ks) → (∀ b o, b < s.heap.objs.size → s.heap.get? b = some o → h'.get? b = some o) → Q (.ref s.heap.objs.size) { s with heap := h', toks := tk }) :
    wpAny (model prog w) A (call (.type "set") [.ref l]) Q E s := by
  obtain ⟨c, tl, hmro⟩ := PySem.F.called_set.mro
  have hmade := PySem.F.called_set.made
  have hsub := PySem.F.called_set.sub
  refine wpAny_call (codeAny_of_tree ?_)
  show wpAny _ _ (callAny (.type "set") _) _ _ _
  refine wpAny_pure ⟨Code.quiet_builtin _ (by decide +kernel), codeAny_builtin PySem.F.entry_type_call ?_⟩
  rw [Around.under_plain (weight_type_call_type "set" [.ref l] []) rfl]
  have h1 := PySem.F.called_set.notType
  have h2 := PySem.F.called_set.canCreate
  have hct := PySem.F.typeCall_set_1 (.ref l)
  repeat (any_goals (first | assumption | wp_step))
  refine codeAny_mono (code_new1 (.ref l) (E := E) (Q₁ := fun obj s₁ => obj = .ref s.heap.objs.size ∧ s₁ = { s with heap := s.heap.push (newS w) }) ⟨rfl, rfl⟩) fun r s₁ hr => ?_
  cases r with
  | error e => exact hr
  | ok fl =>
    cases fl with
    | ret obj =>
      obtain ⟨rfl, rfl⟩ := hr
      have hS : (s.heap.push (newS w)).get? s.heap.objs.size = some (newS w) := Heap.get?_push_size _ rfl
      have hT : Shared.TypeIs { s with heap := s.heap.push (newS w) } (.ref s.heap.objs.size) "set" := ⟨_, hS, rfl⟩
      have hli := PySem.F.called_set.init.lookup
      have hbi := PySem.F.called_set.init.bind (.ref s.heap.objs.size)
      repeat (any_goals (first | assumption | wp_step))
      refine codeAny_mono (codeAny_call_builtin (R := wants (fun r s₂ => r = .none ∧ ∃ h' tk, s₂ = { s with heap := h', toks := tk } ∧ SetM w h' s.heap.objs.size (onceK ks) ∧
          (∀ b o, b < s.heap.objs.size → s.heap.get? b = some o → h'.get? b = some o)) E) PySem.F.called_set.init.plain PySem.F.entry_set_init (check_set_init_1 hT ?_)) fun r₂ s₂ hr₂ => ?_
      · obtain ⟨⟨ocls, odict, odata, oslots⟩, hol, hcl, nl, hdl⟩ := hl
        simp only at hcl hdl
        subst hcl
        subst hdl
        have hol' : (s.heap.push (newS w)).get? l = some { cls := .type "list", dict := odict, data := .seq items nl, slots := oslots } := Heap.get?_push_of_some _ hol
        have hl1 : (s.heap.push (newS w)).IsList l items := ⟨_, hol', rfl, nl, rfl⟩
        have hsls := PySem.F.sub_list_set
        have hslf := PySem.F.sub_list_frozenset
        have hne : (Value.type "list" == Value.type "dict") = false := by decide
        unfold Builtin.«set.__init__» noKeywords Builtin.Frozenset.updateFrom
        generalize hPI : pyIter = PI
        wp_walk
        subst hPI
        refine wpAny_pyIter_list hl1 ?_
        refine wpAny_bind (wpAny_runValue ?_)
        have hh3 : A.in1.in1.in1.handled = none := by simp [hh]
        have hz : (s.heap.push (newS w)).objs.size = s.heap.objs.size + 1 := Heap.size_push ..
        have hneI : l ≠ (s.heap.push (newS w)).objs.size := by rw [hz]; exact Nat.ne_of_lt (Nat.lt_succ_of_lt (Heap.lt_size hol))
        refine loopM (Walks.list hh3 _ l hneI items).toS s.heap.objs.size ?hSf ks ?hsz ?hbb ?hval (items.size - 0) 0 _ (by omega) (Nat.zero_le _) ⟨⟨_, Heap.get?_push_size _ rfl, rfl, rfl⟩, (hl1.push _)⟩ ?hS0 ?hR
        case hSf => 
          rw [hz]
          simp only [List.mem_cons, List.mem_singleton, List.not_mem_nil, or_false, not_or]
          exact ⟨Nat.ne_of_lt (Nat.lt_succ_self _), Nat.ne_of_gt (Heap.lt_size hol)⟩
        case hbb => first | exact hb | (rw [← hn]; exact hb)
        case hsz => exact hn
        case hval => exact hval
        case hS0 => exact newS_set (h := s.heap) w (Heap.get?_push_of_some _ hS)
        case hR =>
          intro s' hm hS'
          obtain ⟨h', g', d', tk', os'⟩ := s'
          cases (show g' = s.gens from hm.gens)
          cases (show d' = s.drawn from hm.drawn)
          cases (show os' = s.os from hm.os)
          show wpAny _ _ _ _ _ _
          refine wpAny_pure ?_
          show wpAny _ _ (ret Value.none) _ _ _
          refine wpAny_pure ⟨rfl, h', tk', rfl, hS', fun b o hb e => ?_⟩
          have b1 : b ≠ s.heap.objs.size := Nat.ne_of_lt hb
          have b2 : b ≠ (s.heap.push (newS w)).objs.size := by rw [hz]; exact Nat.ne_of_lt (Nat.lt_succ_of_lt hb)
          exact hm.heap b o (by simp only [List.mem_cons, List.mem_singleton, List.not_mem_nil, or_false, not_or]; exact ⟨b1, b2⟩) (Heap.get?_push_of_some _ (Heap.get?_push_of_some _ e))
      · cases r₂ with
        | error e => exact hr₂
        | ok fl₂ =>
          cases fl₂ with
          | ret r =>
            obtain ⟨rfl, h', tk, rfl, hS', hk'⟩ := hr₂
            repeat (any_goals (first | assumption | wp_step))
            exact h _ _ hS' hk'
          | _ => exact hr₂.elim
    | _ => exact hr.elim
theorem call_setT {l : Addr} {items : Array Value} {ks : List Key} {Q : Value → Shared → Prop} (hh : A.handled = none) (hl : s.heap.IsTuple l items) (hn : ks.length = items.size) (hval : ∀ (i : Nat) (v : Value), items[i]? = some v → ∃ k, ks[i]? = some k ∧ keyIs k v = true) (hb : ks.length + 1 < scanBound)
    (h : ∀ (h' : Heap) (tk : Nat), SetM w h' s.heap.objs.size (onceK ks) → (∀ b o, b < s.heap.objs.size → s.heap.get? b = some o → h'.get? b = some o) → Q (.ref s.heap.objs.size) { s with heap := h', toks := tk }) :
    wpAny (model prog w) A (call (.type "set") [.ref l]) Q E s := by
  obtain ⟨c, tl, hmro⟩ := PySem.F.called_set.mro
  have hmade := PySem.F.called_set.made
  have hsub := PySem.F.called_set.sub
  refine wpAny_call (codeAny_of_tree ?_)
  show wpAny _ _ (callAny (.type "set") _) _ _ _
  refine wpAny_pure ⟨Code.quiet_builtin _ (by decide +kernel), codeAny_builtin PySem.F.entry_type_call ?_⟩
  rw [Around.under_plain (weight_type_call_type "set" [.ref l] []) rfl]
  have h1 := PySem.F.called_set.notType
  have h2 := PySem.F.called_set.canCreate
  have hct := PySem.F.typeCall_set_1 (.ref l)
  repeat (any_goals (first | assumption | wp_step))
  refine codeAny_mono (code_new1 (.ref l) (E := E) (Q₁ := fun obj s₁ => obj = .ref s.heap.objs.size ∧ s₁ = { s with heap := s.heap.push (newS w) }) ⟨rfl, rfl⟩) fun r s₁ hr => ?_
  cases r with
  | error e => exact hr
  | ok fl =>
    cases fl with
    | ret obj =>
      obtain ⟨rfl, rfl⟩ := hr
      have hS : (s.heap.push (newS w)).get? s.heap.objs.size = some (newS w) := Heap.get?_push_size _ rfl
      have hT : Shared.TypeIs { s with heap := s.heap.push (newS w) } (.ref s.heap.objs.size) "set" := ⟨_, hS, rfl⟩
      have hli := PySem.F.called_set.init.lookup
      have hbi := PySem.F.called_set.init.bind (.ref s.heap.objs.size)
      repeat (any_goals (first | assumption | wp_step))
      refine codeAny_mono (codeAny_call_builtin (R := wants (fun r s₂ => r = .none ∧ ∃ h' tk, s₂ = { s with heap := h', toks := tk } ∧ SetM w h' s.heap.objs.size (onceK ks) ∧
          (∀ b o, b < s.heap.objs.size → s.heap.get? b = some o → h'.get? b = some o)) E) PySem.F.called_set.init.plain PySem.F.entry_set_init (check_set_init_1 hT ?_)) fun r₂ s₂ hr₂ => ?_
      · obtain ⟨⟨ocls, odict, odata, oslots⟩, hol, hcl, nl, hdl⟩ := hl
        simp only at hcl hdl
        subst hcl
        subst hdl
        have hol' : (s.heap.push (newS w)).get? l = some { cls := .type "tuple", dict := odict, data := .seq items nl, slots := oslots } := Heap.get?_push_of_some _ hol
        have hl1 : (s.heap.push (newS w)).IsTuple l items := ⟨_, hol', rfl, nl, rfl⟩
        have hsls := PySem.F.sub_tuple_set
        have hslf := PySem.F.sub_tuple_frozenset
        have hne : (Value.type "tuple" == Value.type "dict") = false := by decide
        unfold Builtin.«set.__init__» noKeywords Builtin.Frozenset.updateFrom
        generalize hPI : pyIter = PI
        wp_walk
        subst hPI
        refine wpAny_pyIter_tuple hl1 ?_
        refine wpAny_bind (wpAny_runValue ?_)
        have hh3 : A.in1.in1.in1.handled = none := by simp [hh]
        have hz : (s.heap.push (newS w)).objs.size = s.heap.objs.size + 1 := Heap.size_push ..
        have hneI : l ≠ (s.heap.push (newS w)).objs.size := by rw [hz]; exact Nat.ne_of_lt (Nat.lt_succ_of_lt (Heap.lt_size hol))
        refine loopM (Walks.tuple hh3 _ l hneI items).toS s.heap.objs.size ?hSf ks ?hsz ?hbb ?hval (items.size - 0) 0 _ (by omega) (Nat.zero_le _) ⟨⟨_, Heap.get?_push_size _ rfl, rfl, rfl⟩, (hl1.push _)⟩ ?hS0 ?hR
        case hSf => 
          rw [hz]
          simp only [List.mem_cons, List.mem_singleton, List.not_mem_nil, or_false, not_or]
          exact ⟨Nat.ne_of_lt (Nat.lt_succ_self _), Nat.ne_of_gt (Heap.lt_size hol)⟩
        case hbb => first | exact hb | (rw [← hn]; exact hb)
        case hsz => exact hn
        case hval => exact hval
        case hS0 => exact newS_set (h := s.heap) w (Heap.get?_push_of_some _ hS)
        case hR =>
          intro s' hm hS'
          obtain ⟨h', g', d', tk', os'⟩ := s'
          cases (show g' = s.gens from hm.gens)
          cases (show d' = s.drawn from hm.drawn)
          cases (show os' = s.os from hm.os)
          show wpAny _ _ _ _ _ _
          refine wpAny_pure ?_
          show wpAny _ _ (ret Value.none) _ _ _
          refine wpAny_pure ⟨rfl, h', tk', rfl, hS', fun b o hb e => ?_⟩
          have b1 : b ≠ s.heap.objs.size := Nat.ne_of_lt hb
          have b2 : b ≠ (s.heap.push (newS w)).objs.size := by rw [hz]; exact Nat.ne_of_lt (Nat.lt_succ_of_lt hb)
          exact hm.heap b o (by simp only [List.mem_cons, List.mem_singleton, List.not_mem_nil, or_false, not_or]; exact ⟨b1, b2⟩) (Heap.get?_push_of_some _ (Heap.get?_push_of_some _ e))
      · cases r₂ with
        | error e => exact hr₂
        | ok fl₂ =>
          cases fl₂ with
          | ret r =>
            obtain ⟨rfl, h', tk, rfl, hS', hk'⟩ := hr₂
            repeat (any_goals (first | assumption | wp_step))
            exact h _ _ hS' hk'
          | _ => exact hr₂.elim
    | _ => exact hr.elim
theorem call_setA {x : Str} {t : Tok} {ks : List Key} {Q : Value → Shared → Prop} (hh : A.handled = none) (ha : x.cps.all (· < 128) = true) (hn : ks.length = x.cps.size) (hval : ∀ (i : Nat) (v : Value), SignAt x i v → ∃ k, ks[i]? = some k ∧ keyIs k v = true) (hb : ks.length + 1 < scanBound)
    (h : ∀ (h' : Heap) (tk : Nat), SetM w h' s.heap.objs.size (onceK ks) → (∀ b o, b < s.heap.objs.size → s.heap.get? b = some o → h'.get? b = some o) → Q (.ref s.heap.objs.size) { s with heap := h', toks := tk }) :
    wpAny (model prog w) A (call (.type "set") [.str x t]) Q E s := by
  obtain ⟨c, tl, hmro⟩ := PySem.F.called_set.mro
  have hmade := PySem.F.called_set.made
  have hsub := PySem.F.called_set.sub
  refine wpAny_call (codeAny_of_tree ?_)
  show wpAny _ _ (callAny (.type "set") _) _ _ _
  refine wpAny_pure ⟨Code.quiet_builtin _ (by decide +kernel), codeAny_builtin PySem.F.entry_type_call ?_⟩
  rw [Around.under_plain (weight_type_call_type "set" [.str x t] []) rfl]
  have h1 := PySem.F.called_set.notType
  have h2 := PySem.F.called_set.canCreate
  have hct := PySem.F.typeCall_set_1 (.str x t)
  repeat (any_goals (first | assumption | wp_step))
  refine codeAny_mono (code_new1 (.str x t) (E := E) (Q₁ := fun obj s₁ => obj = .ref s.heap.objs.size ∧ s₁ = { s with heap := s.heap.push (newS w) }) ⟨rfl, rfl⟩) fun r s₁ hr => ?_
  cases r with
  | error e => exact hr
  | ok fl =>
    cases fl with
    | ret obj =>
      obtain ⟨rfl, rfl⟩ := hr
      have hS : (s.heap.push (newS w)).get? s.heap.objs.size = some (newS w) := Heap.get?_push_size _ rfl
      have hT : Shared.TypeIs { s with heap := s.heap.push (newS w) } (.ref s.heap.objs.size) "set" := ⟨_, hS, rfl⟩
      have hli := PySem.F.called_set.init.lookup
      have hbi := PySem.F.called_set.init.bind (.ref s.heap.objs.size)
      repeat (any_goals (first | assumption | wp_step))
      refine codeAny_mono (codeAny_call_builtin (R := wants (fun r s₂ => r = .none ∧ ∃ h' tk, s₂ = { s with heap := h', toks := tk } ∧ SetM w h' s.heap.objs.size (onceK ks) ∧
          (∀ b o, b < s.heap.objs.size → s.heap.get? b = some o → h'.get? b = some o)) E) PySem.F.called_set.init.plain PySem.F.entry_set_init (check_set_init_1 hT ?_)) fun r₂ s₂ hr₂ => ?_
      · skip
        have hsls := PySem.F.sub_str_set
        have hslf := PySem.F.sub_str_frozenset
        have hne : (Value.type "str" == Value.type "dict") = false := by decide
        unfold Builtin.«set.__init__» noKeywords Builtin.Frozenset.updateFrom
        generalize hPI : pyIter = PI
        wp_walk
        subst hPI
        refine wpAny_pyIter_ascii ha ?_
        refine wpAny_bind (wpAny_runValue ?_)
        have hh3 : A.in1.in1.in1.handled = none := by simp [hh]
        have hz : (s.heap.push (newS w)).objs.size = s.heap.objs.size + 1 := Heap.size_push ..
        skip
        refine loopM (Walks.strAscii hh3 _ x t).toS s.heap.objs.size ?hSf ks ?hsz ?hbb ?hval (x.cps.size - 0) 0 _ (by omega) (Nat.zero_le _) ⟨_, Heap.get?_push_size _ rfl, rfl, rfl⟩ ?hS0 ?hR
        case hSf => 
          rw [hz]
          simp only [List.mem_cons, List.mem_singleton, List.not_mem_nil, or_false, not_or]
          exact Nat.ne_of_lt (Nat.lt_succ_self _)
        case hbb => first | exact hb | (rw [← hn]; exact hb)
        case hsz => exact hn
        case hval => exact hval
        case hS0 => exact newS_set (h := s.heap) w (Heap.get?_push_of_some _ hS)
        case hR =>
          intro s' hm hS'
          obtain ⟨h', g', d', tk', os'⟩ := s'
          cases (show g' = s.gens from hm.gens)
          cases (show d' = s.drawn from hm.drawn)
          cases (show os' = s.os from hm.os)
          show wpAny _ _ _ _ _ _
          refine wpAny_pure ?_
          show wpAny _ _ (ret Value.none) _ _ _
          refine wpAny_pure ⟨rfl, h', tk', rfl, hS', fun b o hb e => ?_⟩
          have b1 : b ≠ s.heap.objs.size := Nat.ne_of_lt hb
          have b2 : b ≠ (s.heap.push (newS w)).objs.size := by rw [hz]; exact Nat.ne_of_lt (Nat.lt_succ_of_lt hb)
          exact hm.heap b o (by simp only [List.mem_cons, List.mem_singleton, List.not_mem_nil, or_false, not_or]; exact ⟨b1, b2⟩) (Heap.get?_push_of_some _ (Heap.get?_push_of_some _ e))
      · cases r₂ with
        | error e => exact hr₂
        | ok fl₂ =>
          cases fl₂ with
          | ret r =>
            obtain ⟨rfl, h', tk, rfl, hS', hk'⟩ := hr₂
            repeat (any_goals (first | assumption | wp_step))
            exact h _ _ hS' hk'
          | _ => exact hr₂.elim
    | _ => exact hr.elim
theorem call_setW {x : Str} {t : Tok} {ks : List Key} {Q : Value → Shared → Prop} (hh : A.handled = none) (ha : x.cps.all (· < 128) = false) (hn : ks.length = x.cps.size) (hval : ∀ (i : Nat) (v : Value), SignAt x i v → ∃ k, ks[i]? = some k ∧ keyIs k v = true) (hb : ks.length + 1 < scanBound)
    (h : ∀ (h' : Heap) (tk : Nat), SetM w h' s.heap.objs.size (onceK ks) → (∀ b o, b < s.heap.objs.size → s.heap.get? b = some o → h'.get? b = some o) → Q (.ref s.heap.objs.size) { s with heap := h', toks := tk }) :
    wpAny (model prog w) A (call (.type "set") [.str x t]) Q E s := by
  obtain ⟨c, tl, hmro⟩ := PySem.F.called_set.mro
  have hmade := PySem.F.called_set.made
  have hsub := PySem.F.called_set.sub
  refine wpAny_call (codeAny_of_tree ?_)
  show wpAny _ _ (callAny (.type "set") _) _ _ _
  refine wpAny_pure ⟨Code.quiet_builtin _ (by decide +kernel), codeAny_builtin PySem.F.entry_type_call ?_⟩
  rw [Around.under_plain (weight_type_call_type "set" [.str x t] []) rfl]
  have h1 := PySem.F.called_set.notType
  have h2 := PySem.F.called_set.canCreate
  have hct := PySem.F.typeCall_set_1 (.str x t)
  repeat (any_goals (first | assumption | wp_step))
  refine codeAny_mono (code_new1 (.str x t) (E := E) (Q₁ := fun obj s₁ => obj = .ref s.heap.objs.size ∧ s₁ = { s with heap := s.heap.push (newS w) }) ⟨rfl, rfl⟩) fun r s₁ hr => ?_
  cases r with
  | error e => exact hr
  | ok fl =>
    cases fl with
    | ret obj =>
      obtain ⟨rfl, rfl⟩ := hr
      have hS : (s.heap.push (newS w)).get? s.heap.objs.size = some (newS w) := Heap.get?_push_size _ rfl
      have hT : Shared.TypeIs { s with heap := s.heap.push (newS w) } (.ref s.heap.objs.size) "set" := ⟨_, hS, rfl⟩
      have hli := PySem.F.called_set.init.lookup
      have hbi := PySem.F.called_set.init.bind (.ref s.heap.objs.size)
      repeat (any_goals (first | assumption | wp_step))
      refine codeAny_mono (codeAny_call_builtin (R := wants (fun r s₂ => r = .none ∧ ∃ h' tk, s₂ = { s with heap := h', toks := tk } ∧ SetM w h' s.heap.objs.size (onceK ks) ∧
          (∀ b o, b < s.heap.objs.size → s.heap.get? b = some o → h'.get? b = some o)) E) PySem.F.called_set.init.plain PySem.F.entry_set_init (check_set_init_1 hT ?_)) fun r₂ s₂ hr₂ => ?_
      · skip
        have hsls := PySem.F.sub_str_set
        have hslf := PySem.F.sub_str_frozenset
        have hne : (Value.type "str" == Value.type "dict") = false := by decide
        unfold Builtin.«set.__init__» noKeywords Builtin.Frozenset.updateFrom
        generalize hPI : pyIter = PI
        wp_walk
        subst hPI
        refine wpAny_pyIter_wide ha ?_
        refine wpAny_bind (wpAny_runValue ?_)
        have hh3 : A.in1.in1.in1.handled = none := by simp [hh]
        have hz : (s.heap.push (newS w)).objs.size = s.heap.objs.size + 1 := Heap.size_push ..
        skip
        refine loopM (Walks.strWide hh3 _ x t).toS s.heap.objs.size ?hSf ks ?hsz ?hbb ?hval (x.cps.size - 0) 0 _ (by omega) (Nat.zero_le _) ⟨_, Heap.get?_push_size _ rfl, rfl, rfl⟩ ?hS0 ?hR
        case hSf => 
          rw [hz]
          simp only [List.mem_cons, List.mem_singleton, List.not_mem_nil, or_false, not_or]
          exact Nat.ne_of_lt (Nat.lt_succ_self _)
        case hbb => first | exact hb | (rw [← hn]; exact hb)
        case hsz => exact hn
        case hval => exact hval
        case hS0 => exact newS_set (h := s.heap) w (Heap.get?_push_of_some _ hS)
        case hR =>
          intro s' hm hS'
          obtain ⟨h', g', d', tk', os'⟩ := s'
          cases (show g' = s.gens from hm.gens)
          cases (show d' = s.drawn from hm.drawn)
          cases (show os' = s.os from hm.os)
          show wpAny _ _ _ _ _ _
          refine wpAny_pure ?_
          show wpAny _ _ (ret Value.none) _ _ _
          refine wpAny_pure ⟨rfl, h', tk', rfl, hS', fun b o hb e => ?_⟩
          have b1 : b ≠ s.heap.objs.size := Nat.ne_of_lt hb
          have b2 : b ≠ (s.heap.push (newS w)).objs.size := by rw [hz]; exact Nat.ne_of_lt (Nat.lt_succ_of_lt hb)
          exact hm.heap b o (by simp only [List.mem_cons, List.mem_singleton, List.not_mem_nil, or_false, not_or]; exact ⟨b1, b2⟩) (Heap.get?_push_of_some _ (Heap.get?_push_of_some _ e))
      · cases r₂ with
        | error e => exact hr₂
        | ok fl₂ =>
          cases fl₂ with
          | ret r =>
            obtain ⟨rfl, h', tk, rfl, hS', hk'⟩ := hr₂
            repeat (any_goals (first | assumption | wp_step))
            exact h _ _ hS' hk'
          | _ => exact hr₂.elim
    | _ => exact hr.elim
end
end Mi
end

section
/-! MiR: sorted(set(..)). -/
namespace Mi
open PySem PySem.Spec PyProof.Rows L2
/-- a key of a set, back as data -/
def toK : D → Key
  | .int i => .inl i
  | .str s => .inr (mkS s)
  | _ => .inl 0
def dK : Key → D
  | .inl i => .int i
  | .inr z => .str z.cps.toList
theorem dK_toK {d : D} (h : isStr d = true ∨ isInt d = true) : dK (toK d) = d := by
  cases d with
  | int i => rfl
  | str s => show D.str (mkS s).cps.toList = _; rw [mkS_cps]
  | _ => rcases h with h | h <;> cases h
theorem toK_inj {d e : D} (h : isStr d = true ∨ isInt d = true) (k : isStr e = true ∨ isInt e = true) (q : toK d = toK e) : d = e := by
  rw [← dK_toK h, ← dK_toK k, q]
theorem eqB_iff {d e : D} (h : isStr d = true ∨ isInt d = true) (k : isStr e = true ∨ isInt e = true) : eqB d e = true ↔ d = e := by
  cases d with
  | int i =>
    cases e with
    | int j => simp [eqB]
    | str s => simp [eqB]
    | _ => rcases k with k | k <;> cases k
  | str s =>
    cases e with
    | int j => simp [eqB]
    | str t => simp [eqB]
    | _ => rcases k with k | k <;> cases k
  | _ => rcases h with h | h <;> cases h
theorem once_mem {xs : List D} (h : ∀ x ∈ xs, isStr x = true ∨ isInt x = true) : ∀ y, y ∈ once xs ↔ y ∈ xs := by
  induction xs with
  | nil => exact fun y => Iff.rfl
  | cons x xs ih =>
    intro y
    have ih := ih fun z hz => h z (List.mem_cons_of_mem _ hz)
    show y ∈ x :: (once xs).filter (fun y => !eqB x y) ↔ _
    rw [List.mem_cons, List.mem_cons, List.mem_filter, ih]
    constructor
    · exact fun q => q.imp id (·.1)
    · rintro (q | q)
      · exact .inl q
      · by_cases e : eqB x y = true
        · exact .inl ((eqB_iff (h x (List.mem_cons_self ..)) (h y (List.mem_cons_of_mem _ q))).mp e).symm
        · exact .inr ⟨q, by simp [e]⟩
theorem once_nodup {xs : List D} (h : ∀ x ∈ xs, isStr x = true ∨ isInt x = true) : (once xs).Nodup := by
  induction xs with
  | nil => exact List.nodup_nil
  | cons x xs ih =>
    have h' := fun z hz => h z (List.mem_cons_of_mem x hz)
    refine List.nodup_cons.mpr ⟨fun q => ?_, (ih h').sublist List.filter_sublist⟩
    obtain ⟨q1, q2⟩ := List.mem_filter.mp q
    have hx := h x (List.mem_cons_self ..)
    rw [(eqB_iff hx hx).mpr rfl] at q2
    cases q2
theorem onceK_perm {xs : List D} (h : ∀ x ∈ xs, isStr x = true ∨ isInt x = true) {l : List Key} (p : l.Perm (onceK (xs.map toK))) : (l.map dK).Perm (once xs) := by
  have hn : (onceK (xs.map toK)).Nodup := foldK_nodup _ List.nodup_nil
  have mem : ∀ k, k ∈ onceK (xs.map toK) ↔ ∃ x ∈ xs, toK x = k := fun k => by
    unfold onceK
    rw [foldK_mem]
    simp
  have p1 : (l.map dK).Perm ((onceK (xs.map toK)).map dK) := p.map dK
  refine p1.trans ((List.perm_ext_iff_of_nodup ?_ (once_nodup h)).mpr fun d => ?_)
  · rw [List.nodup_iff_pairwise_ne] at hn ⊢
    refine List.pairwise_map.mpr (hn.imp_of_mem fun {a b} ha hb hab q => hab ?_)
    obtain ⟨x, hx, rfl⟩ := (mem a).mp ha
    obtain ⟨y, hy, rfl⟩ := (mem b).mp hb
    rw [dK_toK (h x hx), dK_toK (h y hy)] at q
    rw [q]
  · rw [once_mem h, List.mem_map]
    constructor
    · rintro ⟨k, hk, rfl⟩
      obtain ⟨x, hx, rfl⟩ := (mem k).mp hk
      rw [dK_toK (h x hx)]
      exact hx
    · exact fun hd => ⟨toK d, (mem _).mpr ⟨d, hd, rfl⟩, dK_toK (h d hd)⟩
theorem uni_each {xs : List D} (h : uni xs = true) : ∀ x ∈ xs, isStr x = true ∨ isInt x = true := by
  unfold uni at h
  rw [Bool.or_eq_true, List.all_eq_true, List.all_eq_true] at h
  exact fun x hx => h.imp (fun q => q x hx) fun q => q x hx
theorem uni_sort {xs : List D} (h : uni xs = true) (hl : xs.length ≤ line) : okSort xs = true := by
  have pl : plains xs = true ∧ deps xs = 0 := by
    have each := uni_each h
    clear h hl
    induction xs with
    | nil => exact ⟨rfl, rfl⟩
    | cons x xs ih =>
      obtain ⟨i1, i2⟩ := ih fun y hy => each y (List.mem_cons_of_mem _ hy)
      have hx := each x (List.mem_cons_self ..)
      cases x with
      | int i => exact ⟨i1, by show max 0 (deps xs) = 0; rw [i2]; rfl⟩
      | str s => exact ⟨i1, by show max 0 (deps xs) = 0; rw [i2]; rfl⟩
      | _ => rcases hx with q | q <;> cases q
  have al : allAlike xs = true := by
    unfold uni at h
    rw [Bool.or_eq_true] at h
    clear hl pl
    rcases h with h | h
    · induction xs with
      | nil => rfl
      | cons x xs ih =>
        rw [List.all_cons, Bool.and_eq_true] at h
        obtain ⟨h1, h2⟩ := h
        show (Mi.alike x x && xs.all (fun y => Mi.alike x y && Mi.alike y x) && allAlike xs) = true
        rw [ih h2]
        cases x with
        | str s =>
          have : xs.all (fun y => Mi.alike (.str s) y && Mi.alike y (.str s)) = true := by
            rw [List.all_eq_true] at h2 ⊢
            intro y hy
            have := h2 y hy
            cases y <;> first | rfl | cases this
          rw [this]
          rfl
        | _ => cases h1
    · induction xs with
      | nil => rfl
      | cons x xs ih =>
        rw [List.all_cons, Bool.and_eq_true] at h
        obtain ⟨h1, h2⟩ := h
        show (Mi.alike x x && xs.all (fun y => Mi.alike x y && Mi.alike y x) && allAlike xs) = true
        rw [ih h2]
        cases x with
        | int s =>
          have : xs.all (fun y => Mi.alike (.int s) y && Mi.alike y (.int s)) = true := by
            rw [List.all_eq_true] at h2 ⊢
            intro y hy
            have := h2 y hy
            cases y <;> first | rfl | cases this
          rw [this]
          rfl
        | _ => cases h1
  have nt : xs.all noTup = true := by
    rw [List.all_eq_true]
    intro x hx
    rcases uni_each h x hx with q | q <;> cases x <;> first | rfl | cases q
  unfold okSort flats
  rw [pl.1, pl.2, al, nt, decide_eq_true hl]
  rfl
theorem isort_perm {xs ys : List D} (h : uni xs = true) (p : xs.Perm ys) : isort xs = isort ys := by
  have hy : uni ys = true := by
    unfold uni at h ⊢
    rw [← List.Perm.all_eq p, ← List.Perm.all_eq p]
    exact h
  have ok : ∀ {zs : List D}, uni zs = true → (∀ x ∈ zs, plain x = true) ∧ ∀ x ∈ zs, ∀ y ∈ zs, Mi.alike x y = true := fun {zs} hz => by
    have each := uni_each hz
    unfold uni at hz
    rw [Bool.or_eq_true, List.all_eq_true, List.all_eq_true] at hz
    refine ⟨fun x hx => ?_, fun x hx y hy => ?_⟩
    · rcases each x hx with q | q <;> cases x <;> first | rfl | cases q
    · rcases hz with hz | hz
      · have a := hz x hx
        have b := hz y hy
        cases x with
        | str s =>
          cases y with
          | str t => rfl
          | _ => cases b
        | _ => cases a
      · have a := hz x hx
        have b := hz y hy
        cases x with
        | int s =>
          cases y with
          | int t => rfl
          | _ => cases b
        | _ => cases a
  obtain ⟨px, ax⟩ := ok h
  obtain ⟨py', ay⟩ := ok hy
  rw [← sort_isort xs px ax, ← sort_isort ys py' ay]
  have T := PySem.W.sortLe_total (PyProof.Rows.listOrd PyProof.Rows.itemOrd) false fun d : D => PySem.W.keyToks (py d)
  have pw : ∀ zs : List D, (zs.mergeSort leP).Pairwise (fun a b => leP a b = true) := fun zs => PySem.W.sort_pairwise T zs
  refine List.Perm.eq_of_pairwise (le := fun a b => leP a b = true) (fun a b ha hb h1 h2 => ?_) (pw xs) (pw ys) ((List.mergeSort_perm xs leP).trans (p.trans (List.mergeSort_perm ys leP).symm))
  have ma := List.mem_mergeSort.mp ha
  have mb := p.mem_iff.mpr (List.mem_mergeSort.mp hb)
  rw [leP_eq (px a ma) (px b mb) (ax b mb a ma)] at h1
  rw [leP_eq (px b mb) (px a ma) (ax a ma b mb)] at h2
  have al := ax a ma b mb
  cases a with
  | int i =>
    cases b with
    | int j =>
      simp [ltB] at h1 h2
      rw [show i = j by omega]
    | _ => cases al
  | str s =>
    cases b with
    | str t =>
      simp [ltB, ltS_eq] at h1 h2
      rw [show s = t from List.le_antisymm h1 h2]
    | _ => cases al
  | _ => rcases uni_each h _ ma with q | q <;> cases q
/-! ### the machine -/
theorem paired_vals {w : World} : ∀ {l : List Key} {m : List (Int × Value)}, Paired (EnK w) l m → Vals (l.map kV) (m.map (·.2))
  | _, _, .nil => .nil
  | _, _, .cons h t => .cons (relV_key h.1) (paired_vals t)
theorem vals_perm : ∀ {us us' : List Value}, us.Perm us' → ∀ {l : List Key}, Vals (l.map kV) us → ∃ l', l.Perm l' ∧ Vals (l'.map kV) us' := by
  intro us us' p
  induction p with
  | nil =>
    intro l h
    exact ⟨l, List.Perm.refl _, h⟩
  | cons x _ ih =>
    intro l h
    cases l with
    | nil => cases h
    | cons k l =>
      cases h with
      | cons h t =>
        obtain ⟨l', p', q⟩ := ih t
        exact ⟨k :: l', p'.cons _, .cons h q⟩
  | swap x y _ =>
    intro l h
    cases l with
    | nil => cases h
    | cons k l =>
      cases l with
      | nil => cases h with | cons h t => cases t
      | cons k' l =>
        cases h with
        | cons h t =>
          cases t with
          | cons h' t => exact ⟨k' :: k :: l, List.Perm.swap .., .cons h' (.cons h t)⟩
  | trans _ _ ih1 ih2 =>
    intro l h
    obtain ⟨l1, p1, q1⟩ := ih1 h
    obtain ⟨l2, p2, q2⟩ := ih2 q1
    exact ⟨l2, p1.trans p2, q2⟩
section
variable {X : Cx} {S : Sx} {pos p pos2 p2 : Pos}
theorem keys_repsK {F : Hp} : ∀ {l : List Key}, (∀ k ∈ l, ∀ z, k = .inr z → OkS z.cps.toList) → Reps X.K S.ft S.ac F (l.map kV) (l.map dK)
  | [], _ => .nil
  | k :: l, h => by
    refine .cons ?_ (keys_repsK fun j hj => h j (List.mem_cons_of_mem _ hj))
    cases k with
    | inl i => exact .int i
    | inr z =>
      have q := Rep.str (K := X.K) (ft := S.ft) (ac := S.ac) (F := F) z.cps.toList (h _ (List.mem_cons_self ..) z rfl)
      rw [← mkS_of z] at q
      exact q
theorem reps_keys {F : Hp} : ∀ {vs : List V} {xs : List D}, Reps X.K S.ft S.ac F vs xs → (∀ x ∈ xs, isStr x = true ∨ isInt x = true) → vs = (xs.map toK).map kV ∧ ∀ k ∈ xs.map toK, ∀ z, k = .inr z → OkS z.cps.toList
  | _, _, .nil, _ => ⟨rfl, fun _ h => by cases h⟩
  | _, _, @Reps.cons _ _ _ _ v vs d ds h t, hx => by
    obtain ⟨i1, i2⟩ := reps_keys t fun y hy => hx y (List.mem_cons_of_mem _ hy)
    have hd := hx d (List.mem_cons_self ..)
    cases h with
    | int i => exact ⟨by rw [i1]; rfl, fun k hk z e => by
        rcases List.mem_cons.mp hk with q | q
        · rw [q] at e; cases e
        · exact i2 k q z e⟩
    | str s ok => exact ⟨by rw [i1]; rfl, fun k hk z e => by
        rcases List.mem_cons.mp hk with q | q
        · rw [q] at e
          cases e
          rw [mkS_cps]
          exact ok
        · exact i2 k q z e⟩
    | _ => rcases hd with q | q <;> cases q
theorem vals_keyIs : ∀ {ks : List Key} {us : List Value}, Vals (ks.map kV) us → ∀ (i : Nat) (v : Value), us[i]? = some v → ∃ k, ks[i]? = some k ∧ keyIs k v = true
  | [], us, h, i, v, e => by cases h; simp at e
  | k :: ks, _, .cons r t, 0, v, e => by
    simp at e
    subst e
    refine ⟨k, rfl, ?_⟩
    cases k with
    | inl j => obtain ⟨t, q⟩ := r; rw [q]; exact keyIs_int j t
    | inr z => obtain ⟨t, q⟩ := r; rw [q]; exact keyIs_str z t
  | k :: ks, _, .cons r t, i + 1, v, e => vals_keyIs t i v (by simpa using e)
/-- set(x): a new object that nothing tracks -/
theorem set_call (hc : X.calm = true) {pins : List (Addr × Obj)} {σ : L2.St} {F H : Hp} {c : Cup} {s : Shared} {x : V} {u : Value} {dx : D} {xs : List D} {Q : Value → Shared → Prop} (I : Inv X pins σ H s) (w : Wd F S.ac c H) (rx : RepT X.K S F c H x dx) (ru : RelV x u) (e : seqI dx = some xs) (hu : uni xs = true) (hl : xs.length ≤ 4000)
    (k : ∀ (a : Addr) (s' : Shared), Inv X pins σ H s' → SetM X.w s'.heap a (onceK (xs.map toK)) → (∀ k ∈ xs.map toK, ∀ z, k = .inr z → OkS z.cps.toList) → Q (.ref a) s') : wpAny (model X.prog X.w) X.A (call (.type "set") [u]) Q X.xe s := by
  have hh := I.ok.hd hc
  have hb : (xs.map toK).length + 1 < scanBound := by rw [List.length_map]; unfold scanBound; omega
  have fin : ∀ (ok : ∀ k ∈ xs.map toK, ∀ z, k = .inr z → OkS z.cps.toList) (h' : Heap) (tk : Nat), SetM X.w h' s.heap.objs.size (onceK (xs.map toK)) → (∀ b o, b < s.heap.objs.size → s.heap.get? b = some o → h'.get? b = some o) → Q (.ref s.heap.objs.size) { s with heap := h', toks := tk } := fun ok h' tk m g =>
    k _ _ (I.kept fun b o e => g b o (Heap.lt_size e) e) m ok
  cases dx with
  | str z =>
    cases e
    obtain ⟨rfl, ok⟩ := t_str rx
    obtain ⟨t, rfl⟩ := ru
    have hk : ((z.map fun c => D.str [c]).map toK).length = (mkS z).cps.size := by simp [mkS]
    have hv : ∀ (i : Nat) (v : Value), SignAt (mkS z) i v → ∃ k, ((z.map fun c => D.str [c]).map toK)[i]? = some k ∧ keyIs k v = true := fun i v ⟨c, t', e1, e2⟩ => by
      have e1' : z[i]? = some c := by simpa [mkS] using e1
      refine ⟨.inr (mkS [c]), ?_, by rw [e2]; exact keyIs_str _ _⟩
      rw [List.getElem?_map, List.getElem?_map, e1']
      rfl
    have oks : ∀ k ∈ (z.map fun c => D.str [c]).map toK, ∀ y, k = .inr y → OkS y.cps.toList := fun k hk y e => by
      obtain ⟨d, hd, rfl⟩ := List.mem_map.mp hk
      obtain ⟨c, hc', rfl⟩ := List.mem_map.mp hd
      cases e
      rw [mkS_cps]
      exact ok.mem hc'
    cases ha : (mkS z).cps.all (· < 128)
    · exact call_setW hh ha hk hv hb (fin oks)
    · exact call_setA hh ha hk hv hb (fin oks)
  | tup ds =>
    cases e
    obtain ⟨a, vs, rfl, _, h, rs⟩ := t_tup w rx
    cases ru
    obtain ⟨its, rv, pl, _⟩ := I.tuple h
    obtain ⟨q1, q2⟩ := reps_keys rs (uni_each hu)
    rw [q1] at rv
    exact call_setT hh pl (by rw [List.size_toArray, ← rv.length]; simp) (fun i v e => vals_keyIs rv i v (by simpa using e)) hb (fin q2)
  | lst ds =>
    cases e
    obtain ⟨a, vs, rfl, h, rs⟩ := t_lst w rx
    cases ru
    obtain ⟨its, rv, pl, _⟩ := I.list (SqL.of h)
    obtain ⟨q1, q2⟩ := reps_keys rs (uni_each hu)
    rw [q1] at rv
    exact call_setL hh pl.isList (by rw [List.size_toArray, ← rv.length]; simp) (fun i v e => vals_keyIs rv i v (by simpa using e)) hb (fin q2)
  | _ => cases e
/-- sorted(set(e)) -/
theorem so_setS (hc : X.calm = true) (hu : X.A.units + 65 < cLine) {a : Expr} {ea : EV} (hg : Gl X "sorted") (hm : X.mg "sorted" = none) (hg2 : Gl X "set") (hm2 : X.mg "set" = none) (ha : SB X S a ea)
    (hs : starEach [a] X.env = (false, eval a X.env) :: starEach [] X.env := by rfl) (hpl : (backTo pos2 (starEach [] X.env)).any (·.1) = false := by rfl)
    (hs2 : starEach [.Call (.Name "set" p2) [a] [] pos2] X.env = (false, eval (.Call (.Name "set" p2) [a] [] pos2) X.env) :: starEach [] X.env := by rfl) (hpl2 : (backTo pos (starEach [] X.env)).any (·.1) = false := by rfl) :
    SO X S (.Call (.Name "sorted" p) [.Call (.Name "set" p2) [a] [] pos2] [] pos) (e1 pSetS ea) := ⟨fun ρ c F H σ Q w r p pins s I => by
  refine wpAny_Call_Name_kw (ld_blt I hg hm PyProof.Rows.boot_sorted ?_)
  refine PyProof.Rows.callWith_builtin1 ?_ hs2 hpl2
  rw [hs2]
  show wpAny _ _ (spliced ((false, eval (.Call (.Name "set" p2) [a] [] pos2) X.env) :: backTo pos (starEach [] X.env))) _ _ s
  refine Calls.spliced_cons ?_
  refine wpAny_Call_Name_kw (ld_blt I hg2 hm2 PyProof.Rows.boot_set ?_)
  refine PyProof.Rows.callWith_type1 (thn ((sa1 ha hs).run ρ c F H σ (fun vs H1 => ∃ (x : V) (dx : D) (xs : List D) (c1 : Cup) (F1 : Hp), vs = [x] ∧ Wd F1 S.ac c1 H1 ∧ RepT X.K S F1 c1 H1 x dx ∧ seqI dx = some xs ∧ uni xs = true ∧ xs.length ≤ 4000 ∧
    (∀ a F' H', Gr S.ac c1 c1 F1 H1 F' H' → Wd F' S.ac c1 H' → Own X.K S F' H' a (.lst (isort (once xs))) → F' a = none → H1 a = none → (c1 ≠ none → a ≠ S.ac) → Q (.ref a) H')) w r (p.bind.imp fun dx c1 F1 H1 g1 w1 p1 x rx => ?_) pos2 pins s I) fun us s1 ⟨vs, H1, I1, r1, q1⟩ => ?_) hs hpl
  · obtain ⟨d, e, k⟩ := p1.lift
    obtain ⟨xs, e1, e2⟩ := Option.bind_eq_some_iff.mp (show (seqI dx).bind (fun xs => if (uni xs && decide (xs.length ≤ 4000)) = true then some (D.lst (isort (once xs))) else none) = some d from e)
    obtain ⟨h, rfl⟩ := ite_some e2
    rw [Bool.and_eq_true, decide_eq_true_eq] at h
    refine ⟨x, dx, xs, c1, F1, rfl, w1, rx, e1, h.1, h.2, fun a F' H' g w' o hf hh hn => k F' H' g w' a o hf ?_ hn⟩
    cases q : H a with
    | none => rfl
    | some u => exact absurd hh (g1.dom a (by rw [q]; exact fun z => nomatch z))
  · obtain ⟨x, dx, xs, c1, F1, rfl, w1, rx, e1, h1, h2, k⟩ := q1
    obtain ⟨u, rfl, ru⟩ := vals1 r1
    refine set_call hc I1 w1 rx ru e1 h1 h2 fun A s2 I2 M oks => Calls.spliced_nil ?_
    obtain ⟨⟨o, es, ep, t, ho, hex, hd, ⟨l, pl, pr⟩, hb, hf, hr, hl⟩, nd⟩ := M
    refine Calls.call_function_entry PyProof.Rows.kind_sorted PyProof.Rows.plain_sorted PyProof.Rows.entry_sorted (PyProof.Rows.args_sorted1 _) ?_
    unfold Builtin.«sorted»
    refine wpAny_bind (m := checkCount "sorted" 1 1 _) (wpAny_pure ?_)
    refine wpAny_bind (collect_set (A := X.A.in1) (I2.ok.hd hc) ⟨o, ho, hex.1, hd⟩ hf hb hr hl fun s3 out g3 z3 e3 o3 pm => ?_)
    obtain ⟨l', pl', rv⟩ := vals_perm pm.symm (paired_vals pr)
    have pk : l'.Perm (onceK (xs.map toK)) := pl'.symm.trans pl
    have mem : ∀ k, k ∈ l' → k ∈ xs.map toK := fun k hk => by
      have := pk.mem_iff.mp hk
      unfold onceK at this
      rw [foldK_mem] at this
      exact this.resolve_left fun q => by cases q
    have dp := onceK_perm (uni_each h1) pk
    have un : uni (l'.map dK) = true := by
      have ou : uni (once xs) = true := by
        unfold uni at h1 ⊢
        rw [Bool.or_eq_true, List.all_eq_true, List.all_eq_true] at h1 ⊢
        have om := once_mem (uni_each (xs := xs) (by unfold uni; rw [Bool.or_eq_true, List.all_eq_true, List.all_eq_true]; exact h1))
        exact h1.imp (fun q y hy => q y ((om y).mp hy)) fun q y hy => q y ((om y).mp hy)
      unfold uni at ou ⊢
      rw [List.Perm.all_eq dp, List.Perm.all_eq dp]
      exact ou
    have hlen : (l'.map dK).length ≤ line := by
      rw [List.length_map, pk.length_eq]
      have := onceK_len (xs.map toK)
      rw [List.length_map] at this
      show _ ≤ 16777216
      omega
    have I3 : Inv X pins σ H1 s3 := I2.call' (ch := []) o3 (Un.kept g3) (I2.hok.kept g3) (by rw [e3]; exact I2.bare) (fun _ z => nomatch z)
    refine sort_tail hc (A := X.A.in1) (by show X.A.units + 1 + 64 < cLine; omega) I3 w1 rv (keys_repsK fun k hk z e => oks k (mem k hk) z e) (uni_sort un hlen) fun L vs' s' rs' hn I' => ⟨_, rfl, .ref L, _, I', rfl, ?_⟩
    rw [isort_perm un dp] at rs'
    exact k L _ _ (Gr.laidO hn) (w1.laidO hn _) (.lst upd_same rs') (w1.free hn) hn fun z e => by
      cases hcu : c1 with
      | none => exact z hcu
      | some xy =>
        obtain ⟨_, h2⟩ := w1.cup xy.1 xy.2 (by rw [hcu])
        rw [e, h2] at hn
        cases hn⟩
end
end Mi
end

section
/-! MiT: callees, the cup, the law. -/
namespace Mi
open PySem PySem.Spec PyProof.Rows L2
/-- a def that may be called: its mirror is m -/
def Cal (P : Program) (w : World) (K : PySem.W.Frag) (mg : Str → Option Value) (base : Heap) (ft : Nat → Addr) (x : Str) (k n : Nat) (m : FV) : Prop :=
  ∃ (f : Addr) (fd : FuncData) (ps : List Str), FnOk P w K mg base L2.CX0 k f fd ps (spM K ft Z0 n m) ∧ mg x = some (.ref f) ∧ PySem.W.keepIn K (.ref f) = true ∧ Binds K fd ps []
section
variable {X : Cx} {S : Sx} {pos p : Pos}
theorem se_no {pe : Expr} : SE X S pe fun _ _ => .no := ⟨fun _ _ _ _ _ _ _ _ p => p.elim⟩
theorem so_no {pe : Expr} : SO X S pe fun _ _ => .no := ⟨fun _ _ _ _ _ _ _ _ p => p.elim⟩
theorem st_no {pe : Expr} : ST X S pe fun _ _ => .no := ⟨fun _ _ _ _ _ _ _ _ p => p.elim⟩
theorem si_no {tg pe : Expr} : SI X S tg pe fun _ _ => .no := ⟨fun _ _ _ _ _ _ _ _ p => p.elim⟩
theorem se_cal {ft : Nat → Addr} {ac : Addr} {k j n : Nat} {m : FV} {x : Str} {a : Expr} {as : List Expr} {xs : List EV} (G : Cal X.prog X.w X.K X.mg X.base ft x j n m) (hr : Room k X.A) (hj : j ≤ k) (hg : Gl X x)
    (ha : SA X ⟨ft, ac, fun _ _ _ _ => False⟩ (a :: as) xs) (hn : xs.length = n := by rfl) (hdb : (x == ("__debug__" : Str)) = false := by decide)
    (he : starEach (a :: as) X.env = (false, eval a X.env) :: starEach as X.env := by rfl) (hpl : (backTo pos (starEach as X.env)).any (·.1) = false := by rfl) : SE X ⟨ft, ac, fun _ _ _ _ => False⟩ (.Call (.Name x p) (a :: as) [] pos) (eCall m xs) := by
  obtain ⟨f, fd, ps, G, hm, hk, hb⟩ := G
  exact se_call (E := E0) (Z := Z0) (G.mono hj) hr hg hm hk hb pass0 (fun _ _ _ _ h => h) ha hn hdb he hpl
end
def spO (K : PySem.W.Frag) (ft : Nat → Addr) (n : Nat) (m : FV) : Sp := fun vs H Q E => vs.length = n ∧ ∃ (ac : Addr) (c : Cup) (F : Hp) (ds : List D), Wd F ac c H ∧ Reps K ft ac F vs ds ∧
  Pst ⟨ft, ac, fun _ _ _ _ => False⟩ F c H (m ds c) fun d c' F' H' => ∀ a, Own K ⟨ft, ac, fun _ _ _ _ => False⟩ F' H' a d → F' a = none → H a = none → (c' ≠ none → a ≠ ac) → Q (.ref a) H'
theorem fn_cup {P : Program} {w : World} {K : PySem.W.Frag} {mg : Str → Option Value} {base : Heap} {x qual : Str} {params : Arguments} {st : Stmt} {e : Expr} {rp : Pos} {scope : Scope} {f : Addr} {fd : FuncData} {N ps : List Str} {k n : Nat} {ft : Nat → Addr} {sv : SV} {ev : EV}
    (F : FunD K x qual params [st, .Return (some e) rp] scope [] [] f fd) (Sc : FnScope N ps scope) (hn : ps.length = n) (hN : n ≤ N.length)
    (hb : ∀ (cdv : Value) (A : Around) (outer : List PySem.Env) (s : Shared) (H : Hp) (E : XK) (ac : Addr), Room k (A.deeper (envOfC qual scope s.heap.objs.size f cdv)) →
      SS (cxOf L2.CX0 P w K mg base N qual scope f cdv A outer s H E).nox ⟨ft, ac, fun _ _ _ _ => False⟩ st sv ∧ SO (cxOf L2.CX0 P w K mg base N qual scope f cdv A outer s H E).nox ⟨ft, ac, fun _ _ _ _ => False⟩ e ev) :
    FnOk P w K mg base L2.CX0 (k + 1) f fd ps (spO K ft n (mkO n N.length sv ev)) := by
  refine F.ok Sc (fun vs H Q E h => by rw [h.1, hn]) fun cdv A outer s H vs Q E hr h => ⟨_, PSs.nox (pss_cons ps_tw (pss_one (ps_ret pe_tw))), ?_⟩
  obtain ⟨hl, ac, c, F1, ds, w1, rvs, p⟩ := h
  have hds : ds.length = n := by rw [← rvs.length, hl]
  obtain ⟨b1, b2⟩ := hb cdv A outer s H E ac hr
  unfold mkO at p
  rw [if_pos hds] at p
  refine b1.run c F1 H F1 (Mi.start N.length ds) c F1 H _ _ ⟨w1, start_env rvs (by rw [hl]; exact hN), fun i d a h => ?_, Gr.refl _ _ _ _, Le.refl _⟩ ?_
  · rcases start_get h with ⟨d', e, _⟩ | e
    · cases e
    · cases e
  · cases e1 : sv (Mi.start N.length ds) c with
    | no => rw [e1] at p; exact p
    | err x c1 => rw [e1] at p; exact fun F2 H2 w2 g2 => p F2 H2 g2 w2
    | ok r =>
      obtain ⟨t, ρ', c'⟩ := r
      rw [e1] at p
      cases t with
      | nx =>
        have p : Pst ⟨ft, ac, fun _ _ _ _ => False⟩ F1 c H (ev ρ' c') fun d c' F' H' => ∀ a, Own K ⟨ft, ac, fun _ _ _ _ => False⟩ F' H' a d → F' a = none → H a = none → (c' ≠ none → a ≠ ac) → Q (.ref a) H' := p
        intro σ2 F2 H2 s2
        refine b2.run ρ' c' F2 H2 σ2 _ s2.w s2.e ?_
        have q := p.from (c1 := c') (F1 := F2) (H1 := H2) s2.g
        refine q.imp fun d c3 F3 H3 g3 w3 k a o h1 h2 h3 => k a o h1 ?_ h3
        cases q : H a with
        | none => rfl
        | some u => exact absurd h2 (s2.g.dom a (by rw [q]; exact fun z => nomatch z))
      | bk => exact p.elim
      | ct => exact p.elim
      | rt d => exact p.elim
def CalO (P : Program) (w : World) (K : PySem.W.Frag) (mg : Str → Option Value) (base : Heap) (ft : Nat → Addr) (x : Str) (k n : Nat) (m : FV) : Prop :=
  ∃ (f : Addr) (fd : FuncData) (ps : List Str), FnOk P w K mg base L2.CX0 k f fd ps (spO K ft n m) ∧ mg x = some (.ref f) ∧ PySem.W.keepIn K (.ref f) = true ∧ Binds K fd ps []
def spLaw (K : PySem.W.Frag) : Sp := fun vs H Q _ => ∃ (a : Addr) (ns : List Int), vs = [.ref a] ∧ SqL K H a (ns.map V.int) ∧ ns.length ≤ 63 ∧ ∀ H', Q (.bl true) H'
theorem fn_law {P : Program} {w : World} {K : PySem.W.Frag} {mg : Str → Option Value} {base : Heap} {x qual cn cx sx : Str} {params : Arguments} {rest : List Stmt} {scope : Scope} {f : Addr} {fd : FuncData} {N : List Str} {k j i : Nat} {ft : Nat → Addr} {cupM : FV} {sv : SV} {p1 p2 p3 p4 p5 : Pos}
    (F : FunD K x qual params (.Assign [.Name cx p1] (.Call (.Name cn p2) [.Name sx p3] [] p4) p5 :: rest) scope [] [] f fd) (Sc : FnScope N ["script"] scope) (hN : 1 ≤ N.length) (G : CalO P w K mg base ft cn j 1 cupM) (hj : j ≤ k) (hi : N[i]? = some cx) (h0 : i ≠ 0)
    (hs0 : N[0]? = some sx) (hcx : scope.names.lookup cx = some .local ∨ scope.names.lookup cx = some .cell) (hsx : scope.names.lookup sx = some .local ∨ scope.names.lookup sx = some .cell) (hcn : scope.names.lookup cn = some .globalImplicit)
    (hb : ∀ (cdv : Value) (A : Around) (outer : List PySem.Env) (s : Shared) (H : Hp) (E : XK) (ac : Addr), Room k (A.deeper (envOfC qual scope s.heap.objs.size f cdv)) →
      SSs (cxOf L2.CX0 P w K mg base N qual scope f cdv A outer s H E).nox ⟨ft, ac, fun _ _ _ _ => False⟩ rest sv)
    (d1 : (sx == ("__debug__" : Str)) = false) (d2 : (sx == ("__classdict__" : Str)) = false) (d3 : (cn == ("__debug__" : Str)) = false)
    (sw : ∀ env : PySem.Env, swapsWith (.Call (.Name cn p2) [.Name sx p3] [] p4) (some (.Name cx p1)) p5.line env = pure false)
    (law : ∀ ns : List Int, ns.length ≤ 63 → LawP cupM N.length i sv ns) : FnOk P w K mg base L2.CX0 (k + 1) f fd ["script"] (spLaw K) := by
  refine F.ok Sc (fun vs H Q E h => by obtain ⟨a, ns, rfl, _⟩ := h; rfl) fun cdv A outer s H vs Q E hr h => ?_
  obtain ⟨a, ns, rfl, hS, h63, hQ⟩ := h
  obtain ⟨fc, fdc, psc, Gc, hm, hk, hbc⟩ := G
  refine ⟨_, PSs.nox (pss_cons (ps_set (i := i) Sc.nd hi (hx := hcx) (pe_call (E := E0) (Gc.mono hj) hr hcn hm hk hbc .nil pass0 (pa_cons (pe_var (i := 0) hs0 (hsx.elim .inl fun z => .inr (.inl z)) d1 d2) pa_nil) d3) (sw _)) pss_tw), ?_⟩
  obtain ⟨x, y, ec, ρ, c, el⟩ := law ns h63
  refine ⟨.ref a, rfl, rfl, 0, none, fun b => if b = a then H b else none, [.scr ns], ⟨fun b o e => ?_, fun x y e => by cases e⟩, .cons (.scr ?_) .nil, ?_⟩
  · by_cases q : b = a
    · simpa [q] using e
    · simp [q] at e
  · rcases hS with (h | ⟨o, h⟩) | h
    · exact .inl (.inl (by simpa using h))
    · exact .inl (.inr ⟨o, by simpa using h⟩)
    · exact .inr h
  · rw [ec]
    intro F' H' g w' a' o hf hh hc
    cases o with
    | @lst vs _ ho r =>
      cases r with
      | cons r1 r =>
        cases r with
        | cons r2 r =>
          cases r
          cases r1
          cases r2
          have hLen : N.length = ((L2.start N [V.ref a]).set i (some (V.ref a'))).length := by
            unfold L2.start
            rw [List.length_set, List.length_append, List.length_map, List.length_replicate, List.length_singleton]
            omega
          have rep0 : SqL K F' a (ns.map V.int) := by
            rcases hS with (h | ⟨o, h⟩) | h
            · exact g.f.sqL (.inl (.inl (by simpa using h)))
            · exact g.f.sqL (.inl (.inr ⟨o, by simpa using h⟩))
            · exact .inr h
          have env0 : EnvR K ⟨ft, a', fun _ _ _ _ => False⟩ F' (some (x, y)) H' (L2.start N [V.ref a]) (Mi.start N.length [.scr ns]) := start_env (.cons (.scr rep0) .nil) hN
          refine (hb cdv A outer s H E a' hr).run (some (x, y)) F' H' F' _ (some (x, y)) F' H' _ _ ⟨⟨w'.fh, fun x2 y2 e => ?_⟩, ⟨?_, fun j d h => ?_, fun j d h => ?_, fun j l d e b _ h => ?_⟩, fun j d b h => ?_, Gr.refl _ _ _ _, Le.refl _⟩ (?_ : Fin K ⟨ft, a', fun _ _ _ _ => False⟩ (some (x, y)) F' H' F' _ (sv ((Mi.start N.length [.scr ns]).set i (.sh .cup)) (some (x, y))))
          · cases e
            exact ⟨hf, ho⟩
          · rw [List.length_set, List.length_set, env0.len]
          · by_cases q : i = j
            · subst q
              have hlt : i < (Mi.start N.length [.scr ns]).length := by
                have := (List.getElem?_eq_some_iff.mp h).1
                rwa [List.length_set] at this
              rw [List.getElem?_set_self hlt] at h
              cases h
              exact ⟨.ref a', List.getElem?_set_self (by rw [env0.len]; exact hlt), .cup⟩
            · rw [List.getElem?_set_ne q] at h ⊢
              exact env0.sh j d h
          · by_cases q : i = j
            · subst q
              have hlt : i < (Mi.start N.length [.scr ns]).length := by
                have := (List.getElem?_eq_some_iff.mp h).1
                rwa [List.length_set] at this
              rw [List.getElem?_set_self hlt] at h
              cases h
            · rw [List.getElem?_set_ne q] at h
              rcases start_get h with ⟨d', e, _⟩ | e <;> cases e
          · by_cases q : i = j
            · subst q
              have hlt : i < (Mi.start N.length [.scr ns]).length := by
                have := (List.getElem?_eq_some_iff.mp h).1
                rwa [List.length_set] at this
              rw [List.getElem?_set_self hlt] at h
              cases h
            · rw [List.getElem?_set_ne q] at h
              rcases start_get h with ⟨d', e, _⟩ | e <;> cases e
          · by_cases q : i = j
            · subst q
              have hlt : i < (Mi.start N.length [.scr ns]).length := by
                have := (List.getElem?_eq_some_iff.mp h).1
                rwa [List.length_set] at this
              rw [List.getElem?_set_self hlt] at h
              cases h
            · rw [List.getElem?_set_ne q] at h
              rcases start_get h with ⟨d', e, _⟩ | e <;> cases e
          · rw [el]
            intro v F2 H2 _ _ rv
            cases rv
            exact hQ H2
end Mi
end

section
/-! MiS: odds and ends. -/
namespace Mi
open PySem PySem.Spec PyProof.Rows L2
theorem bo_len : bootBuiltins "len" = some (.builtin "len") := by decide +kernel
theorem bo_abs : bootBuiltins "abs" = some (.builtin "abs") := by decide +kernel
theorem bo_all : bootBuiltins "all" = some (.builtin "all") := by decide +kernel
theorem bo_any : bootBuiltins "any" = some (.builtin "any") := by decide +kernel
theorem bo_sum : bootBuiltins "sum" = some (.builtin "sum") := by decide +kernel
theorem bo_max : bootBuiltins "max" = some (.builtin "max") := by decide +kernel
theorem bo_min : bootBuiltins "min" = some (.builtin "min") := by decide +kernel
theorem bo_sorted : bootBuiltins "sorted" = some (.builtin "sorted") := by decide +kernel
theorem bo_list : bootBuiltins "list" = some (.type "list") := by decide +kernel
theorem bo_tuple : bootBuiltins "tuple" = some (.type "tuple") := by decide +kernel
theorem bo_int : bootBuiltins "int" = some (.type "int") := by decide +kernel
theorem bo_str : bootBuiltins "str" = some (.type "str") := by decide +kernel
theorem bo_bool : bootBuiltins "bool" = some (.type "bool") := by decide +kernel
theorem bo_dict : bootBuiltins "dict" = some (.type "dict") := by decide +kernel
theorem u65 {k : Nat} {A : Around} (r : Room k A) : A.units + 65 < cLine := Nat.lt_of_le_of_lt (by omega) r.un
theorem u64 {k : Nat} {A : Around} (r : Room k A) : A.units + 64 < cLine := r.units
theorem u1 {k : Nat} {A : Around} (r : Room k A) : A.units + 1 < cLine := hu_of r
section
variable {X : Cx} {S : Sx} {pos p : Pos}
theorem se_gInt {x : Str} {i : Int} (hg : Gl X x) (hm : ∃ t, X.mg x = some (.int i t)) (hd : (x == ("__debug__" : Str)) = false := by decide) : SE X S (.Name x pos) (eK (.int i)) := by
  obtain ⟨t, h⟩ := hm
  exact se_glob (v := .int i) hg h ⟨t, rfl⟩ (fun _ => .int i) hd
theorem se_gStr {x z : Str} {s : List Nat} (hg : Gl X x) (hm : ∃ t, X.mg x = some (.str z t)) (e : z = mkS s) (h : s.all (fun c => decide (c < 0x110000)) = true) (hd : (x == ("__debug__" : Str)) = false := by decide) : SE X S (.Name x pos) (eK (.str s)) := by
  obtain ⟨t, q⟩ := hm
  subst e
  exact se_glob (v := .str (mkS s)) hg q ⟨t, rfl⟩ (fun _ => .str s fun c hc => of_decide_eq_true (List.all_eq_true.mp h c hc)) hd
theorem cal_no {P : Program} {w : World} {K : PySem.W.Frag} {mg : Str → Option Value} {base : Heap} {x qual : Str} {params : Arguments} {body : List Stmt} {scope : Scope} {f : Addr} {fd : FuncData} {N ps : List Str} {k n : Nat} {ft : Nat → Addr}
    (F : FunD K x qual params body scope [] [] f fd) (Sc : FnScope N ps scope) (hn : ps.length = n) (hm : mg x = some (.ref f)) (hk : PySem.W.keepIn K (.ref f) = true) (hb : Binds K fd ps []) : Cal P w K mg base ft x k n fun _ _ => .no :=
  ⟨f, fd, ps, ⟨fun vs H Q E h => by rw [h.1, hn], fun A outer s H args us vs Q E _ _ _ _ h => by
    obtain ⟨_, ac, c, F1, ds, _, _, p⟩ := h
    exact p.elim⟩, hm, hk, hb⟩
theorem revIx (n : Nat) : Builtin.Str.strSliceIndices none none (-1) n = (List.range n).reverse := by
  show sliceRange ((n : Int) - 1) (-1) (-1) = _
  rw [PySem.W.krv_sliceRange, PySem.W.krv_range]
theorem revAll (s : List Nat) : (((List.range s.length).reverse).filterMap (fun i => s[i]?)) = s.reverse := by
  rw [List.filterMap_reverse]
  congr 1
  have : ∀ t : List Nat, (List.range t.length).filterMap (fun i => t[i]?) = t := fun t => by
    induction t with
    | nil => rfl
    | cons x t ih =>
      rw [List.length_cons, List.range_succ_eq_map, List.filterMap_cons]
      simp only [List.getElem?_cons_zero, List.filterMap_map]
      congr 1
  exact this s
def twSub (X : Cx) : Unit := ()
/-- x[::-1] of a text, a list -/
theorem se_rev (hc : X.calm = true) {a : Expr} {ea : EV} {k : Nat} {p1 p2 p3 : Pos} (ha : SB X S a ea) : SE X S (.Subscript a (.Slice none none (some (.UnaryOp .USub (.Constant (.int 1) k p1) p2)) p3) pos) (e1 pRev ea) := ⟨fun ρ c F H σ Q w r p pins s I => by
  have hq := ha.run ρ c F H σ (fun x H1 => ∃ (c1 : Cup) (F1 : Hp) (d r : D), Wd F1 S.ac c1 H1 ∧ RepT X.K S F1 c1 H1 x d ∧ pRev d = some r ∧ ∀ v F' H', Gr S.ac c1 c1 F1 H1 F' H' → Wd F' S.ac c1 H' → Rep X.K S.ft S.ac F' v r → Q v H') w r (p.bind.imp fun d c1 F1 H1 g1 w1 p1 x rx => by
    obtain ⟨r, e, k⟩ := p1.lift
    exact ⟨c1, F1, d, r, w1, rx, e, fun v F' H' g w' rv => k F' H' g w' v rv⟩) pins s I
  refine Subscript_ (thn hq fun v s1 ⟨x, H1, I1, r1, c1, F1, d, r, w1, rx, e, kq⟩ => ?_)
  have hst : PO X (some (.UnaryOp .USub (.Constant (.int 1) k p1) p2)) (tPart (tUn (rU fun i => .int (-i)) (tC (.int 1)))) := po_some (pe_un un_neg pe_int)
  refine wpAny_Slice (thn (po_none.run pins s1 σ H1 (fun o H2 => o = none ∧ H2 = H1) I1 ⟨rfl, rfl⟩) fun vl s2 ⟨l, H2, I2, pl, el, e2⟩ => ?_)
  subst el e2
  refine thn (po_none.run pins s2 σ H2 (fun o H3 => o = none ∧ H3 = H2) I2 ⟨rfl, rfl⟩) fun vu s3 ⟨u, H3, I3, pu, eu, e3⟩ => ?_
  subst eu e3
  refine thn (hst.run pins s3 σ H3 (fun o H4 => o = some (-1) ∧ H4 = H3) I3 ⟨1, rfl, -1, rfl, rfl, rfl⟩) fun vs s4 ⟨o, H4, I4, ps, eo, e4⟩ => ?_
  subst eo e4
  have I5 : Inv X pins σ H4 { s4 with heap := s4.heap.push { cls := .type "slice", data := .fields #[vl, vu, vs] } } := I4.kept (t' := s4.toks) fun b ob q => Heap.get?_push_of_some _ q
  cases d with
  | lst ds =>
    obtain ⟨b, xs, rfl, hx, rs⟩ := t_lst w1 rx
    have e : some (D.lst ds.reverse) = some r := e
    cases e
    cases r1
    obtain ⟨its, rv, ht, hz⟩ := I5.list (SqL.of hx)
    have hlen := rv.length
    show wpAny (model X.prog X.w) X.A (subscriptTail a (.Slice none none (some (.UnaryOp .USub (.Constant (.int 1) k p1) p2)) p3) (.ref b) (.ref s4.heap.objs.size)) (EP X pins σ Q) X.xe { s4 with heap := s4.heap.push { cls := .type "slice", data := .fields #[vl, vu, vs] } }
    refine tail_any (ops := [.ref b, .ref s4.heap.objs.size]) ht.isList.typeIs (PySem.slot_list_getitem.lookup) ?_ (by with_unfolding_all rfl)
    refine wpAny_getItem_list_slice ht.isList (Heap.IsSliceOf.new _ vl vu vs) pl pu ps (by decide) ?_ (by rw [List.size_toArray]; omega)
    rw [PySem.W.krv_pick]
    refine ⟨.ref _, _, I5.laid (t' := s4.toks) (o := .lst xs.reverse) (fun b ob q => Heap.get?_push_of_some _ q) (Nat.le_refl _) ?_, rfl, new_lst w1 rs.rev (fun q F' H' g w' o hf hh hn => ?_) _ (I5.hok.fresh (Nat.le_refl _))⟩
    · exact ⟨by rw [List.length_reverse]; exact hz, _, 0, rv.reverse, Heap.get?_push_size _ rfl⟩
    · cases o with
      | lst ho ro => exact kq (.ref q) _ H' (g.share hf hh) (w'.share ho hn) (.lst upd_same (ro.mono (Le.new hf) _))
  | str z =>
    obtain ⟨hl, rfl⟩ := ite_some (show (if z.length ≤ line then some (D.str z.reverse) else none) = some r from e)
    obtain ⟨rfl, ok⟩ := t_str rx
    obtain ⟨t, rfl⟩ := r1
    obtain ⟨l', rfl, el⟩ := IsPart.raw pl
    obtain ⟨u', rfl, eu⟩ := IsPart.raw pu
    obtain ⟨v', rfl, ev⟩ := IsPart.raw ps
    show wpAny (model X.prog X.w) X.A (subscriptTail a (.Slice none none (some (.UnaryOp .USub (.Constant (.int 1) k p1) p2)) p3) (.str (mkS z) t) (.ref s4.heap.objs.size)) (EP X pins σ Q) X.xe { s4 with heap := s4.heap.push { cls := .type "slice", data := .fields #[partValue l', partValue u', partValue v'] } }
    refine tail_any (ops := [.str (mkS z) t, .ref s4.heap.objs.size]) (typeIs_str _ _ _) (PySem.F.slot_str_getitem.lookup) ?_ (by with_unfolding_all rfl)
    refine wpAny_getItem_str_slice (l := l') (u := u') (st := v') ⟨_, Heap.get?_push_size _ rfl, rfl, rfl⟩ (by rw [ev]; rfl) ?_
    unfold sliceMade slicePicked
    rw [el, eu, ev]
    show Made.post (if ((-1 : Int) == 1 && _) = true then _ else Made.str ⟨((Builtin.Str.strSliceIndices none none (-1) (mkS z).length).filterMap ((mkS z).cps[·]?)).toArray⟩) (EP X pins σ Q) _
    have hne : ((-1 : Int) == 1) = false := by decide
    rw [hne, Bool.false_and, if_neg Bool.false_ne_true]
    show Made.post (Made.str ⟨((Builtin.Str.strSliceIndices none none (-1) (mkS z).length).filterMap ((mkS z).cps[·]?)).toArray⟩) (EP X pins σ Q) _
    rw [revIx, mkS_len]
    have e3 : ((List.range z.length).reverse.filterMap ((mkS z).cps[·]?)) = z.reverse := by
      rw [← revAll z]
      congr 1
      funext i
      simp [mkS]
    rw [e3]
    exact ⟨by show (mkS z.reverse).length ≤ sizeLine; rw [mkS_len, List.length_reverse]; exact le_line hl, V.str (mkS z.reverse), H4, I5.tok _, ⟨_, rfl⟩, kq _ F1 H4 (Gr.refl _ _ _ _) w1 (.str z.reverse fun c hc => ok c (List.mem_reverse.mp hc))⟩
  | _ => cases e⟩
end
end Mi
namespace Mi
end Mi
end

section
/-! MiV: more rules. -/
namespace Mi
open PySem PySem.Spec PyProof.Rows L2
section
variable {X : Cx} {S : Sx} {pos p : Pos}
theorem se_get2 (hu : X.A.units + 1 < cLine) {o e f : Expr} {eo ee ef : EV} {ap : Pos} (ho : SB X S o eo) (he : SB X S e ee) (hf : SE X S f ef) (m : M2 X o "get" ap e f pos) : SE X S (.Call (.Attribute o "get" ap) [e, f] [] pos) (eM3 isDct pGet eo ee ef) := ⟨fun ρ c F H σ Q w r p => by
  refine tw_of (pe_dget2 hu pe_tw pe_tw pe_tw m) ?_
  refine ho.run ρ c F H σ _ w r (p.bind.imp fun dx c1 F1 H1 g1 w1 p1 x rx => ?_)
  have p1 : Pst S F1 c1 H1 (if isDct dx = true then (ee ρ c1).bind (fun q => (ef ρ q.2).bind fun r => lift (pGet dx q.1 r.1) r.2) else .no) fun d _ F' H' => ∀ v, Rep X.K S.ft S.ac F' v d → Q v H' := p1
  by_cases hc : isDct dx = true
  · rw [if_pos hc] at p1
    obtain ⟨kvs, rfl⟩ : ∃ kvs, dx = .dct kvs := by
      cases dx with
      | dct kvs => exact ⟨kvs, rfl⟩
      | _ => cases hc
    obtain ⟨a, ks, rfl, hd, rk⟩ := t_dct w1 rx
    refine ⟨a, rfl, .inl ⟨ks, hd⟩, ?_⟩
    refine he.run ρ c1 F1 H1 σ _ w1 (r.grow g1) (p1.bind.imp fun dy c2 F2 H2 g2 w2 p2 y ry => ?_)
    refine hf.run ρ c2 F2 H2 σ _ w2 ((r.grow g1).grow g2) (p2.bind.imp fun dz c3 F3 H3 g3 w3 p3 z rz => ?_)
    obtain ⟨d, e, k⟩ := p3.lift
    have e : (if isKey dy = true then some ((dget kvs dy).getD dz) else none) = some d := e
    obtain ⟨h, e⟩ : isKey dy = true ∧ (dget kvs dy).getD dz = d := by
      split at e
      · exact ⟨by assumption, by cases e; rfl⟩
      · cases e
    obtain ⟨kk, hk, rfl⟩ := t_key h (ry.grow g3)
    obtain ⟨a', ks, ea, hd, rk⟩ := t_dct w3 (rx.grow (g2.trans g3))
    cases ea
    refine ⟨valV ks kk, .inl ⟨ks, kk, hd, rfl, rfl⟩, ?_⟩
    rcases dget_val hk rk with ⟨h1, h2⟩ | ⟨e1, v, h1, h2, h3⟩
    · rw [h1] at e
      subst e
      rw [h2]
      exact k F3 H3 (Gr.refl _ _ _ _) w3 z rz
    · rw [h1] at e
      subst e
      rw [h2]
      exact k F3 H3 (Gr.refl _ _ _ _) w3 v h3
  · rw [if_neg hc] at p1
    exact p1.elim⟩
/-! ### op= -/
def wIp (X : Cx) (op : Operator) : TIp := fun x y H Q => ∀ (pins : List (Addr × Obj)) (s : Shared) (σ : L2.St) (v u : Value), Inv X pins σ H s → RelV x v → RelV y u → wpAny (model X.prog X.w) X.A (inplaceOp op v u) (EP X pins σ Q) X.xe s
theorem ip_w {op : Operator} : PIp X op (wIp X op) := fun pins s σ H x y v u Q I rx ry h => h pins s σ v u I rx ry
def AugT (X : Cx) (S : Sx) (op : Operator) (pf : D → D → Option D) : Prop :=
  ∀ (F H : Hp) (c : Cup) (x y : V) (dx dy r : D) (Q : VK), Wd F S.ac c H → RepT X.K S F c H x dx → RepT X.K S F c H y dy → pf dx dy = some r → (∀ v, Rep X.K S.ft S.ac F v r → Q v H) → wIp X op x y H Q
theorem aug_add : AugT X S .Add pAugA := fun F H c x y dx dy r Q w rx ry e k => by
  cases dx with
  | int i =>
    cases dy with
    | int j =>
      cases e
      cases t_int rx
      cases t_int ry
      exact fun pins s σ v u I rv ru => in_add pins s σ H _ _ v u Q I rv ru ⟨i, j, rfl, rfl, k _ (.int _)⟩
    | _ => cases e
  | str a =>
    cases dy with
    | str b =>
      obtain ⟨h, rfl⟩ := ite_some e
      obtain ⟨rfl, o1⟩ := t_str rx
      obtain ⟨rfl, o2⟩ := t_str ry
      refine fun pins s σ v u I rv ru => iop_add_str pins s σ H _ _ v u Q I rv ru ⟨_, _, rfl, rfl, ?_, ?_⟩
      · rw [mkS_len, mkS_len]
        exact le_line h
      · rw [mkS_app]
        exact k _ (.str _ (o1.app o2))
    | _ => cases e
  | _ => cases e
theorem aug_sub : AugT X S .Sub pAugS := fun F H c x y dx dy r Q w rx ry e k => by
  cases dx with
  | int i =>
    cases dy with
    | int j =>
      cases e
      cases t_int rx
      cases t_int ry
      exact fun pins s σ v u I rv ru => in_sub pins s σ H _ _ v u Q I rv ru ⟨i, j, rfl, rfl, k _ (.int _)⟩
    | _ => cases e
  | _ => cases e
theorem ss_aug {i : Nat} {x : Str} {e : Expr} {ev : EV} {op : Operator} {pf : D → D → Option D} {pos' : Pos} (ho : AugT X S op pf) (hN : X.N.Nodup) (hi : X.N[i]? = some x) (hx : Loc X.env.scope x) (he : SE X S e ev)
    (hf : X.fn x = true ∨ X.env.scope.names.lookup x = some .local := by first | exact .inl rfl | exact .inr rfl | assumption) : SS X S (.AugAssign (.Name x pos') op e pos) (sAug i pf ev) := ⟨fun c0 F0 H0 Fl ρ c F H σ E s q => by
  unfold sAug at q
  cases hr : ρ[i]? with
  | none => rw [hr] at q; exact q.elim
  | some sl =>
    rw [hr] at q
    cases sl with
    | un => exact q.elim
    | ow d => exact q.elim
    | sh dx =>
      have q : Fin X.K S c0 F0 H0 Fl E ((ev ρ c).bind fun p => (match pf dx p.1 with
        | some d => .ok (.nx, ρ.set i (.sh d), p.2)
        | none => .no)) := q
      obtain ⟨v, a1, a2⟩ := s.e.sh i dx hr
      refine twS_of (ps_aug hN hi hx pe_tw ip_w hf) ⟨v, a1, ?_⟩
      refine he.run ρ c F H σ _ s.w s.e ((fin_bind q s.g).imp fun dy c1 F1 H1 g1 w1 q1 u ru => ?_)
      have q1 : Fin X.K S c0 F0 H0 Fl E (match pf dx dy with
        | some d => .ok (.nx, ρ.set i (.sh d), c1)
        | none => .no) := q1
      cases ep : pf dx dy with
      | none => rw [ep] at q1; exact q1.elim
      | some d =>
        rw [ep] at q1
        have s1 := s.grow g1 w1
        obtain ⟨v', b1, b2⟩ := s1.e.sh i dx hr
        rw [a1] at b1
        cases b1
        refine ho F1 H1 c1 v u dx dy d _ w1 (.rep b2) (.rep ru) ep fun z rz => ?_
        refine q1 (σ.set i (some z)) F1 H1 (s1.asg (is := [i]) ⟨by simp, by simp, fun j hj => ?_, fun j sl hj h => ?_⟩)
        · have hij : i ≠ j := fun z => hj (by rw [z]; exact List.mem_singleton.mpr rfl)
          rw [List.getElem?_set_ne hij, List.getElem?_set_ne hij]
          exact ⟨rfl, rfl⟩
        · cases List.mem_singleton.mp hj
          have hlt : i < ρ.length := by
            have := (List.getElem?_eq_some_iff.mp h).1
            rwa [List.length_set] at this
          rw [List.getElem?_set_self hlt] at h
          cases h
          exact ⟨d, z, rfl, List.getElem?_set_self (by rw [s.e.len]; exact hlt), rz⟩⟩
theorem ss_ext {i : Nat} {x : Str} {e : Expr} {ev : EV} {pos' : Pos} (hN : X.N.Nodup) (hi : X.N[i]? = some x) (hx : Loc X.env.scope x) (he : SE X S e ev)
    (hf : X.fn x = true ∨ X.env.scope.names.lookup x = some .local := by first | exact .inl rfl | exact .inr rfl | assumption) : SS X S (.AugAssign (.Name x pos') .Add e pos) (sExt i ev) := ⟨fun c0 F0 H0 Fl ρ c F H σ E s q => by
  unfold sExt at q
  cases hr : ρ[i]? with
  | none => rw [hr] at q; exact q.elim
  | some sl =>
    rw [hr] at q
    cases sl with
    | un => exact q.elim
    | sh d => exact q.elim
    | ow dx =>
      cases dx with
      | lst xs =>
        have q : Fin X.K S c0 F0 H0 Fl E ((ev ρ c).bind fun p => (match p.1 with
          | .lst ys => if xs.length + ys.length ≤ line then .ok (.nx, ρ.set i (.ow (.lst (xs ++ ys))), p.2) else .no
          | _ => .no)) := q
        obtain ⟨a, a1, a2, a3, a4⟩ := s.e.ow i _ hr
        refine twS_of (ps_aug hN hi hx pe_tw ip_w hf) ⟨.ref a, a1, ?_⟩
        refine he.run ρ c F H σ _ s.w s.e ((fin_bind q s.g).imp fun dy c1 F1 H1 g1 w1 q1 u ru => ?_)
        cases dy with
        | lst ys =>
          have q1 : Fin X.K S c0 F0 H0 Fl E (if xs.length + ys.length ≤ line then .ok (.nx, ρ.set i (.ow (.lst (xs ++ ys))), c1) else .no) := q1
          by_cases hl : xs.length + ys.length ≤ line
          · rw [if_pos hl] at q1
            have s1 := s.grow g1 w1
            obtain ⟨a', b1, b2, b3, b4⟩ := s1.e.ow i _ hr
            rw [a1] at b1
            cases b1
            obtain ⟨b, us, rfl, hb, rb⟩ := t_lst w1 (.rep ru)
            cases b2 with
            | @lst vs _ ho r1 =>
              intro pins s2 σ2 v u I rv rw'
              refine iop_ext pins s2 σ2 H1 _ _ v u _ I rv rw' ⟨a, b, vs, us, rfl, rfl, ho, hb, ?_, ?_⟩
              · rw [r1.length, rb.length]
                exact le_line hl
              · have hs : σ.set i (some (.ref a)) = σ := by
                  obtain ⟨hlt, eq⟩ := List.getElem?_eq_some_iff.mp a1
                  rw [← eq, List.set_getElem_self]
                show E.nx (σ.set i (some (.ref a))) _
                rw [hs]
                exact q1 σ F1 _ (s1.put hr a1 b3 b4 (.lst upd_same (r1.append rb)))
          · rw [if_neg hl] at q1
            exact q1.elim
        | _ => exact q1.elim
      | _ => exact q.elim⟩
end
end Mi
end

section
/-! MiZ: min, max of a list of alike data. -/
namespace Mi
open PySem PySem.Spec PyProof.Rows L2
theorem pys_getD : ∀ (xs : List D) (i : Nat), (pys xs).getD i .none = py (xs.getD i .non)
  | [], i => by simp [pys, py]
  | x :: xs, 0 => rfl
  | x :: xs, i + 1 => by
    have e : (pys (x :: xs)).getD (i + 1) .none = (pys xs).getD i .none := by simp [pys]
    rw [e, pys_getD xs i]
    simp
theorem pys_len : ∀ xs : List D, (pys xs).length = xs.length
  | [] => rfl
  | x :: xs => by
    show (py x :: pys xs).length = _
    rw [List.length_cons, List.length_cons, pys_len xs]
theorem getD_in {xs : List D} {i : Nat} (h : i < xs.length) : xs.getD i .non ∈ xs := by
  rw [List.getD_eq_getElem?_getD, List.getElem?_eq_getElem h]
  exact List.getElem_mem h
theorem best_lt {xs : List D} (hp : ∀ x ∈ xs, plain x = true) (ha : ∀ x ∈ xs, ∀ y ∈ xs, Mi.alike x y = true) : ∀ k, k < xs.length →
    argBest (fun i j => PySem.W.dataLt ((pys xs).getD i .none) ((pys xs).getD j .none)) k = argBest (fun i j => ltB (xs.getD i .non) (xs.getD j .non)) k ∧ argBest (fun i j => ltB (xs.getD i .non) (xs.getD j .non)) k ≤ k
  | 0, _ => ⟨rfl, Nat.le_refl _⟩
  | k + 1, h => by
    obtain ⟨e, l⟩ := best_lt hp ha k (by omega)
    have q : PySem.W.dataLt ((pys xs).getD (k + 1) .none) ((pys xs).getD (argBest (fun i j => ltB (xs.getD i .non) (xs.getD j .non)) k) .none) = ltB (xs.getD (k + 1) .non) (xs.getD (argBest (fun i j => ltB (xs.getD i .non) (xs.getD j .non)) k) .non) := by
      rw [pys_getD, pys_getD]
      exact lt_py _ _ (hp _ (getD_in h)) (hp _ (getD_in (by omega))) (ha _ (getD_in h) _ (getD_in (by omega)))
    refine ⟨?_, ?_⟩
    · show (if PySem.W.dataLt ((pys xs).getD (k + 1) .none) ((pys xs).getD (argBest _ k) .none) = true then k + 1 else argBest _ k) = (if ltB (xs.getD (k + 1) .non) (xs.getD (argBest _ k) .non) = true then k + 1 else argBest _ k)
      rw [e, q]
    · show (if _ then _ else _) ≤ _
      split
      · exact Nat.le_refl _
      · exact Nat.le_succ_of_le l
theorem best_gt {xs : List D} (hp : ∀ x ∈ xs, plain x = true) (ha : ∀ x ∈ xs, ∀ y ∈ xs, Mi.alike x y = true) : ∀ k, k < xs.length →
    argBest (fun i j => PySem.W.dataLt ((pys xs).getD j .none) ((pys xs).getD i .none)) k = argBest (fun i j => ltB (xs.getD j .non) (xs.getD i .non)) k ∧ argBest (fun i j => ltB (xs.getD j .non) (xs.getD i .non)) k ≤ k
  | 0, _ => ⟨rfl, Nat.le_refl _⟩
  | k + 1, h => by
    obtain ⟨e, l⟩ := best_gt hp ha k (by omega)
    have q : PySem.W.dataLt ((pys xs).getD (argBest (fun i j => ltB (xs.getD j .non) (xs.getD i .non)) k) .none) ((pys xs).getD (k + 1) .none) = ltB (xs.getD (argBest (fun i j => ltB (xs.getD j .non) (xs.getD i .non)) k) .non) (xs.getD (k + 1) .non) := by
      rw [pys_getD, pys_getD]
      exact lt_py _ _ (hp _ (getD_in (by omega))) (hp _ (getD_in h)) (ha _ (getD_in (by omega)) _ (getD_in h))
    refine ⟨?_, ?_⟩
    · show (if PySem.W.dataLt ((pys xs).getD (argBest _ k) .none) ((pys xs).getD (k + 1) .none) = true then k + 1 else argBest _ k) = (if ltB (xs.getD (argBest _ k) .non) (xs.getD (k + 1) .non) = true then k + 1 else argBest _ k)
      rw [e, q]
    · show (if _ then _ else _) ≤ _
      split
      · exact Nat.le_refl _
      · exact Nat.le_succ_of_le l
theorem okMin_iff {xs : List D} (h : okMin xs = true) : plains xs = true ∧ deps xs ≤ 58 ∧ (∀ x ∈ xs, plain x = true) ∧ (∀ x ∈ xs, ∀ y ∈ xs, Mi.alike x y = true) ∧ ∀ x ∈ xs, py x ≠ .none := by
  unfold okMin at h
  rw [Bool.and_eq_true, Bool.and_eq_true] at h
  obtain ⟨⟨h1, h2⟩, h3⟩ := h
  obtain ⟨p1, p2⟩ := flats_iff.mp h1
  refine ⟨p1, p2, plains_mem p1, allAlike_mem h2, fun x hx q => ?_⟩
  have n := List.all_eq_true.mp h3 x hx
  have pl := plains_mem p1 x hx
  cases x <;> first | (simp [isNon] at n; done) | (simp [plain] at pl; done) | (simp [py] at q; done)
theorem pys_mem : ∀ {xs : List D} {d : PyData}, d ∈ pys xs → ∃ x ∈ xs, d = py x
  | x :: xs, d, h => by
    rcases List.mem_cons.mp (show d ∈ py x :: pys xs from h) with e | e
    · exact ⟨x, List.mem_cons_self .., e⟩
    · obtain ⟨y, hy, q⟩ := pys_mem e
      exact ⟨y, List.mem_cons_of_mem _ hy, q⟩
theorem alikeAll_of {xs : List D} (h : okMin xs = true) : PySem.W.AlikeAll (pys xs) := by
  obtain ⟨_, _, hp, ha, hn⟩ := okMin_iff h
  refine ⟨fun a h1 b h2 => ?_, fun a h1 => ?_⟩
  · obtain ⟨x, hx, rfl⟩ := pys_mem h1
    obtain ⟨y, hy, rfl⟩ := pys_mem h2
    have e := alike_py x y (hp x hx) (hp y hy)
    rw [ha x hx y hy] at e
    exact e
  · obtain ⟨x, hx, rfl⟩ := pys_mem h1
    exact hn x hx
theorem vals_nth : ∀ {vs : List V} {us : List Value} {i : Nat} {u : Value}, Vals vs us → us[i]? = some u → ∃ v, vs[i]? = some v ∧ RelV v u
  | _, _, _, _, .nil, h => by simp at h
  | _, _, 0, _, .cons r t, h => ⟨_, rfl, by cases h; exact r⟩
  | _, _, i + 1, _, .cons r t, h => vals_nth (i := i) t h
section
variable {X : Cx} {S : Sx} {pos p pos2 p2 : Pos}
theorem reps_nth {F : Hp} : ∀ {vs : List V} {xs : List D} {i : Nat} {v : V}, Reps X.K S.ft S.ac F vs xs → vs[i]? = some v → Rep X.K S.ft S.ac F v (xs.getD i .non)
  | _, _, _, _, .nil, h => by simp at h
  | _, _, 0, _, .cons r t, h => by cases h; exact r
  | _, _, i + 1, _, .cons (d := d) (ds := ds) r t, h => by
    have := reps_nth (i := i) t h
    simpa using this
theorem cl_minD (hc : X.calm = true) (hu : X.A.units + 65 < cLine) : ClT X S (.builtin "min") pMinD := fun F H c x dx r Q w rx e k => by
  cases dx with
  | lst ys =>
    cases ys with
    | nil => cases e
    | cons y xs =>
      obtain ⟨ok, e⟩ := ite_some e
      obtain ⟨a, vs, rfl, h, rs⟩ := t_lst w rx
      obtain ⟨hpl, hdp, hp, ha, hn⟩ := okMin_iff ok
      intro pins s σ us I rv
      obtain ⟨u, rfl, ru⟩ := vals1 rv
      obtain rfl : u = Value.ref a := ru
      obtain ⟨its, rvs, hl, _⟩ := I.list (SqL.of h)
      obtain ⟨as, hr⟩ := Dp.readsAll I (pys (y :: xs)) vs its (Reps.dp w.fh (y :: xs) hpl rs).1 rvs
      have hr' : ReadsAll s.heap its.toArray.toList (pys (y :: xs)) as := by simpa using hr
      have hlen : its.toArray.size = xs.length + 1 := by
        rw [PySem.W.readsAll_len hr', pys_len]
        rfl
      refine call_min_walkH (PySem.W.iter_listW (A := X.A.in1) (I.ok.hd hc) hl.isList fun s₂ e2 W st hfp hw hk => ?_)
      refine ⟨_, _, _, _, _, _, _, s.heap, _, rfl, W, st, hfp, by omega, hw, hk, PySem.W.cmpIn_lt (A := X.A.in1) hr' (alikeAll_of ok) (by show X.A.units + 1 + _ < _; rw [pys_depth]; omega), fun v s' hP m => ?_⟩
      obtain ⟨h', tk, rfl, hk'⟩ := PySem.W.moved_old e2 rfl m
      have e1 : its.toArray.size - 1 = xs.length := by omega
      rw [e1] at hP
      have hP' : its[argBest (fun i j => PySem.W.dataLt ((pys (y :: xs)).getD i .none) ((pys (y :: xs)).getD j .none)) xs.length]? = some v := by simpa using hP
      rw [(best_lt hp ha xs.length (by simp)).1] at hP'
      obtain ⟨z, hz, rz⟩ := vals_nth rvs hP'
      have rp := reps_nth rs hz
      have ef := (PySem.W.argBest_fold ltB D.non y xs xs.length (Nat.le_refl _)).2
      rw [List.take_length] at ef
      rw [ef, e] at rp
      exact ⟨z, H, I.kept hk', rz, k z F H (Gr.refl _ _ _ _) w rp⟩
  | _ => cases e
theorem cl_maxD (hc : X.calm = true) (hu : X.A.units + 65 < cLine) : ClT X S (.builtin "max") pMaxD := fun F H c x dx r Q w rx e k => by
  cases dx with
  | lst ys =>
    cases ys with
    | nil => cases e
    | cons y xs =>
      obtain ⟨ok, e⟩ := ite_some e
      obtain ⟨a, vs, rfl, h, rs⟩ := t_lst w rx
      obtain ⟨hpl, hdp, hp, ha, hn⟩ := okMin_iff ok
      intro pins s σ us I rv
      obtain ⟨u, rfl, ru⟩ := vals1 rv
      obtain rfl : u = Value.ref a := ru
      obtain ⟨its, rvs, hl, _⟩ := I.list (SqL.of h)
      obtain ⟨as, hr⟩ := Dp.readsAll I (pys (y :: xs)) vs its (Reps.dp w.fh (y :: xs) hpl rs).1 rvs
      have hr' : ReadsAll s.heap its.toArray.toList (pys (y :: xs)) as := by simpa using hr
      have hlen : its.toArray.size = xs.length + 1 := by
        rw [PySem.W.readsAll_len hr', pys_len]
        rfl
      refine call_max_walkH (PySem.W.iter_listW (A := X.A.in1) (I.ok.hd hc) hl.isList fun s₂ e2 W st hfp hw hk => ?_)
      refine ⟨_, _, _, _, _, _, _, s.heap, _, rfl, W, st, hfp, by omega, hw, hk, PySem.W.cmpIn_gt (A := X.A.in1) hr' (alikeAll_of ok) (by show X.A.units + 1 + _ < _; rw [pys_depth]; omega), fun v s' hP m => ?_⟩
      obtain ⟨h', tk, rfl, hk'⟩ := PySem.W.moved_old e2 rfl m
      have e1 : its.toArray.size - 1 = xs.length := by omega
      rw [e1] at hP
      have hP' : its[argBest (fun i j => PySem.W.dataLt ((pys (y :: xs)).getD j .none) ((pys (y :: xs)).getD i .none)) xs.length]? = some v := by simpa using hP
      rw [(best_gt hp ha xs.length (by simp)).1] at hP'
      obtain ⟨z, hz, rz⟩ := vals_nth rvs hP'
      have rp := reps_nth rs hz
      have ef := (PySem.W.argBest_fold (fun a b => ltB b a) D.non y xs xs.length (Nat.le_refl _)).2
      rw [List.take_length] at ef
      rw [ef, e] at rp
      exact ⟨z, H, I.kept hk', rz, k z F H (Gr.refl _ _ _ _) w rp⟩
  | _ => cases e
theorem se_setN (hc : X.calm = true) (hu : X.A.units + 65 < cLine) {a : Expr} {ea : EV} (hg : Gl X "len") (hm : X.mg "len" = none) (hg2 : Gl X "set") (hm2 : X.mg "set" = none) (ha : SB X S a ea)
    (hs : starEach [a] X.env = (false, eval a X.env) :: starEach [] X.env := by rfl) (hpl : (backTo pos2 (starEach [] X.env)).any (·.1) = false := by rfl)
    (hs2 : starEach [.Call (.Name "set" p2) [a] [] pos2] X.env = (false, eval (.Call (.Name "set" p2) [a] [] pos2) X.env) :: starEach [] X.env := by rfl) (hpl2 : (backTo pos (starEach [] X.env)).any (·.1) = false := by rfl) :
    SE X S (.Call (.Name "len" p) [.Call (.Name "set" p2) [a] [] pos2] [] pos) (e1 pSetN ea) := ⟨fun ρ c F H σ Q w r p pins s I => by
  refine wpAny_Call_Name_kw (ld_blt I hg hm PySem.boot_len ?_)
  refine PyProof.Rows.callWith_builtin1 ?_ hs2 hpl2
  rw [hs2]
  show wpAny _ _ (spliced ((false, eval (.Call (.Name "set" p2) [a] [] pos2) X.env) :: backTo pos (starEach [] X.env))) _ _ s
  refine Calls.spliced_cons ?_
  refine wpAny_Call_Name_kw (ld_blt I hg2 hm2 PyProof.Rows.boot_set ?_)
  refine PyProof.Rows.callWith_type1 (thn ((sa1 ha hs).run ρ c F H σ (fun vs H1 => ∃ (x : V) (dx : D) (xs : List D) (c1 : Cup) (F1 : Hp), vs = [x] ∧ Wd F1 S.ac c1 H1 ∧ RepT X.K S F1 c1 H1 x dx ∧ seqI dx = some xs ∧ uni xs = true ∧ xs.length ≤ 4000 ∧
    Q (.int ((once xs).length : Int)) H1) w r (p.bind.imp fun dx c1 F1 H1 g1 w1 p1 x rx => ?_) pos2 pins s I) fun us s1 ⟨vs, H1, I1, r1, q1⟩ => ?_) hs hpl
  · obtain ⟨d, e, k⟩ := p1.lift
    obtain ⟨xs, e1, e2⟩ := Option.bind_eq_some_iff.mp (show (seqI dx).bind (fun xs => if (uni xs && decide (xs.length ≤ 4000)) = true then some (D.int ((once xs).length : Int)) else none) = some d from e)
    obtain ⟨h, rfl⟩ := ite_some e2
    rw [Bool.and_eq_true, decide_eq_true_eq] at h
    exact ⟨x, dx, xs, c1, F1, rfl, w1, rx, e1, h.1, h.2, k F1 H1 (Gr.refl _ _ _ _) w1 _ (.int _)⟩
  · obtain ⟨x, dx, xs, c1, F1, rfl, w1, rx, e1, h1, h2, k⟩ := q1
    obtain ⟨u, rfl, ru⟩ := vals1 r1
    refine set_call hc I1 w1 rx ru e1 h1 h2 fun A s2 I2 M oks => Calls.spliced_nil ?_
    obtain ⟨⟨o, es, ep, t, ho, hex, hd, ⟨l, pl, pr⟩, hb, hf, hr, hl⟩, nd⟩ := M
    have hsz : es.size = (once xs).length := by
      have h3 := (onceK_perm (uni_each h1) pl).length_eq
      rw [List.length_map] at h3
      have h4 := paired_len pr
      rw [← h3, h4, Array.length_toList]
    refine PySem.call_len_set ho hex hd hf (by unfold scanBound at hb; omega) ?_
    rw [hsz]
    exact ⟨.int _, H1, I2.kept fun b o e => e, ⟨_, rfl⟩, k⟩⟩
theorem down_len : ∀ (i : Int) (n : Nat), (downD i n).length = n
  | _, 0 => rfl
  | i, n + 1 => by
    show (downD (i - 1) n).length + 1 = _
    rw [down_len]
theorem down_get : ∀ (i : Int) (n k : Nat), k < n → (downD i n)[k]? = some (.int (i + (k : Nat) * (-1)))
  | i, n + 1, 0, _ => by
    show some (D.int i) = _
    congr 2
    omega
  | i, n + 1, k + 1, h => by
    show (downD (i - 1) n)[k]? = _
    rw [down_get (i - 1) n k (by omega)]
    congr 2
    omega
theorem strm_d {F : Hp} {i : Int} {n : Nat} : Strm X.K S (Itc i (-1) n) F (downD i n) where
  stop := fun c F1 H l w => by
    show n ≤ (downD i n).length
    rw [down_len]
    exact Nat.le_refl _
  go := fun k c F1 H hi l w => by
    rw [down_len] at hi
    exact hi
  yld := fun k d c F1 H x H' hd l w y => by
    obtain ⟨rfl, rfl⟩ := y
    have hi : k < n := by
      have := (List.getElem?_eq_some_iff.mp hd).1
      rwa [down_len] at this
    rw [down_get i n k hi] at hd
    cases hd
    exact ⟨F1, Gr.refl _ _ _ _, w, .int _⟩
theorem si_r3 {tg a b d : Expr} {ea eb ed : EV} (hg : Gl X "range") (hm : X.mg "range" = none) (ha : SB X S a ea) (hb : SB X S b eb) (hd : SB X S d ed) (hs : starEach [a, b, d] X.env = (false, eval a X.env) :: starEach [b, d] X.env := by rfl)
    (hs2 : starEach [b, d] X.env = (false, eval b X.env) :: starEach [d] X.env := by rfl) (hs3 : starEach [d] X.env = [(false, eval d X.env)] := by rfl) (hpl : (backTo pos (starEach [b, d] X.env)).any (·.1) = false := by rfl) :
    SI X S tg (.Call (.Name "range" p) [a, b, d] [] pos) (iR3 ea eb ed) := ⟨fun ρ c F H σ R w r p => by
  refine twI_of (pi_range3 hg hm pa_tw hs hpl) ?_
  refine twA_of (pa_cons pe_tw (pa_cons pe_tw (pa_cons pe_tw pa_nil hs3) hs2) hs) ?_
  refine ha.run ρ c F H σ _ w r (p.bind.imp fun d1 c1 F1 H1 g1 w1 p1 v rv => ?_)
  refine hb.run ρ c1 F1 H1 σ _ w1 (r.grow g1) (p1.bind.imp fun d2 c2 F2 H2 g2 w2 p2 v2 rv2 => ?_)
  refine hd.run ρ c2 F2 H2 σ _ w2 ((r.grow g1).grow g2) (p2.bind.imp fun d3 c3 F3 H3 g3 w3 p3 v3 rv3 => ?_)
  cases d1 with
  | int i =>
    rw [t_int rv]
    cases d2 with
    | int j =>
      rw [t_int rv2]
      cases d3 with
      | int k =>
        rw [t_int rv3]
        have p3 : Pst S F3 c3 H3 (if (okI i && okI j && decide (k = -1)) = true then .ok (downD i (i - j).toNat, c3) else .no) fun ds _ F' H' => ∀ J, Strm X.K S J F' ds → R J H' := p3
        by_cases h : (okI i && okI j && decide (k = -1)) = true
        · rw [if_pos h] at p3
          rw [Bool.and_eq_true, Bool.and_eq_true, decide_eq_true_eq] at h
          obtain ⟨h1, h2⟩ := okI_iff h.1.1
          obtain ⟨h3, h4⟩ := okI_iff h.1.2
          have fin := p3 F3 H3 (Gr.refl _ _ _ _) w3 _ strm_d
          obtain rfl := h.2
          exact ⟨i, j, -1, _, rfl, RgC.neg h1 h2 h3 h4, fin⟩
        · rw [if_neg h] at p3
          exact p3.elim
      | _ => exact p3.elim
    | _ => exact p3.elim
  | _ => exact p3.elim⟩
theorem ss_setLc2 {i : Nat} {y : Str} {py : Pos} {elt tg iter tg1 iter1 : Expr} {ifs ifs1 : List Expr} {scope : Scope} {own : List (Str × Nat)} {vs1 : List Nat} {spos : Pos} {it it1 : IV} {g g1 : TG} {t t1 : TV} {e : EV} {is is1 : List Nat} (hc : X.calm = true) (hN : X.N.Nodup) (hy : X.N[i]? = some y) (hyl : X.env.scope.names.lookup y = some .local)
    (hsw : swapsWith (.ListComp elt [⟨tg, iter, ifs, 0⟩, ⟨tg1, iter1, ifs1, 0⟩] scope pos) (some (.Name y py)) spos.line X.env = pure true) (ok : BlkOk X.N X.env.scope scope own) (hv : ∀ i ∈ vs1, i ∈ own.map (·.2)) (hi : SI X S tg iter it)
    (hg : Blk X scope fun Y => SG Y S.q tg g is) (ht : Blk X scope fun Y => SPs Y S.q ifs t) (hi1 : Blk X scope fun Y => SI Y S.q tg1 iter1 it1) (hg1 : Blk X scope fun Y => SG Y S.q tg1 g1 is1) (ht1 : Blk X scope fun Y => SPs Y S.q ifs1 t1) (he : Blk X scope fun Y => SE Y S.q elt e)
    (his : ∀ j ∈ is, j ∈ own.map (·.2)) (his1 : ∀ j ∈ is1, j ∈ vs1) (hs : ∀ x, foldedSetIterable iter X.env x = pure x := by intro _; rfl) (hs1 : ∀ env x, foldedSetIterable iter1 env x = pure x := by intro _ _; rfl) :
    SS X S (.Assign [.Name y py] (.ListComp elt [⟨tg, iter, ifs, 0⟩, ⟨tg1, iter1, ifs1, 0⟩] scope pos) spos) (sOwn i (eLc2 (own.map (·.2)) it g t vs1 it1 g1 t1 e)) := ⟨fun c0 F0 H0 Fl ρ c F H σ E s q => by
  refine twS_of (ps_setLc2 (vs1 := vs1) hc hN hy hyl hsw pi_tw ok hv (g := fun v σ H Q => Blk X scope fun Y => twG Y tg v σ H Q) (tt := fun σ H Q => Blk X scope fun Y => twPs Y ifs σ H Q) (wi1 := fun σ H R => Blk X scope fun Y => twI Y tg1 iter1 σ H R)
    (g1 := fun v σ H Q => Blk X scope fun Y => twG Y tg1 v σ H Q) (tt1 := fun σ H Q => Blk X scope fun Y => twPs Y ifs1 σ H Q) (te := fun σ H Q => Blk X scope fun Y => tw Y elt σ H Q)
    (fun s H C cl fp => ⟨fun pins s1 σ H1 v u Q I rv h => h s H C cl fp pins s1 u I rv⟩) (fun s H C cl fp => ⟨fun pins s1 σ H1 Q I h => pts_tw.run pins s1 σ H1 Q I (h s H C cl fp)⟩)
    (fun s H C cl fp => ⟨fun pins s1 σ H1 R I h => h s H C cl fp pins s1 I⟩)
    (fun s H C cl fp => ⟨fun pins s1 σ H1 v u Q I rv h => h s H C cl fp pins s1 u I rv⟩) (fun s H C cl fp => ⟨fun pins s1 σ H1 Q I h => pts_tw.run pins s1 σ H1 Q I (h s H C cl fp)⟩)
    (fun s H C cl fp => ⟨fun pins s1 σ H1 Q I h => h s H C cl fp pins s1 I⟩) hs hs1) ?_
  refine lc2_t hc hN ok hv hi hg ht hi1 hg1 ht1 he his his1 s.w s.e ((fin_bind q s.g).imp fun d c1 F1 H1 g1 w1 q1 a o h1 h2 h3 => ?_)
  have q1 : Fin X.K S c0 F0 H0 Fl E (.ok (.nx, ρ.set i (.ow d), c1)) := q1
  exact q1 (σ.set i (some (.ref a))) F1 H1 (own_new s g1 w1 o h1 h2 h3)⟩
/-- {k: v} -/
theorem so_disp1 {k v : Expr} {ek ev : EV} (hk : SE X S k ek) (hv : SE X S v ev) : SO X S (.Dict [some k] [v] pos) (eDisp1 ek ev) := ⟨fun ρ c F H σ Q w r p => by
  refine tw_of (pe_disp (pps_cons pe_tw pe_tw pps_nil) rfl rfl (fun z => by cases z) (show 1 ≤ 15 by decide)) ?_
  intro a hn
  have hac : c ≠ none → a ≠ S.ac := fun n e => by
    cases hc : c with
    | none => exact n hc
    | some xy =>
      obtain ⟨h1, h2⟩ := w.cup xy.1 xy.2 (by rw [hc])
      rw [e, h2] at hn
      cases hn
  have g0 : Gr S.ac c c F H F (upd H a (.dK [])) := Gr.laidO hn
  have w0 : Wd F S.ac c (upd H a (.dK [])) := w.laidO hn _
  have p0 : Pst S F c H ((ek ρ c).bind fun q => (ev ρ q.2).bind fun u => if isKey q.1 = true then .ok (.dct [(q.1, u.1)], u.2) else .no) (fun d c' F' H' => ∀ a, Own X.K S F' H' a d → F' a = none → H a = none → (c' ≠ none → a ≠ S.ac) → Q (.ref a) H') := p
  refine hk.run ρ c F (upd H a (.dK [])) σ _ w0 (r.grow g0) ?_
  cases e1 : ek ρ c with
  | no => rw [e1] at p0; exact p0.elim
  | err x c' =>
    rw [e1] at p0
    exact fun F' H' g w => p0 F' H' (g0.trans g) w
  | ok z =>
    obtain ⟨dk, c1⟩ := z
    rw [e1] at p0
    intro F1 H1 g1 w1 x rx
    have p1 : Pst S F c H ((ev ρ c1).bind fun u => if isKey dk = true then .ok (.dct [(dk, u.1)], u.2) else .no) (fun d c' F' H' => ∀ a, Own X.K S F' H' a d → F' a = none → H a = none → (c' ≠ none → a ≠ S.ac) → Q (.ref a) H') := p0
    refine hv.run ρ c1 F1 H1 σ _ w1 ((r.grow g0).grow g1) ?_
    cases e2 : ev ρ c1 with
    | no => rw [e2] at p1; exact p1.elim
    | err x c' =>
      rw [e2] at p1
      exact fun F' H' g w => p1 F' H' ((g0.trans g1).trans g) w
    | ok z =>
      obtain ⟨dv, c2⟩ := z
      rw [e2] at p1
      intro F2 H2 g2 w2 y ry
      have p2 : Pst S F c H (if isKey dk = true then .ok (.dct [(dk, dv)], c2) else .no) (fun d c' F' H' => ∀ a, Own X.K S F' H' a d → F' a = none → H a = none → (c' ≠ none → a ≠ S.ac) → Q (.ref a) H') := p1
      by_cases hkk : isKey dk = true
      · rw [if_pos hkk] at p2
        obtain ⟨kk, hk2, rfl⟩ := t_key (H := H1) (c := c1) hkk (.rep rx)
        have gg := (g0.trans g1).trans g2
        have hH2 : H2 a = some (.dK []) := (g1.trans g2).h a _ upd_same hac
        have hf : F2 a = none := (g1.trans g2).new a (w.free hn) (by rw [upd_same]; exact fun z => nomatch z)
        have hc2 : c2 ≠ none → a ≠ S.ac := fun z => hac fun q => z (gg.cc.mp q)
        refine ⟨hH2, [(kk, y)], rfl, (show 1 ≤ 15 by decide), ?_⟩
        exact p2 F2 (upd H2 a (.dK (mergeK [] [(kk, y)]))) (gg.set hn _) (w2.set hf hc2 _) a (.dct upd_same (repKs_put hk2 ry .nil)) hf hn hc2
      · rw [if_neg hkk] at p2
        exact p2.elim⟩
theorem dc_t {kx elt tg iter : Expr} {ifs : List Expr} {scope : Scope} {own : List (Str × Nat)} {it : IV} {g : TG} {t : TV} {k e : EV} {is : List Nat} (hc : X.calm = true) (hN : X.N.Nodup) (ok : BlkOk X.N X.env.scope scope own) (hi : SI X S tg iter it)
    (hg : Blk X scope fun Y => SG Y S.q tg g is) (ht : Blk X scope fun Y => SPs Y S.q ifs t) (hx : Blk X scope fun Y => SE Y S.q kx k) (he : Blk X scope fun Y => SE Y S.q elt e) (his : ∀ j ∈ is, j ∈ own.map (·.2))
    {ρ : Env} {c : Cup} {F H : Hp} {σ : L2.St} {Q : VK} (w : Wd F S.ac c H) (r : EnvR X.K S F c H σ ρ) (p : Pst S F c H (eDc (own.map (·.2)) it g t k e ρ c) (fun d c' F' H' => ∀ a, Own X.K S F' H' a d → F' a = none → H a = none → (c' ≠ none → a ≠ S.ac) → Q (.ref a) H')) :
    tDc (twI X tg iter) (fun v σ H Q => Blk X scope fun Y => twG Y tg v σ H Q) (fun σ H Q => Blk X scope fun Y => twPs Y ifs σ H Q) (fun σ H Q => Blk X scope fun Y => tw Y kx σ H Q) (fun σ H Q => Blk X scope fun Y => tw Y elt σ H Q) (own.map (·.2)) σ H Q := by
  refine hi.run ρ c F H σ _ w r (p.bind.imp fun ds c1 F1 H1 g1 w1 p1 J sJ Da hDa => ?_)
  obtain ⟨q, c2, eq, kf⟩ := p1.bind.quiet
  have hac : c1 ≠ none → Da ≠ S.ac := fun z e => by
    cases hc : c1 with
    | none => exact z hc
    | some xy =>
      obtain ⟨_, h2⟩ := w1.cup xy.1 xy.2 (by rw [hc])
      rw [e, h2] at hDa
      cases hDa
  have hDH : H Da = none := by
    cases e : H Da with
    | none => rfl
    | some o => exact absurd hDa (g1.dom Da (by rw [e]; exact fun z => nomatch z))
  refine ⟨fun i m H' => m = ds.length - i ∧ i ≤ ds.length ∧ ∃ (c' : Cup) (F' : Hp) (ks : List (Key × V)) (acc : List (D × D)), dcL g t k e (wipes (own.map (·.2)) ρ) (ds.drop i) acc c' = .ok (q, c2) ∧ RepKs X.K S.ft S.ac F' ks acc ∧ H' Da = some (.dK ks) ∧ F' Da = none ∧ Wd F' S.ac c' H' ∧ Gr S.ac c1 c' F1 H1 F' H',
    ⟨ds.length, by simp, Nat.zero_le _, c1, F1, [], [], by rw [List.drop_zero]; exact eq, .nil, upd_same, w1.free hDa, w1.laidO hDa _, Gr.laidO hDa⟩, ?_⟩
  rintro i m H' ⟨rfl, hi, c', F', ks, acc, e1, rks, hD', hF', w', g'⟩
  by_cases hlt : i < ds.length
  · right
    refine ⟨sJ.go i c' F' H' hlt g'.f w', fun H'' => ∃ (c'' : Cup) (F'' : Hp) (ks' : List (Key × V)) (acc' : List (D × D)), dcL g t k e (wipes (own.map (·.2)) ρ) (ds.drop (i + 1)) acc' c'' = .ok (q, c2) ∧ RepKs X.K S.ft S.ac F'' ks' acc' ∧ H'' Da = some (.dK ks') ∧ F'' Da = none ∧ Wd F'' S.ac c'' H'' ∧ Gr S.ac c1 c'' F1 H1 F'' H'',
      fun H'' n => ⟨ds.length - (i + 1), by omega, rfl, by omega, n⟩, fun x H2 y => ?_⟩
    obtain ⟨F2, g2, w2, rx⟩ := sJ.yld i ds[i] c' F' H' x H2 (List.getElem?_eq_getElem hlt) g'.f w' y
    have keepD : ∀ {c' c'' : Cup} {F' H' F'' H'' : Hp} {ks : List (Key × V)}, Gr S.ac c1 c' F1 H1 F' H' → Gr S.ac c' c'' F' H' F'' H'' → H' Da = some (.dK ks) → F' Da = none → H'' Da = some (.dK ks) ∧ F'' Da = none := fun ga gb h1 h2 =>
      ⟨gb.h _ _ h1 fun z => hac fun q => z (ga.cc.mp q), gb.new _ h2 (by rw [h1]; exact fun z => nomatch z)⟩
    obtain ⟨hD2, hF2⟩ := keepD g' g2 hD' hF'
    have gg2 := g'.trans g2
    rw [List.drop_eq_getElem_cons hlt] at e1
    unfold dcL at e1
    cases eg : g (wipes (own.map (·.2)) ρ) ds[i] with
    | none => rw [eg] at e1; cases e1
    | some ρ' =>
      rw [eg] at e1
      obtain ⟨⟨b, c3⟩, et, e3⟩ := bind_ok e1
      have ev0 : EnvR X.K S F2 c' H2 (L2.wipe σ (own.map (·.2))) (wipes (own.map (·.2)) ρ) := ((r.grow g1).grow gg2).wipe _
      intro s0 Hb C cl fp
      refine (hg s0 Hb C cl fp).run (wipes (own.map (·.2)) ρ) ρ' c' F2 H2 _ x ds[i] _ w2 ev0.len rx eg fun σ2 a2 => ⟨a2.wipe his, fun s0 Hb C cl fp => ?_⟩
      have ev2 : EnvR X.K S.q F2 c' H2 σ2 ρ' := Asg.env (S := S.q) a2 ev0.q
      intro pins s I
      refine (ht s0 Hb C cl fp).run ρ' c' F2 H2 σ2 _ w2 ev2 ?_ pins s I
      rw [et]
      intro F3 H3 g3 w3
      obtain ⟨hD3, hF3⟩ := keepD gg2 g3 hD2 hF2
      have gg3 := gg2.trans g3
      cases b with
      | false =>
        have e3 : dcL g t k e (wipes (own.map (·.2)) ρ) (ds.drop (i + 1)) acc c3 = .ok (q, c2) := e3
        rw [if_neg Bool.false_ne_true]
        exact ⟨c3, F3, ks, acc, e3, rks.mono (g2.f.trans g3.f) _, hD3, hF3, w3, gg3⟩
      | true =>
        rw [if_pos rfl]
        have e3 : (k ρ' c3).bind (fun a => (e ρ' a.2).bind fun b => if (isKey a.1 && decide (acc.length < line)) = true then dcL g t k e (wipes (own.map (·.2)) ρ) (ds.drop (i + 1)) (dput acc a.1 b.1) b.2 else .no) = .ok (q, c2) := e3
        obtain ⟨⟨dk, c4⟩, ek, e4⟩ := bind_ok e3
        obtain ⟨⟨dv, c5⟩, ee, e5⟩ := bind_ok e4
        have e5 : (if (isKey dk && decide (acc.length < line)) = true then dcL g t k e (wipes (own.map (·.2)) ρ) (ds.drop (i + 1)) (dput acc dk dv) c5 else .no) = .ok (q, c2) := e5
        by_cases hk : (isKey dk && decide (acc.length < line)) = true
        · rw [if_pos hk] at e5
          rw [Bool.and_eq_true, decide_eq_true_eq] at hk
          intro s0 Hb C cl fp
          refine (hx s0 Hb C cl fp).run ρ' c3 F3 H3 σ2 _ w3 (ev2.grow g3) ?_
          rw [ek]
          intro F4 H4 g4 w4 y ry
          obtain ⟨hD4, hF4⟩ := keepD gg3 g4 hD3 hF3
          have gg4 := gg3.trans g4
          intro s0 Hb C cl fp
          refine (he s0 Hb C cl fp).run ρ' c4 F4 H4 σ2 _ w4 ((ev2.grow g3).grow g4) ?_
          rw [ee]
          intro F5 H5 g5 w5 z rz
          obtain ⟨hD5, hF5⟩ := keepD gg4 g5 hD4 hF4
          have gg5 := gg4.trans g5
          have ry' : Rep X.K S.ft S.ac F4 y dk := ry
          obtain ⟨kk, hkk, rfl⟩ := t_key (S := S) (H := H4) (c := c4) hk.1 (.rep ry')
          have rz' : Rep X.K S.ft S.ac F5 z dv := rz
          refine ⟨ks, kk, rfl, hD5, by rw [rks.length, line_eq]; exact hk.2, c5, F5, putK ks kk z, dput acc dk dv, e5, repKs_put hkk rz' (rks.mono (g2.f.trans (g3.f.trans (g4.f.trans g5.f))) _), upd_same, hF5, w5.set hF5 (fun z => hac fun q => z (gg5.cc.mp q)) _, gg5.set hDa _⟩
        · rw [if_neg hk] at e5
          cases e5
  · left
    have hi' : i = ds.length := by omega
    subst hi'
    rw [List.drop_length] at e1
    have e1 : R.ok (acc, c') = .ok (q, c2) := e1
    injection e1 with e1
    injection e1 with e3 e4
    subst e3 e4
    exact ⟨sJ.stop c' F' H' g'.f w', kf F' H' g' w' F' H' (Gr.refl _ _ _ _) w' Da (.dct hD' rks) hF' hDH fun z => hac fun q => z (g'.cc.mp q)⟩
theorem so_dc {kx elt tg iter : Expr} {ifs : List Expr} {scope : Scope} {own : List (Str × Nat)} {it : IV} {g : TG} {t : TV} {k e : EV} {is : List Nat} (hc : X.calm = true) (hN : X.N.Nodup) (ok : BlkOk X.N X.env.scope scope own) (hi : SI X S tg iter it)
    (hg : Blk X scope fun Y => SG Y S.q tg g is) (ht : Blk X scope fun Y => SPs Y S.q ifs t) (hx : Blk X scope fun Y => SE Y S.q kx k) (he : Blk X scope fun Y => SE Y S.q elt e) (his : ∀ j ∈ is, j ∈ own.map (·.2)) (hs : ∀ x, foldedSetIterable iter X.env x = pure x := by intro _; rfl) :
    SO X S (.DictComp kx elt [⟨tg, iter, ifs, 0⟩] scope pos) (eDc (own.map (·.2)) it g t k e) := ⟨fun ρ c F H σ Q w r p => by
  refine tw_of (pe_dc hc hN pi_tw ok (g := fun v σ H Q => Blk X scope fun Y => twG Y tg v σ H Q) (tt := fun σ H Q => Blk X scope fun Y => twPs Y ifs σ H Q) (tk := fun σ H Q => Blk X scope fun Y => tw Y kx σ H Q) (tv := fun σ H Q => Blk X scope fun Y => tw Y elt σ H Q)
    (fun s H C cl fp => ⟨fun pins s1 σ H1 v u Q I rv h => h s H C cl fp pins s1 u I rv⟩) (fun s H C cl fp => ⟨fun pins s1 σ H1 Q I h => pts_tw.run pins s1 σ H1 Q I (h s H C cl fp)⟩) (fun s H C cl fp => ⟨fun pins s1 σ H1 Q I h => h s H C cl fp pins s1 I⟩) (fun s H C cl fp => ⟨fun pins s1 σ H1 Q I h => h s H C cl fp pins s1 I⟩) hs) ?_
  exact dc_t hc hN ok hi hg ht hx he his w r p⟩
/-! count -/
theorem cnt_eq (z : Nat) : ∀ s : List Nat, cnt z s = ((s.count z : Nat) : Int)
  | [] => rfl
  | a :: s => by
    rw [cnt_cons, List.count_cons, cnt_eq z s]
    by_cases h : a = z
    · rw [if_pos h, if_pos (beq_iff_eq.mpr h)]; omega
    · rw [if_neg h, if_neg (fun q => h (beq_iff_eq.mp q))]; omega
theorem m_count : MtT X S "str" "str.count" isStr pCount := ⟨fun F H c x dx w r h => ty_str r h, fun F H c x y dx dy r Q w rx ry e k => by
  cases dx with
  | str s =>
    cases dy with
    | str t =>
      cases t with
      | nil => cases e
      | cons z t =>
        cases t with
        | nil =>
          obtain ⟨rfl, _⟩ := t_str rx
          obtain ⟨rfl, _⟩ := t_str ry
          cases e
          refine wMt_of mt_count ⟨_, _, rfl, rfl, ?_⟩
          have e1 : Txt.count (mkS s) (mkS [z]) = ((s.count z : Nat) : Int) := by
            have h1 : mkS [z] = ⟨#[z]⟩ := rfl
            rw [h1, count_cnt]
            have h2 : (mkS s).cps.toList = s := by simp [mkS]
            rw [h2, cnt_eq]
          rw [e1]
          exact k _ F H (Gr.refl _ _ _ _) w (.int _)
        | cons => cases e
    | _ => cases e
  | _ => cases e⟩
/-! count, remove: lists of texts -/
def eqz (k : Str) (v : Value) : Bool := match v with
  | .str n _ => decide (n = k)
  | _ => false
theorem eqz_gives {k : Str} {t : Tok} : ∀ {us : List Value} {ns : List Str}, StrsAre us ns → ∀ y ∈ us, MeetsSeq.EqGives y (.str k t) (eqz k y)
  | _, _, .nil => fun y hy => by cases hy
  | _, _, .cons n t' h => fun y hy => by
    rcases List.mem_cons.mp hy with e | e
    · rw [e]
      exact fun _ _ _ _ _ _ h => wpAny_eqBool_str h
    · exact eqz_gives h y e
theorem eqz_count {k : Str} : ∀ {us : List Value} {ns : List Str}, StrsAre us ns → us.countP (eqz k) = ns.countP (fun n => decide (n = k))
  | _, _, .nil => rfl
  | _, _, .cons n t h => by
    have ih := eqz_count (k := k) h
    rw [List.countP_cons, List.countP_cons, ih] <;> rfl
theorem mt_lcountS : MtR X "list.count" (fun x xs H Q => ∃ (p : Addr) (ns : List Str) (k : Str), x = .ref p ∧ xs = [.str k] ∧ SqL X.K H p (ns.map V.str) ∧ Q (.int (ns.countP (fun n => decide (n = k)) : Nat)) H) := by
  intro pins s σ H x xs v us Q I rx rxs h
  obtain ⟨p, ns, k, rfl, rfl, hs, q⟩ := h
  cases rx
  obtain ⟨u, rfl, ru⟩ := rxs.one
  obtain ⟨t, rfl⟩ := ru
  obtain ⟨its, rv, ⟨⟨cls, dd, data, sl⟩, n, ho, hc, hdn, hd⟩, hlen⟩ := I.list hs
  simp only at hc hd
  subst hc hd
  have hi := rv.strs
  refine call_meets PySem.F.slot_list_count ⟨_, ho, rfl⟩ PySem.F.entry_list_count (PySem.F.args_list_count_2 _ _)
    (SeqAt.list_countAt p its.toArray n dd sl (.str k t) (eqz k)) ⟨ho, fun y hy => (eqz_gives hi y (by simpa using hy)).at _ _, ?_⟩
  have ec : its.toArray.toList.countP (eqz k) = ns.countP (fun n => decide (n = k)) := eqz_count hi
  refine ⟨.int (ns.countP (fun n => decide (n = k)) : Nat), H, I.tok _, ⟨s.toks, ?_⟩, q⟩
  show Value.int ((its.toArray.toList.countP (eqz k) : Nat) : Int) s.toks = Value.int ((ns.countP (fun n => decide (n = k)) : Nat) : Int) s.toks
  rw [ec]
theorem count_mk (z : List Nat) : ∀ zs : List (List Nat), (zs.map mkS).countP (fun n => decide (n = mkS z)) = zs.count z
  | [] => rfl
  | a :: zs => by
    rw [List.map_cons, List.countP_cons, List.count_cons, count_mk z zs]
    congr 1
    by_cases h : a = z
    · subst h
      rw [if_pos (decide_eq_true rfl), if_pos (beq_iff_eq.mpr rfl)]
    · rw [if_neg (by rw [decide_eq_true_eq]; exact fun q => h (mkS_inj q)), if_neg (fun q => h (beq_iff_eq.mp q))]
theorem ty_lst {F H : Hp} {c : Cup} {x : V} {dx : D} (w : Wd F S.ac c H) (r : RepT X.K S F c H x dx) (h : isLst dx = true) : tyV X.K "list" x H := by
  cases dx with
  | lst ds =>
    obtain ⟨a, vs, rfl, h1, _⟩ := t_lst w r
    exact .inl ⟨rfl, vs, SqL.of h1⟩
  | _ => cases h
theorem m_lcount : MtT X S "list" "list.count" isLst pLCount := ⟨fun F H c x dx w r h => ty_lst w r h, fun F H c x y dx dy r Q w rx ry e k => by
  cases dx with
  | lst ds =>
    cases dy with
    | str z =>
      obtain ⟨zs, e1, e2⟩ := Option.map_eq_some_iff.mp (show (strsD ds).map (fun zs => D.int ((zs.count z : Nat) : Int)) = some r from e)
      obtain ⟨a, vs, rfl, h1, rs⟩ := t_lst w rx
      obtain ⟨rfl, _⟩ := t_str ry
      obtain ⟨ev, _⟩ := strs_of e1 rs
      subst e2
      refine wMt_of mt_lcountS ⟨a, zs.map mkS, mkS z, rfl, rfl, ?_, ?_⟩
      · have : (zs.map mkS).map V.str = vs := by rw [ev, List.map_map]; rfl
        rw [this]
        exact SqL.of h1
      · rw [count_mk]
        exact k _ F H (Gr.refl _ _ _ _) w (.int _)
    | int z =>
      obtain ⟨zs, e1, e2⟩ := Option.map_eq_some_iff.mp (show (toInts ds).map (fun zs => D.int ((zs.count z : Nat) : Int)) = some r from e)
      obtain ⟨a, vs, rfl, h1, rs⟩ := t_lst w rx
      rw [t_int ry]
      have ev := ints_of (toInts_eq e1) rs
      subst e2
      exact wMt_of L2.mt_lcount ⟨a, zs, z, rfl, rfl, by rw [← ev]; exact SqL.of h1, k _ F H (Gr.refl _ _ _ _) w (.int _)⟩
    | _ => cases e
  | _ => cases e⟩
theorem erase_mapS : ∀ (l : List Str) (j : Nat), (l.map V.str).eraseIdx j = (l.eraseIdx j).map V.str
  | [], j => by simp
  | a :: r, 0 => by simp
  | a :: r, j + 1 => by
    have ih := erase_mapS r j
    simp [ih]
theorem mt_removeS : MtM X "list.remove" (fun x xs H Q => ∃ (l : Addr) (ns : List Str) (k : Str) (j : Nat), x = .ref l ∧ xs = [.str k] ∧ H l = some (.lst (ns.map V.str)) ∧ ns[j]? = some k ∧ (∀ m : Nat, m < j → ns[m]? ≠ some k) ∧ Q .non (upd H l (.lst ((ns.eraseIdx j).map V.str)))) := by
  intro pins s σ H x xs v us Q I rx rxs h
  obtain ⟨l, ns, k, j, rfl, rfl, hH, hj, hno, q⟩ := h
  cases rx
  obtain ⟨u, rfl, ru⟩ := rxs.one
  obtain ⟨t, rfl⟩ := ru
  obtain ⟨z, its, n, r, hl, e⟩ := I.lstM hH
  have hi := r.strs
  rw [List.length_map] at hl z
  have hjn : j < ns.length := (List.getElem?_eq_some_iff.mp hj).1
  have hjl : j < its.toArray.size := by rw [List.size_toArray]; omega
  have get : ∀ {us : List Value} {ns : List Str} (i : Nat) (k : Str), StrsAre us ns → ns[i]? = some k → ∃ t, us[i]? = some (Value.str k t) := fun {us ns} i k h => by
    induction h generalizing i with
    | nil => intro q; simp at q
    | cons n t h ih =>
      intro q
      cases i with
      | zero => exact ⟨t, by simp at q; subst q; rfl⟩
      | succ i => exact ih i (by simpa using q)
  refine call_meets PySem.F.slot_list_remove ⟨_, e, rfl⟩ PySem.F.entry_list_remove (PySem.F.args_list_remove_2 _ _)
    (MeetsSeq.list_remove l its.toArray n (.str k t) (eqz k) (fun y hy => eqz_gives hi y (by simpa using hy)) j hjl ?_ ?_ (by rw [List.size_toArray]; omega)) ⟨e, ?_⟩
  · obtain ⟨tj, hjt⟩ := get j k hi hj
    obtain ⟨h1, h2⟩ := List.getElem?_eq_some_iff.mp hjt
    have e1 : its.toArray[j] = .str k tj := by simpa using h2
    rw [e1]
    exact decide_eq_true rfl
  · intro m hm hmj
    have hmn : m < ns.length := by omega
    obtain ⟨tm, hmt⟩ := get m _ hi (List.getElem?_eq_getElem hmn)
    obtain ⟨h1, h2⟩ := List.getElem?_eq_some_iff.mp hmt
    have e1 : its.toArray[m] = .str ns[m] tm := by simpa using h2
    rw [e1]
    refine decide_eq_false fun e2 => hno m hmj ?_
    rw [List.getElem?_eq_getElem hmn, e2]
  · have rr := r.eraseIdx j
    rw [erase_mapS] at rr
    refine ⟨.non, _, I.lset (its' := its.eraseIdx j) (t' := s.toks) hH e ?_ rr ?_, rfl, q⟩
    · show its.toArray.eraseIdxIfInBounds j = (its.eraseIdx j).toArray
      rw [List.eraseIdxIfInBounds_toArray]
    · have z2 := len_erase ns j
      rw [List.length_map]
      omega
theorem erase_mapT : ∀ (l : List (List Nat)) (j : Nat), (l.map mkS).eraseIdx j = (l.eraseIdx j).map mkS
  | [], j => by simp
  | a :: r, 0 => by simp
  | a :: r, j + 1 => by
    have ih := erase_mapT r j
    simp [ih]
theorem remL_ix {z : List Nat} : ∀ {l l' : List (List Nat)}, remL z l = some l' → ∃ j, l[j]? = some z ∧ (∀ m, m < j → l[m]? ≠ some z) ∧ l' = l.eraseIdx j
  | [], _, h => by cases h
  | x :: r, l', h => by
    have h : (if x = z then some r else (remL z r).map (x :: ·)) = some l' := h
    by_cases q : x = z
    · rw [if_pos q] at h
      cases h
      exact ⟨0, by rw [q]; rfl, fun m hm => absurd hm (Nat.not_lt_zero _), rfl⟩
    · rw [if_neg q] at h
      obtain ⟨r', h1, h2⟩ := Option.map_eq_some_iff.mp h
      obtain ⟨j, e1, e2, e3⟩ := remL_ix h1
      refine ⟨j + 1, e1, fun m hm => ?_, by rw [← h2, e3]; rfl⟩
      cases m with
      | zero => exact fun e => q (Option.some.inj e)
      | succ m => exact e2 m (by omega)
theorem strs_reps {F : Hp} : ∀ {zs : List (List Nat)}, (∀ z ∈ zs, OkS z) → Reps X.K S.ft S.ac F (zs.map fun z => V.str (mkS z)) (zs.map D.str)
  | [], _ => .nil
  | z :: zs, h => .cons (.str z (h z (List.mem_cons_self ..))) (strs_reps fun y hy => h y (List.mem_cons_of_mem _ hy))
/-- x.remove(text) -/
theorem ss_rem {i : Nat} {x : Str} {e : Expr} {ev : EV} {xp ap cp : Pos} (hx : PE X (.Name x xp) (tVar i)) (he : SE X S e ev)
    (hbase : attributeBase (.Name x xp) "remove" X.env (eval (.Name x xp) X.env) = eval (.Name x xp) X.env := by rfl)
    (hfew : ((backTo cp (starEach [e] X.env)).all (fun x => !x.1) && (backToKw cp (keywordEach [] X.env)).all (fun x => x.1.isSome) && decide ([e].length + ([] : List Keyword).length + (if ([] : List Keyword).isEmpty then 0 else 1) < 30)) = true := by rfl)
    (hline : (ap.endLine == cp.line) = true := by rfl) (hss : starEach [e] X.env = (false, eval e X.env) :: starEach [] X.env := by rfl) (hplain : (backTo cp (starEach [] X.env)).any (·.1) = false := by rfl)
    (hs : swapsWith (.Call (.Attribute (.Name x xp) "remove" ap) [e] [] cp) none pos.line X.env = pure false := by rfl) : SS X S (.Expr (.Call (.Attribute (.Name x xp) "remove" ap) [e] [] cp) pos) (sRem i ev) := ⟨fun c0 F0 H0 Fl ρ c F H σ E s q => by
  unfold sRem at q
  cases hr : ρ[i]? with
  | none => rw [hr] at q; exact q.elim
  | some sl =>
    rw [hr] at q
    cases sl with
    | un => exact q.elim
    | sh d => exact q.elim
    | ow dx =>
      cases dx with
      | lst ds =>
        have q : Fin X.K S c0 F0 H0 Fl E ((ev ρ c).bind fun p => (match p.1 with
          | .str z => (match (strsD ds).bind (remL z) with
            | some zs => .ok (.nx, ρ.set i (.ow (.lst (zs.map .str))), p.2)
            | none => .no)
          | _ => .no)) := q
        obtain ⟨a, a1, a2, a3, a4⟩ := s.e.ow i _ hr
        cases a2 with
        | @lst vs _ ho r =>
          refine twS_of (ps_expr (pe_bm PySem.F.plainAttrs_list PySem.F.slot_list_remove PySem.F.type_list_remove mt_removeS hx pa_tw hbase hfew hline hss hplain) hs) ?_
          refine ⟨.ref a, a1, .inl ⟨rfl, vs, SqL.of ho⟩, ?_⟩
          refine twA_of (pa_cons pe_tw pa_nil hss) ?_
          refine he.run ρ c F H σ _ s.w s.e ((fin_bind q s.g).imp fun d c1 F1 H1 g1 w1 q1 v rv => ?_)
          have s1 := s.grow g1 w1
          obtain ⟨a', b1, b2, b3, b4⟩ := s1.e.ow i _ hr
          rw [a1] at b1
          cases b1
          cases b2 with
          | lst ho1 r1 =>
            cases d with
            | str z =>
              have q1 : Fin X.K S c0 F0 H0 Fl E (match (strsD ds).bind (remL z) with
                | some zs => .ok (.nx, ρ.set i (.ow (.lst (zs.map .str))), c1)
                | none => .no) := q1
              cases er : (strsD ds).bind (remL z) with
              | none => rw [er] at q1; exact q1.elim
              | some zs =>
                rw [er] at q1
                have q1 : Fin X.K S c0 F0 H0 Fl E (.ok (.nx, ρ.set i (.ow (.lst (zs.map .str))), c1)) := q1
                obtain ⟨ys, e1, e2⟩ := Option.bind_eq_some_iff.mp er
                obtain ⟨ev1, ok⟩ := strs_of e1 r1
                obtain ⟨j, j1, j2, j3⟩ := remL_ix e2
                cases rv with
                | str _ hz =>
                  have em : ∀ l : List (List Nat), (l.map mkS).map V.str = l.map fun z => V.str (mkS z) := fun l => by rw [List.map_map]; rfl
                  have ee : (ys.map mkS).eraseIdx j = (ys.eraseIdx j).map mkS := erase_mapT ys j
                  refine ⟨a, ys.map mkS, mkS z, j, rfl, rfl, by rw [em, ← ev1]; exact ho1, by rw [List.getElem?_map, j1]; rfl, fun m hm => ?_, ?_⟩
                  · rw [List.getElem?_map]
                    cases hq : ys[m]? with
                    | none => exact fun z => nomatch z
                    | some y => exact fun e => j2 m hm (by rw [hq]; exact congrArg some (mkS_inj (Option.some.inj e)))
                  · rw [ee, em, ← j3]
                    refine q1 σ F1 _ (s1.put hr a1 b3 b4 (.lst upd_same (strs_reps fun y hy => ok y ?_)))
                    rw [j3] at hy
                    exact List.mem_of_mem_eraseIdx hy
            | _ => exact q1.elim
      | _ => exact q.elim⟩
theorem newp_grow {own : Bool} {c c' : Cup} {F H F' H' Hs : Hp} {v : V} {d : D} (n : NewP X.K S own c F H Hs v d) (g : Gr S.ac c c' F H F' H') : NewP X.K S own c' F' H' Hs v d := by
  cases own with
  | true =>
    obtain ⟨a, e, o, h1, h2, h3⟩ := n
    exact ⟨a, e, o.grow h3 g, g.new a h1 o.there, h2, fun z => h3 fun q => z (g.cc.mp q)⟩
  | false => exact Rep.mono g.f _ n
/-- a, b = x, y: by a tuple (one of the names is a cell) -/
theorem ss_parT {i j : Nat} {x y : Str} {oi oj : Bool} {a b : Expr} {ea eb : EV} {px py pt : Pos} {kt k2 pt2} (hc : X.calm = true) (hN : X.N.Nodup) (hi : X.N[i]? = some x) (hj : X.N[j]? = some y)
    (lx : Loc X.env.scope x) (ly : Loc X.env.scope y) (fx : X.fn x = true ∨ X.env.scope.names.lookup x = some .local) (fy : X.fn y = true ∨ X.env.scope.names.lookup y = some .local) (ha : SN X S oi a ea) (hb : SN X S oj b eb)
    (hs : swapsWithSole [.Tuple [.Name x px, .Name y py] kt pt] (.Tuple [a, b] k2 pt2) pos.line X.env = pure false := by rfl)
    (hw : swappedStores [.Tuple [.Name x px, .Name y py] kt pt] (.Tuple [a, b] k2 pt2) X.env = pure none := by rfl)
    (hA : (assignEach [.Tuple [.Name x px, .Name y py] kt pt] X.env).map (·.2) = [assign (.Tuple [.Name x px, .Name y py] kt pt) X.env] := by rfl)
    (hn : (assignEach [.Name x px, .Name y py] X.env).length = 2 := by rfl) (hst : (assignEach [.Name x px, .Name y py] X.env).findIdx? (·.1) = none := by rfl)
    (hq1 : (assignEach [.Name x px, .Name y py] X.env).map (·.2) = assign (.Name x px) X.env :: (assignEach [.Name y py] X.env).map (·.2) := by rfl)
    (hq2 : (assignEach [.Name y py] X.env).map (·.2) = assign (.Name y py) X.env :: (assignEach [] X.env).map (·.2) := by rfl)
    (hs1 : starEach [a, b] X.env = (false, eval a X.env) :: starEach [b] X.env := by rfl) (hs2 : starEach [b] X.env = (false, eval b X.env) :: starEach [] X.env := by rfl) :
    SS X S (.Assign [.Tuple [.Name x px, .Name y py] kt pt] (.Tuple [a, b] k2 pt2) pos) (sPar2 i oi ea j oj eb) := ⟨fun c0 F0 H0 Fl ρ c F H σ E s q => by
  refine twS_of (ps_asg pe_tw pg_tw hs hw hA) ?_
  refine tw_of (pe_tup (pa_cons pe_tw (pa_cons pe_tw pa_nil hs2) hs1)) ?_
  refine ha.run ρ c F H σ _ s.w s.e ((fin_bind q s.g).imp fun d c1 F1 H1 g1 w1 q1 v nv => ?_)
  have s1 := s.grow g1 w1
  refine hb.run ρ c1 F1 H1 σ _ w1 s1.e ((fin_bind q1 s1.g).imp fun d2 c2 F2 H2 g2 w2 q2 v2 nv2 => ?_)
  have s2 := s1.grow g2 w2
  have q2 : Fin X.K S c0 F0 H0 Fl E (.ok (.nx, (ρ.set i (slOf oi d)).set j (slOf oj d2), c2)) := q2
  refine ⟨by show 2 ≤ sizeLine; rw [line_eq]; decide, fun Ta hT => ?_⟩
  have gT : Gr S.ac c2 c2 F2 H2 (upd F2 Ta (.tup [v, v2])) (upd H2 Ta (.tup [v, v2])) := Gr.laid w2.fh hT
  have wT := w2.laid hT (.tup [v, v2])
  have sT := s2.grow gT wT
  refine twG_of (pg_tup hc pgs_tw hn hst) ⟨Ta, [v, v2], rfl, SqT.of upd_same, rfl, ?_⟩
  refine twGs_of (pgs_cons (pg_name hN hi lx fx) (pgs_cons (pg_name hN hj ly fy) pgs_nil hq2) hq1) ?_
  refine ⟨v, [v2], rfl, v2, [], rfl, rfl, q2 _ (upd F2 Ta (.tup [v, v2])) _ ?_⟩
  have old : ∀ {Hs : Hp} {a : Addr} {k : Nat} {e : D} {b : Addr}, (∀ x, H x ≠ none → Hs x ≠ none) → Hs a = none → ρ[k]? = some (.ow e) → σ[k]? = some (some (.ref b)) → b ≠ a := fun hd hs h1 h2 z => by
    obtain ⟨b', x1, x2, _⟩ := s.e.ow _ _ h1
    rw [h2] at x1
    cases x1
    exact hd _ x2.there (by rw [z]; exact hs)
  have h0 : ∀ {Hs : Hp} {a : Addr}, (∀ x, H x ≠ none → Hs x ≠ none) → Hs a = none → H0 a = none := fun {Hs a} hd hs => by
    cases q : H0 a with
    | none => rfl
    | some u => exact absurd hs (hd a (s.g.dom a (by rw [q]; exact fun z => nomatch z)))
  have nv' := newp_grow (newp_grow nv g2) gT
  have nv2' := newp_grow nv2 gT
  have s3 := sT.newp i nv' fun a e h => ⟨h0 (Hs := H) (fun _ z => z) h, fun k e' b _ h1 h2 => old (Hs := H) (fun _ z => z) h h1 h2⟩
  refine s3.newp j nv2' fun a e h => ⟨h0 (Hs := H1) g1.dom h, fun k e' b hk h1 h2 => ?_⟩
  by_cases q : k = i
  · subst q
    have hlt : k < ρ.length := by
      have := (List.getElem?_eq_some_iff.mp h1).1
      rwa [List.length_set] at this
    rw [List.getElem?_set_self hlt] at h1
    rw [List.getElem?_set_self (by rw [s.e.len]; exact hlt)] at h2
    cases oi with
    | true =>
      obtain ⟨a', e3, o, _⟩ := nv
      rw [e3] at h2
      cases h2
      exact fun z => o.there (by rw [z]; exact h)
    | false => cases h1
  · rw [List.getElem?_set_ne (Ne.symm q)] at h1 h2
    exact old (Hs := H1) g1.dom h h1 h2⟩
/-! d.update(e) -/
def mergeK (kvs more : List (Key × V)) : List (Key × V) := more.foldl (fun a q => putK a q.1 q.2) kvs
theorem mergeK_len : ∀ (more kvs : List (Key × V)), (mergeK kvs more).length ≤ kvs.length + more.length
  | [], kvs => Nat.le_refl _
  | q :: more, kvs => by
    have h1 := length_putK kvs q.1 q.2
    have h2 := mergeK_len more (putK kvs q.1 q.2)
    have e : mergeK kvs (q :: more) = mergeK (putK kvs q.1 q.2) more := rfl
    rw [e, List.length_cons]
    omega
theorem kv_merge {more : List (Key × V)} {ms : List (Key × Value)} (r2 : KV more ms) : ∀ {kvs : List (Key × V)} {vs : List (Key × Value)}, KV kvs vs → KV (mergeK kvs more) (merged vs ms) := by
  induction r2 with
  | nil => exact fun r => r
  | cons h t ih =>
    intro kvs vs r
    obtain ⟨e, rv⟩ := h
    show KV (mergeK (putK kvs _ _) _) (merged (stored vs _ _) _)
    rw [e]
    exact ih (r.put _ rv)
theorem mt_updateK : MtM X "dict.update" (fun x xs H Q => ∃ (a b : Addr) (kvs more : List (Key × V)), x = .ref a ∧ xs = [.ref b] ∧ H a = some (.dK kvs) ∧ H b = some (.dK more) ∧ a ≠ b ∧ kvs.length + more.length ≤ sizeLine ∧ Q .non (upd H a (.dK (mergeK kvs more)))) := by
  intro pins s σ H x xs v us Q I rx rxs h
  obtain ⟨a, b, kvs, more, rfl, rfl, h1, h2, hab, hl, q⟩ := h
  cases rx
  obtain ⟨u, rfl, ru⟩ := rxs.one
  cases ru
  obtain ⟨z1, d1, vs, rel1, dd1⟩ := dk_of I.hok h1
  obtain ⟨z2, d2, ms, rel2, dd2⟩ := dk_of I.hok h2
  refine call_meetsIn PySem.F.slot_dict_update dd1.typeIs PySem.F.entry_dict_update (PySem.F.args_dict_update_2 _ _) (meets_dict_update (mixKind X.prog X.w) a b hab d2) ⟨vs, ms, dd1, dd2, by rw [← rel1.length, ← rel2.length]; exact hl, fun h' e1 e2 hs => ?_⟩
  have he : ∃ q, h'.get? a = some q := let ⟨q, _, _, hq, _⟩ := e1; ⟨q, hq⟩
  exact ⟨.non, _, d_write I (by rw [h1]; exact True.intro) hs he (dk_new (Nat.le_trans (mergeK_len _ _) hl) d1 (kv_merge rel2 rel1) e1), rfl, q⟩
theorem repKs_merge {F : Hp} {ks2 : List (Key × V)} {ds2 : List (D × D)} (r2 : RepKs X.K S.ft S.ac F ks2 ds2) : ∀ {ks : List (Key × V)} {ds : List (D × D)}, RepKs X.K S.ft S.ac F ks ds → RepKs X.K S.ft S.ac F (mergeK ks ks2) (dmerge ds ds2) := by
  induction ds2 generalizing ks2 with
  | nil => cases r2; exact fun r => r
  | cons p ds2 ih =>
    cases r2 with
    | cons hk h t => exact fun r => ih t (repKs_put hk h r)
theorem ss_upd {i : Nat} {x : Str} {e : Expr} {ev : EV} {xp ap cp : Pos} (hx : PE X (.Name x xp) (tVar i)) (he : SO X S e ev)
    (hbase : attributeBase (.Name x xp) "update" X.env (eval (.Name x xp) X.env) = eval (.Name x xp) X.env := by rfl)
    (hfew : ((backTo cp (starEach [e] X.env)).all (fun x => !x.1) && (backToKw cp (keywordEach [] X.env)).all (fun x => x.1.isSome) && decide ([e].length + ([] : List Keyword).length + (if ([] : List Keyword).isEmpty then 0 else 1) < 30)) = true := by rfl)
    (hline : (ap.endLine == cp.line) = true := by rfl) (hss : starEach [e] X.env = (false, eval e X.env) :: starEach [] X.env := by rfl) (hplain : (backTo cp (starEach [] X.env)).any (·.1) = false := by rfl)
    (hs : swapsWith (.Call (.Attribute (.Name x xp) "update" ap) [e] [] cp) none pos.line X.env = pure false := by rfl) : SS X S (.Expr (.Call (.Attribute (.Name x xp) "update" ap) [e] [] cp) pos) (sUpd i ev) := ⟨fun c0 F0 H0 Fl ρ c F H σ E s q => by
  unfold sUpd at q
  cases hr : ρ[i]? with
  | none => rw [hr] at q; exact q.elim
  | some sl =>
    rw [hr] at q
    cases sl with
    | un => exact q.elim
    | sh d => exact q.elim
    | ow dx =>
      cases dx with
      | dct ds =>
        have q : Fin X.K S c0 F0 H0 Fl E ((ev ρ c).bind fun p => (match p.1 with
          | .dct more => if ds.length + more.length ≤ line then .ok (.nx, ρ.set i (.ow (.dct (dmerge ds more))), p.2) else .no
          | _ => .no)) := q
        obtain ⟨a, a1, a2, a3, a4⟩ := s.e.ow i _ hr
        cases a2 with
        | @dct ks _ ho r =>
          refine twS_of (ps_expr (pe_bm PySem.F.plainAttrs_dict PySem.F.slot_dict_update PySem.F.type_dict_update mt_updateK hx pa_tw hbase hfew hline hss hplain) hs) ?_
          refine ⟨.ref a, a1, .inr (.inr (.inl ⟨rfl, .inl ⟨ks, ho⟩⟩)), ?_⟩
          refine twA_of (pa_cons pe_tw pa_nil hss) ?_
          refine he.run ρ c F H σ _ s.w s.e ((fin_bind q s.g).imp fun d c1 F1 H1 g1 w1 q1 b ob hb1 hb2 hb3 => ?_)
          have s1 := s.grow g1 w1
          obtain ⟨a', b1, b2, b3, b4⟩ := s1.e.ow i _ hr
          rw [a1] at b1
          cases b1
          cases b2 with
          | @dct ks1 _ ho1 r1 =>
            cases d with
            | dct more =>
              have q1 : Fin X.K S c0 F0 H0 Fl E (if ds.length + more.length ≤ line then .ok (.nx, ρ.set i (.ow (.dct (dmerge ds more))), c1) else .no) := q1
              by_cases hl : ds.length + more.length ≤ line
              · rw [if_pos hl] at q1
                cases ob with
                | @dct ks2 _ ho2 r2 =>
                  refine ⟨a, b, ks1, ks2, rfl, rfl, ho1, ho2, fun z => ?_, by rw [r1.length, r2.length]; exact le_line hl, ?_⟩
                  · rw [← z, ho] at hb2
                    cases hb2
                  · exact q1 σ F1 _ (s1.put hr a1 b3 b4 (.dct upd_same (repKs_merge r2 r1)))
              · rw [if_neg hl] at q1; exact q1.elim
            | _ => exact q1.elim
      | _ => exact q.elim⟩
/-! text * int, tuple * int -/
theorem op_repS : OpR X (binaryOp .Mult) (fun x y H Q => ∃ s n, x = V.str s ∧ y = V.int n ∧ MulOk s n ∧ Q (.str (Txt.mul s n)) H) := by
  intro pins s σ H x y v u Q I rx ry h
  obtain ⟨z, n, rfl, rfl, ok, q⟩ := h
  obtain ⟨t, rfl⟩ := rx
  obtain ⟨t', rfl⟩ := ry
  exact SB.mul ok fun t' k => ⟨.str (Txt.mul z n), H, I.tok _, ⟨_, rfl⟩, q⟩
theorem fold_rep (a : Array Nat) : ∀ (m : Nat) (acc : Array Nat), (List.replicate m a).foldl (· ++ ·) acc = acc ++ (List.replicate m a.toList).flatten.toArray
  | 0, acc => by simp
  | m + 1, acc => by
    rw [List.replicate_succ, List.foldl_cons, fold_rep a m, List.replicate_succ, List.flatten_cons]
    apply Array.ext'
    simp
theorem mul_mkS (s : List Nat) (n : Int) : Txt.mul (mkS s) n = mkS (List.replicate n.toNat s).flatten := by
  unfold Txt.mul
  by_cases h : n < 1
  · rw [if_pos h, show n.toNat = 0 by omega]
    rfl
  · rw [if_neg h]
    by_cases h2 : (n == 1 || (mkS s).length == 0) = true
    · rw [if_pos h2]
      rw [Bool.or_eq_true, beq_iff_eq, beq_iff_eq, mkS_len] at h2
      rcases h2 with e | e
      · subst e
        show mkS s = mkS (List.replicate 1 s).flatten
        simp
      · rw [List.length_eq_zero_iff.mp e]
        simp
    · rw [if_neg h2, fold_rep]
      show (⟨#[] ++ _⟩ : Str) = ⟨_⟩
      congr 1
      simp [mkS]
theorem ok_rep {s : List Nat} (h : OkS s) (m : Nat) : OkS (List.replicate m s).flatten := fun c hc => by
  obtain ⟨l, hl, hc⟩ := List.mem_flatten.mp hc
  rw [(List.mem_replicate.mp hl).2] at hc
  exact h c hc
theorem t_mulA : OpT X S (binaryOp .Mult) pMulA := fun F H c x y dx dy r Q w rx ry e k => by
  cases dx with
  | str s =>
    cases dy with
    | int n =>
      obtain ⟨hs, e⟩ := ite_some (show (if s.length ≤ 1000 ∧ n ≤ 1000 ∧ -1000 ≤ n then some (D.str (List.replicate n.toNat s).flatten) else none) = some r from e)
      subst e
      obtain ⟨rfl, o1⟩ := t_str rx
      rw [t_int ry]
      refine wOp_of op_repS ⟨mkS s, n, rfl, rfl, PyProof.Rows.mulOk_of 1000 1000 (by rw [mkS_len]; exact hs.1) (by omega) (by omega) (by decide) (by decide), ?_⟩
      rw [mul_mkS]
      exact k _ F H (Gr.refl _ _ _ _) w (.str _ (ok_rep o1 _))
    | _ => exact t_mul F H c x y _ _ r Q w rx ry e k
  | tup xs =>
    cases dy with
    | int n =>
      obtain ⟨hs, e⟩ := ite_some (show (if xs.isEmpty = false ∧ 2 ≤ n ∧ n ≤ 1000 ∧ xs.length ≤ 1000 then some (D.tup (List.replicate n.toNat xs).flatten) else none) = some r from e)
      subst e
      obtain ⟨a, vs, rfl, f1, h1, r1⟩ := t_tup w rx
      rw [t_int ry]
      refine wOp_of op_repT ⟨a, n, vs, rfl, rfl, h1, fun z => ?_, hs.2.1, hs.2.2.1, by rw [r1.length]; exact hs.2.2.2, new_tup w (Reps.rep r1 n.toNat) k⟩
      subst z
      cases r1
      exact absurd hs.1 (by decide)
    | _ => exact t_mul F H c x y _ _ r Q w rx ry e k
  | _ => exact t_mul F H c x y _ _ r Q w rx ry e k
/-! calls of two values -/
def ClT2 (X : Cx) (S : Sx) (f : Value) (pf : D → D → Option D) : Prop :=
  ∀ (F H : Hp) (c : Cup) (x y : V) (dx dy r : D) (Q : VK), Wd F S.ac c H → RepT X.K S F c H x dx → RepT X.K S F c H y dy → pf dx dy = some r →
    (∀ v F' H', Gr S.ac c c F H F' H' → Wd F' S.ac c H' → Rep X.K S.ft S.ac F' v r → Q v H') → wCl X f [x, y] H Q
theorem se_cB2 {x : Str} {id : String} {a b : Expr} {pf : D → D → Option D} {ea eb : EV} (hv : bootBuiltins x = some (.builtin id)) (ho : ClT2 X S (.builtin id) pf) (hg : Gl X x) (hm : X.mg x = none) (ha : SB X S a ea) (hb : SB X S b eb) (hn : x ≠ "__name__" := by decide) (hdb : (x == ("__debug__" : Str)) = false := by decide)
    (hs : starEach [a, b] X.env = (false, eval a X.env) :: starEach [b] X.env := by rfl) (hs2 : starEach [b] X.env = (false, eval b X.env) :: starEach [] X.env := by rfl) (hpl : (backTo pos (starEach [b] X.env)).any (·.1) = false := by rfl) :
    SE X S (.Call (.Name x p) [a, b] [] pos) (e2 pf ea eb) := ⟨fun ρ c F H σ Q w r q => by
  refine tw_of (pe_callB call_w hg hm hv pa_tw hn hdb hs hpl) ?_
  refine twA_of (pa_cons pe_tw (pa_cons pe_tw pa_nil hs2) hs) ?_
  refine ha.run ρ c F H σ _ w r (q.bind.imp fun dx c1 F1 H1 g1 w1 p1 x rx => ?_)
  refine hb.run ρ c1 F1 H1 σ _ w1 (r.grow g1) (p1.bind.imp fun dy c2 F2 H2 g2 w2 p2 y ry => ?_)
  obtain ⟨d, e, k⟩ := p2.lift
  exact ho F2 H2 c2 x y dx dy d Q w2 (rx.grow g2) ry e fun v F' H' g' w' rv => k F' H' g' w' v rv⟩
theorem cl_max2 (hc : X.calm = true) : ClT2 X S (.builtin "max") pMax2 := fun F H c x y dx dy r Q w rx ry e k => by
  cases dx with
  | int i =>
    cases dy with
    | int j =>
      cases e
      rw [t_int rx, t_int ry]
      exact wCl_of (call_max2 hc) ⟨i, j, rfl, k _ F H (Gr.refl _ _ _ _) w (.int _)⟩
    | _ => cases e
  | _ => cases e
theorem cl_min2 (hc : X.calm = true) : ClT2 X S (.builtin "min") pMin2 := fun F H c x y dx dy r Q w rx ry e k => by
  cases dx with
  | int i =>
    cases dy with
    | int j =>
      cases e
      rw [t_int rx, t_int ry]
      exact wCl_of (call_min2 hc) ⟨i, j, rfl, k _ F H (Gr.refl _ _ _ _) w (.int _)⟩
    | _ => cases e
  | _ => cases e
/-! text.index(letter) -/
theorem occ_idx {s : List Nat} {z : Nat} (h : z ∈ s) (hn : s.Nodup) : ∃ rest, Builtin.Str.occurrences (mkS s) (mkS [z]) 0 (mkS s).length 1 = s.idxOf z :: rest := by
  have h1 : mkS [z] = ⟨#[z]⟩ := rfl
  rw [h1]
  cases e : Builtin.Str.occurrences (mkS s) ⟨#[z]⟩ 0 (mkS s).length 1 with
  | nil =>
    have q := PyProof.Rows.empty_one (mkS s) z
    rw [e, mkS_cps, decide_eq_true h] at q
    cases q
  | cons i rest =>
    have q := PySem.StrLaws.occ_spec (mkS s) ⟨#[z]⟩ 0 (mkS s).length 1 i (by rw [e]; exact List.mem_cons_self ..)
    have q2 := (PySem.StrLaws.subAt_one (mkS s) z i).mp q
    rw [mkS_cps] at q2
    obtain ⟨hi, hz⟩ := List.getElem?_eq_some_iff.mp q2
    refine ⟨rest, ?_⟩
    congr 1
    rw [← hz]
    exact (hn.idxOf_getElem i hi).symm
theorem m_sidx : MtT X S "str" "str.index" isStr pSIdx := ⟨fun F H c x dx w r h => ty_str r h, fun F H c x y dx dy r Q w rx ry e k => by
  cases dx with
  | str s =>
    cases dy with
    | str t =>
      cases t with
      | nil => cases e
      | cons z t =>
        cases t with
        | nil =>
          obtain ⟨rfl, _⟩ := t_str rx
          obtain ⟨rfl, _⟩ := t_str ry
          obtain ⟨⟨h1, h2⟩, e⟩ := ite_some (show (if z ∈ s ∧ s.Nodup then some (D.int ((s.idxOf z : Nat) : Int)) else none) = some r from e)
          subst e
          obtain ⟨rest, ho⟩ := occ_idx h1 h2
          exact wMt_of mt_sindex ⟨_, _, _, rest, rfl, rfl, ho, k _ F H (Gr.refl _ _ _ _) w (.int _)⟩
        | cons => cases e
    | _ => cases e
  | _ => cases e⟩
/-! for v in d.values(), for k, v in d.items() -/
theorem vals_repsS {F : Hp} : ∀ {ks : List (Key × V)} {ds : List (D × D)}, RepKs X.K S.ft S.ac F ks ds → ∀ (i : Nat) (d : D) (k : Key) (v : V), (ds.map (·.2))[i]? = some d → ks[i]? = some (k, v) → Rep X.K S.ft S.ac F v d
  | _, _, .nil, _, _, _, _, _, h => by simp at h
  | _, _, .cons hk hv t, 0, d, k, v, h1, h2 => by
    simp at h1 h2
    obtain ⟨_, rfl⟩ := h2
    subst h1
    exact hv
  | _, _, .cons hk _ t, i + 1, d, k, v, h1, h2 => vals_repsS t i d k v (by simpa using h1) (by simpa using h2)
theorem strm_vs {F : Hp} {a : Addr} {o : Obj} {ks : List (Key × V)} {ds : List (D × D)} (h : F a = some (.frz o (.dK ks))) (r : RepKs X.K S.ft S.ac F ks ds) : Strm X.K S (Itd a o ks) F (ds.map (·.2)) where
  stop := fun c F1 H l w => ⟨w.fh _ _ (l _ _ h), by rw [List.length_map, ← r.length]; exact Nat.le_refl _⟩
  go := fun i c F1 H hi l w => ⟨w.fh _ _ (l _ _ h), by rwa [List.length_map, ← r.length] at hi⟩
  yld := fun i d c F1 H x H' hd l w y => by
    obtain ⟨rfl, k, hk⟩ := y
    exact ⟨F1, Gr.refl _ _ _ _, w, (vals_repsS r i d k x hd hk).mono l⟩
theorem strm_is {F : Hp} {a : Addr} {o : Obj} {ks : List (Key × V)} {ds : List (D × D)} (h : F a = some (.frz o (.dK ks))) (r : RepKs X.K S.ft S.ac F ks ds) : Strm X.K S (Iti a o ks) F (ds.map fun q => .tup [q.1, q.2]) where
  stop := fun c F1 H l w => ⟨w.fh _ _ (l _ _ h), by rw [List.length_map, ← r.length]; exact Nat.le_refl _⟩
  go := fun i c F1 H hi l w => ⟨w.fh _ _ (l _ _ h), by rwa [List.length_map, ← r.length] at hi⟩
  yld := fun i d c F1 H x H' hd l w y => by
    obtain ⟨T, k, v, hk, rfl, hT, rfl⟩ := y
    rw [List.getElem?_map] at hd
    obtain ⟨q, hq, rfl⟩ := Option.map_eq_some_iff.mp hd
    have r1 := keys_repsS r i q.1 k v (by rw [List.getElem?_map, hq]; rfl) hk
    have r2 := vals_repsS r i q.2 k v (by rw [List.getElem?_map, hq]; rfl) hk
    exact ⟨upd F1 T (.tup [kV k, v]), Gr.laid w.fh hT, w.laid hT _, .tup (SqT.of upd_same) (.cons ((r1.mono l).mono (Le.new (w.free hT))) (.cons ((r2.mono l).mono (Le.new (w.free hT))) .nil))⟩
theorem si_dv {tg pe : Expr} {e : EV} {apos cpos : Pos} (h : SE X S pe e) (hbase : attributeBase pe "values" X.env (eval pe X.env) = eval pe X.env := by rfl) (hline : (apos.endLine == cpos.line) = true := by rfl) : SI X S tg (.Call (.Attribute pe "values" apos) [] [] cpos) (iDV e) := ⟨fun ρ c F H σ R w r p => by
  refine twI_of (pi_values pe_tw hbase hline) ?_
  refine h.run ρ c F H σ _ w r (p.bind.imp fun d c1 F1 H1 g1 w1 p1 v rv => ?_)
  cases d with
  | dct ds =>
    cases rv with
    | dct hf rk => exact ⟨_, _, _, rfl, w1.fh _ _ hf, p1 F1 H1 (Gr.refl _ _ _ _) w1 _ (strm_vs hf rk)⟩
  | _ => exact p1.elim⟩
theorem si_di {elts : List Expr} {kk : Nat} {tpos : Pos} {pe : Expr} {e : EV} {apos cpos : Pos} (h : SE X S pe e) (hbase : attributeBase pe "items" X.env (eval pe X.env) = eval pe X.env := by rfl) (hline : (apos.endLine == cpos.line) = true := by rfl) : SI X S (.Tuple elts kk tpos) (.Call (.Attribute pe "items" apos) [] [] cpos) (iDI e) := ⟨fun ρ c F H σ R w r p => by
  refine twI_of (pi_items pe_tw hbase hline) ?_
  refine h.run ρ c F H σ _ w r (p.bind.imp fun d c1 F1 H1 g1 w1 p1 v rv => ?_)
  cases d with
  | dct ds =>
    cases rv with
    | dct hf rk => exact ⟨_, _, _, rfl, w1.fh _ _ hf, p1 F1 H1 (Gr.refl _ _ _ _) w1 _ (strm_is hf rk)⟩
  | _ => exact p1.elim⟩
/-- a, b, c = x, y, z -/
theorem ss_par3 {i j k : Nat} {x y z : Str} {oi oj ok : Bool} {a b f : Expr} {ea eb ef : EV} {px py pz pt : Pos} {kt k2 pt2} (hc : X.calm = true) (hN : X.N.Nodup) (hi : X.N[i]? = some x) (hj : X.N[j]? = some y) (hk : X.N[k]? = some z) (hij : i ≠ j) (hik : i ≠ k) (hjk : j ≠ k)
    (hx : X.env.scope.names.lookup x = some .local) (hy : X.env.scope.names.lookup y = some .local) (hz : X.env.scope.names.lookup z = some .local) (ha : SN X S oi a ea) (hb : SN X S oj b eb) (hf : SN X S ok f ef)
    (hw : swappedStores [.Tuple [.Name x px, .Name y py, .Name z pz] kt pt] (.Tuple [a, b, f] k2 pt2) X.env = pure (some [x, y, z]))
    (hs : swapsWithSole [.Tuple [.Name x px, .Name y py, .Name z pz] kt pt] (.Tuple [a, b, f] k2 pt2) pos.line X.env = pure false := by rfl)
    (hs1 : starEach [a, b, f] X.env = (false, eval a X.env) :: starEach [b, f] X.env := by rfl) (hs2 : starEach [b, f] X.env = (false, eval b X.env) :: starEach [f] X.env := by rfl) (hs3 : starEach [f] X.env = (false, eval f X.env) :: starEach [] X.env := by rfl) :
    SS X S (.Assign [.Tuple [.Name x px, .Name y py, .Name z pz] kt pt] (.Tuple [a, b, f] k2 pt2) pos) (sPar3 i oi ea j oj eb k ok ef) := ⟨fun c0 F0 H0 Fl ρ c F H σ E s q => by
  refine twS_of (ps_par3 hc hN hi hj hk hij hik hjk hx hy hz (pa_cons pe_tw (pa_cons pe_tw (pa_cons pe_tw pa_nil hs3) hs2) hs1) hw hs) ?_
  refine ha.run ρ c F H σ _ s.w s.e ((fin_bind q s.g).imp fun d c1 F1 H1 g1 w1 q1 v nv => ?_)
  have s1 := s.grow g1 w1
  refine hb.run ρ c1 F1 H1 σ _ w1 s1.e ((fin_bind q1 s1.g).imp fun d2 c2 F2 H2 g2 w2 q2 v2 nv2 => ?_)
  have s2 := s1.grow g2 w2
  refine hf.run ρ c2 F2 H2 σ _ w2 s2.e ((fin_bind q2 s2.g).imp fun d3 c3 F3 H3 g3 w3 q3 v3 nv3 => ?_)
  have s3 := s2.grow g3 w3
  have q3 : Fin X.K S c0 F0 H0 Fl E (.ok (.nx, ((ρ.set i (slOf oi d)).set j (slOf oj d2)).set k (slOf ok d3), c3)) := q3
  refine ⟨v, v2, v3, rfl, q3 _ F3 H3 ?_⟩
  have old : ∀ {Hs : Hp} {a : Addr} {k : Nat} {e : D} {b : Addr}, (∀ x, H x ≠ none → Hs x ≠ none) → Hs a = none → ρ[k]? = some (.ow e) → σ[k]? = some (some (.ref b)) → b ≠ a := fun hd hs h1 h2 z => by
    obtain ⟨b', x1, x2, _⟩ := s.e.ow _ _ h1
    rw [h2] at x1
    cases x1
    exact hd _ x2.there (by rw [z]; exact hs)
  have h0 : ∀ {Hs : Hp} {a : Addr}, (∀ x, H x ≠ none → Hs x ≠ none) → Hs a = none → H0 a = none := fun {Hs a} hd hs => by
    cases q : H0 a with
    | none => rfl
    | some u => exact absurd hs (hd a (s.g.dom a (by rw [q]; exact fun z => nomatch z)))
  have dom2 : ∀ x, H x ≠ none → H2 x ≠ none := fun x h => g2.dom x (g1.dom x h)
  have own1 : ∀ {own : Bool} {cc : Cup} {Fa Ha Hb : Hp} {w : V} {e : D} {bb : Addr} {ee : D}, NewP X.K S own cc Fa Ha Hb w e → slOf own e = .ow ee → w = .ref bb → Ha bb ≠ none := fun {own cc Fa Ha Hb w e bb ee} n h hv => by
    cases own with
    | true =>
      obtain ⟨a', e3, o, _⟩ := n
      rw [hv] at e3
      cases e3
      exact o.there
    | false => cases h
  have t1 := s3.newp i (newp_grow (newp_grow nv g2) g3) fun a e h => ⟨h0 (Hs := H) (fun _ z => z) h, fun k e' b _ h1 h2 => old (Hs := H) (fun _ z => z) h h1 h2⟩
  have t2 := t1.newp j (newp_grow nv2 g3) fun a e h => ⟨h0 (Hs := H1) g1.dom h, fun m e' b hm h1 h2 => by
    by_cases q : m = i
    · subst q
      have hlt : m < ρ.length := by
        have := (List.getElem?_eq_some_iff.mp h1).1
        rwa [List.length_set] at this
      rw [List.getElem?_set_self hlt] at h1
      rw [List.getElem?_set_self (by rw [s.e.len]; exact hlt)] at h2
      exact fun z => own1 nv (Option.some.inj h1) (Option.some.inj (Option.some.inj h2)) (by rw [z]; exact h)
    · rw [List.getElem?_set_ne (Ne.symm q)] at h1 h2
      exact old (Hs := H1) g1.dom h h1 h2⟩
  refine t2.newp k nv3 fun a e h => ⟨h0 (Hs := H2) dom2 h, fun m e' b hm h1 h2 => ?_⟩
  by_cases q : m = j
  · subst q
    have hlt : m < ρ.length := by
      have := (List.getElem?_eq_some_iff.mp h1).1
      rwa [List.length_set, List.length_set] at this
    rw [List.getElem?_set_self (by rw [List.length_set]; exact hlt)] at h1
    rw [List.getElem?_set_self (by rw [List.length_set, s.e.len]; exact hlt)] at h2
    exact fun z => own1 nv2 (Option.some.inj h1) (Option.some.inj (Option.some.inj h2)) (by rw [z]; exact h)
  · rw [List.getElem?_set_ne (Ne.symm q)] at h1 h2
    by_cases q : m = i
    · subst q
      have hlt : m < ρ.length := by
        have := (List.getElem?_eq_some_iff.mp h1).1
        rwa [List.length_set] at this
      rw [List.getElem?_set_self hlt] at h1
      rw [List.getElem?_set_self (by rw [s.e.len]; exact hlt)] at h2
      exact fun z => g2.dom b (own1 nv (Option.some.inj h1) (Option.some.inj (Option.some.inj h2))) (by rw [z]; exact h)
    · rw [List.getElem?_set_ne (Ne.symm q)] at h1 h2
      exact old (Hs := H2) dom2 h h1 h2⟩
/-! d.get(k), dict(d) -/
theorem se_get1 (hu : X.A.units + 1 < cLine) {o e : Expr} {eo ee : EV} {ap : Pos} (ho : SB X S o eo) (he : SB X S e ee) (m : M1 X o "get" ap e pos) : SE X S (.Call (.Attribute o "get" ap) [e] [] pos) (eM isDct pGet1 eo ee) := ⟨fun ρ c F H σ Q w r p => by
  refine tw_of (pe_dget1 hu pe_tw pe_tw m) ?_
  refine ho.run ρ c F H σ _ w r (p.bind.imp fun dx c1 F1 H1 g1 w1 p1 x rx => ?_)
  have p1 : Pst S F1 c1 H1 (if isDct dx = true then (ee ρ c1).bind (fun q => lift (pGet1 dx q.1) q.2) else .no) fun d _ F' H' => ∀ v, Rep X.K S.ft S.ac F' v d → Q v H' := p1
  by_cases hc : isDct dx = true
  · rw [if_pos hc] at p1
    obtain ⟨kvs, rfl⟩ : ∃ kvs, dx = .dct kvs := by
      cases dx with
      | dct kvs => exact ⟨kvs, rfl⟩
      | _ => cases hc
    obtain ⟨a, ks, rfl, hd, rk⟩ := t_dct w1 rx
    refine ⟨a, rfl, .inl ⟨ks, hd⟩, ?_⟩
    refine he.run ρ c1 F1 H1 σ _ w1 (r.grow g1) (p1.bind.imp fun dy c2 F2 H2 g2 w2 p2 y ry => ?_)
    obtain ⟨d, e, k⟩ := p2.lift
    have e : (if isKey dy = true then some ((dget kvs dy).getD .non) else none) = some d := e
    obtain ⟨h, e⟩ : isKey dy = true ∧ (dget kvs dy).getD .non = d := by
      split at e
      · exact ⟨by assumption, by cases e; rfl⟩
      · cases e
    obtain ⟨kk, hk, rfl⟩ := t_key h ry
    obtain ⟨a', ks, ea, hd, rk⟩ := t_dct w2 (rx.grow g2)
    cases ea
    refine ⟨valV ks kk, .inl ⟨ks, kk, hd, rfl, rfl⟩, ?_⟩
    rcases dget_val hk rk with ⟨h1, h2⟩ | ⟨e1, v, h1, h2, h3⟩
    · rw [h1] at e
      subst e
      rw [h2]
      exact k F2 H2 (Gr.refl _ _ _ _) w2 .non .non
    · rw [h1] at e
      subst e
      rw [h2]
      exact k F2 H2 (Gr.refl _ _ _ _) w2 v h3
  · rw [if_neg hc] at p1
    exact p1.elim⟩
theorem cl_dict : ClO X S (.type "dict") pDictD := fun F H c x dx r Q w rx e k => by
  cases dx with
  | dct kvs =>
    cases e
    obtain ⟨a, ks, rfl, h, rs⟩ := t_dct w rx
    exact wCl_of call_dictD ⟨a, ks, rfl, h, fun p hp => k p _ _ (Gr.laidO hp) (w.laidO hp _) (.dct upd_same rs) (w.free hp) hp fun n e => by
      cases hc : c with
      | none => exact n hc
      | some xy =>
        obtain ⟨h1, h2⟩ := w.cup xy.1 xy.2 (by rw [hc])
        rw [e, h2] at hp
        cases hp⟩
  | _ => cases e
/-! x = l.pop() -/
theorem reps_last {F : Hp} : ∀ {vs : List V} {ds : List D}, Reps X.K S.ft S.ac F vs ds → ∀ {d : D}, ds[ds.length - 1]? = some d → ∃ v, vs[vs.length - 1]? = some v ∧ Rep X.K S.ft S.ac F v d := fun r d h => by
  obtain ⟨v, h1, h2⟩ := r.get h
  exact ⟨v, by rw [r.length]; exact h1, h2⟩
theorem reps_drop {F : Hp} : ∀ {vs : List V} {ds : List D}, Reps X.K S.ft S.ac F vs ds → Reps X.K S.ft S.ac F vs.dropLast ds.dropLast
  | _, _, .nil => .nil
  | _, _, .cons h .nil => .nil
  | _, _, .cons h (.cons h2 t) => .cons h (reps_drop (.cons h2 t))
theorem ss_pop {i j : Nat} {x l : Str} {xp lp ap cp : Pos} (hN : X.N.Nodup) (hj : X.N[j]? = some x) (hxl : Loc X.env.scope x) (hf : X.fn x = true ∨ X.env.scope.names.lookup x = some .local) (hl : PE X (.Name l lp) (tVar i)) (hij : i ≠ j)
    (hbase : attributeBase (.Name l lp) "pop" X.env (eval (.Name l lp) X.env) = eval (.Name l lp) X.env := by rfl) (hline : (ap.endLine == cp.line) = true := by rfl)
    (hs : swapsWith (.Call (.Attribute (.Name l lp) "pop" ap) [] [] cp) (some (.Name x xp)) pos.line X.env = pure false := by rfl) : SS X S (.Assign [.Name x xp] (.Call (.Attribute (.Name l lp) "pop" ap) [] [] cp) pos) (sPop i j) := ⟨fun c0 F0 H0 Fl ρ c F H σ E s q => by
  unfold sPop at q
  cases hr : ρ[i]? with
  | none => rw [hr] at q; exact q.elim
  | some sl =>
    rw [hr] at q
    cases sl with
    | un => exact q.elim
    | sh d => exact q.elim
    | ow dx =>
      cases dx with
      | lst ds =>
        have q : Fin X.K S c0 F0 H0 Fl E (match ds[ds.length - 1]? with
          | some d => .ok (.nx, (ρ.set i (.ow (.lst ds.dropLast))).set j (.sh d), c)
          | none => .no) := q
        obtain ⟨a, a1, a2, a3, a4⟩ := s.e.ow i _ hr
        cases a2 with
        | @lst vs _ ho r =>
          cases hd : ds[ds.length - 1]? with
          | none => rw [hd] at q; exact q.elim
          | some d =>
            rw [hd] at q
            have q : Fin X.K S c0 F0 H0 Fl E (.ok (.nx, (ρ.set i (.ow (.lst ds.dropLast))).set j (.sh d), c)) := q
            obtain ⟨v, hv, rv⟩ := reps_last r hd
            refine twS_of (ps_set hN hj hxl (pe_bm0 PySem.F.plainAttrs_list PySem.F.slot_list_pop PySem.F.type_list_pop mt_pop hl hbase hline) hs hf) ?_
            refine ⟨.ref a, a1, .inl ⟨rfl, vs, SqL.of ho⟩, a, vs, v, rfl, rfl, ho, hv, ?_⟩
            have s1 := s.put hr a1 a3 a4 (.lst (h := upd_same) (reps_drop r))
            refine q (σ.set j (some v)) F _ (s1.asg (is := [j]) ⟨by simp, by simp, fun k hk => ?_, fun k sl hk h => ?_⟩)
            · have hjk : j ≠ k := fun z => hk (by rw [z]; exact List.mem_singleton.mpr rfl)
              rw [List.getElem?_set_ne hjk, List.getElem?_set_ne hjk]
              exact ⟨rfl, rfl⟩
            · cases List.mem_singleton.mp hk
              have hlt : j < (ρ.set i (.ow (.lst ds.dropLast))).length := by
                have := (List.getElem?_eq_some_iff.mp h).1
                rwa [List.length_set] at this
              rw [List.getElem?_set_self hlt] at h
              cases h
              exact ⟨d, v, rfl, List.getElem?_set_self (by rw [s1.e.len]; exact hlt), rv⟩
      | _ => exact q.elim⟩
/-! d != {}, d == {} -/
theorem ne_dicts {prog : Program} {w : World} {K : Type} [DecidableEq K] {knd : KeyKind prog w K} {A : Around} {s : Shared} {a b : Addr} {ka kb : List (K × Value)} {r : Bool} (ha : (a == sysModules) = false) (hb : (b == sysModules) = false)
    (da : s.heap.DictOf knd a ka) (db : s.heap.DictOf knd b kb) (hu : A.units < cLine) (hits : ka.length = kb.length → PySem.W.KeqHitsP prog w A.in1 s kb ka r) (E Q : Value → Shared → Prop) (h : Q (.bool (!(ka.length == kb.length && r))) s) : wpAny (model prog w) A (richCompare .NotEq (.ref a) (.ref b)) Q E s := by
  refine wpAny_richCompare_same_room (op := .NotEq) da.typeIs db.typeIs PySem.F.slot_dict_ne (wpAny_call_entry PySem.F.slot_dict_ne da.typeIs PySem.F.entry_dict_ne ?_ (PySem.F.args_dict_ne_2 _ _)) hu
  show wpAny _ _ (Builtin.Dict.dictSlotArgs "__ne__" ⟨[.ref a, .ref b], []⟩ >>= _) _ _ s
  refine wpAny_bind ?_
  unfold Builtin.Dict.dictSlotArgs
  refine wpAny_bind (wpAny_notOrdered_dict da.typeIs ?_)
  show wpAny _ _ (pure (Value.ref a, Value.ref b)) _ _ s
  refine wpAny_pure ?_
  refine wpAny_bind (wpAny_isInstance (T := "dict") db.typeIs PySem.F.sub_dict_dict ?_)
  simp only [Bool.not_true, Bool.false_eq_true, if_false]
  refine wpAny_bind (wpAny_pure (wpAny_bind (wpAny_pure ?_)))
  refine wpAny_bind (PySem.W.samePairsP ha hb da db hits ?_)
  refine wpAny_pure ⟨_, rfl, ?_, ?_⟩
  · exact fun x => nomatch x
  · simpa using h
theorem hits_nil {prog : Program} {w : World} {A : Around} {s : Shared} {ka : List (Key × Value)} (h : ka.length = ([] : List (Key × Value)).length) : PySem.W.KeqHitsP prog w A s [] ka true := by
  cases ka with
  | nil => exact .nil
  | cons => cases h
theorem op_neK0 (hu : X.A.units < cLine) : OpR X (compareOp .NotEq) (fun x y H Q => ∃ (a b : Addr) (ka : List (Key × V)), x = .ref a ∧ y = .ref b ∧ Rd H a (.dK ka) ∧ H b = some (.dK []) ∧ Q (.bl (!ka.isEmpty)) H) := by
  intro pins s σ H x y v u Q I rx ry h
  obtain ⟨a, b, ka, rfl, rfl, h1, h2, q⟩ := h
  cases rx
  cases ry
  obtain ⟨z1, d1, vs, rel1, dd1⟩ := dk_rd I.hok h1
  obtain ⟨z2, d2, ms, rel2, dd2⟩ := dk_of I.hok h2
  cases rel2
  refine ne_dicts (r := true) d1 d2 dd1 dd2 hu hits_nil _ _ ⟨.bl _, H, I, ?_, q⟩
  cases rel1 <;> rfl
theorem op_eqK0 (hu : X.A.units < cLine) : OpR X (compareOp .Eq) (fun x y H Q => ∃ (a b : Addr) (ka : List (Key × V)), x = .ref a ∧ y = .ref b ∧ Rd H a (.dK ka) ∧ H b = some (.dK []) ∧ Q (.bl ka.isEmpty) H) := by
  intro pins s σ H x y v u Q I rx ry h
  obtain ⟨a, b, ka, rfl, rfl, h1, h2, q⟩ := h
  cases rx
  cases ry
  obtain ⟨z1, d1, vs, rel1, dd1⟩ := dk_rd I.hok h1
  obtain ⟨z2, d2, ms, rel2, dd2⟩ := dk_of I.hok h2
  cases rel2
  refine PySem.W.rcP_dicts (r := true) d1 d2 dd1 dd2 hu hits_nil _ _ ⟨.bl _, H, I, ?_, q⟩
  cases rel1 <;> rfl
theorem se_dne0 (hu : X.A.units < cLine) {a : Expr} {ea : EV} (ha : SB X S a ea) (hm : behindInMarks .NotEq (.Dict [] [] p) = false := by rfl) : SE X S (.Compare a [.NotEq] [.Dict [] [] p] pos) (e1 pDNe0 ea) := ⟨fun ρ c F H σ Q w r q => by
  refine tw_of (pe_cmpR op_w pe_tw pe_tw hm) ?_
  refine ha.run ρ c F H σ _ w r (q.bind.imp fun dx c1 F1 H1 g1 w1 p1 x rx => ?_)
  obtain ⟨d, e, k⟩ := p1.lift
  cases dx with
  | dct ds =>
    cases e
    refine so_dct.run ρ c1 F1 H1 σ _ w1 (r.grow g1) fun F2 H2 g2 w2 b ob hb1 hb2 hb3 => ?_
    obtain ⟨a', ks, rfl, h, rs⟩ := t_dct w2 (rx.grow g2)
    cases ob with
    | dct ho ro =>
      cases ro
      have e : ks.isEmpty = ds.isEmpty := by cases rs <;> rfl
      exact wOp_of (op_neK0 hu) ⟨a', b, ks, rfl, rfl, h, ho, by rw [e]; exact k F2 H2 g2 w2 _ (.bl _)⟩
  | _ => cases e⟩
theorem se_deq0 (hu : X.A.units < cLine) {a : Expr} {ea : EV} (ha : SB X S a ea) (hm : behindInMarks .Eq (.Dict [] [] p) = false := by rfl) : SE X S (.Compare a [.Eq] [.Dict [] [] p] pos) (e1 pDEq0 ea) := ⟨fun ρ c F H σ Q w r q => by
  refine tw_of (pe_cmpR op_w pe_tw pe_tw hm) ?_
  refine ha.run ρ c F H σ _ w r (q.bind.imp fun dx c1 F1 H1 g1 w1 p1 x rx => ?_)
  obtain ⟨d, e, k⟩ := p1.lift
  cases dx with
  | dct ds =>
    cases e
    refine so_dct.run ρ c1 F1 H1 σ _ w1 (r.grow g1) fun F2 H2 g2 w2 b ob hb1 hb2 hb3 => ?_
    obtain ⟨a', ks, rfl, h, rs⟩ := t_dct w2 (rx.grow g2)
    cases ob with
    | dct ho ro =>
      cases ro
      have e : ks.isEmpty = ds.isEmpty := by cases rs <;> rfl
      exact wOp_of (op_eqK0 hu) ⟨a', b, ks, rfl, rfl, h, ho, by rw [e]; exact k F2 H2 g2 w2 _ (.bl _)⟩
  | _ => cases e⟩
/-! text[a::m] -/
theorem pe_slice3 {e st : Expr} {lo hi : Option Expr} {te : TE} {tl th ts : TO} {p2 : Pos} (he : PE X e te) (hl : PO X lo tl) (hu : PO X hi th) (hs : PO X (some st) ts) : PE X (.Subscript e (.Slice lo hi (some st) p2) pos) (fun σ H Q => te σ H fun x H1 => tl σ H1 fun l H2 => th σ H2 fun u H3 => ts σ H3 fun q H4 => ∀ (pins : List (Addr × Obj)) (s : Shared) (v vl vu vs : Value) (sl : Addr), Inv X pins σ H4 s → RelV x v → s.heap.IsSliceOf sl vl vu vs → IsPart vl l → IsPart vu u → IsPart vs q →
  ∃ T id, typeLookup (.type T) "__getitem__" = pure (some (.builtin id)) ∧ s.TypeIs v T ∧ wpAny (model X.prog X.w) X.A (getItem v (.ref sl)) (EP X pins σ Q) X.xe s) := by
  refine ⟨fun pins s σ H Q I h => ?_⟩
  refine Subscript_ (thn (he.run pins s σ H _ I h) fun v s1 ⟨x, H1, I1, r1, q1⟩ => ?_)
  refine wpAny_Slice (thn (hl.run pins s1 σ H1 _ I1 q1) fun vl s2 ⟨l, H2, I2, pl, q2⟩ => thn (hu.run pins s2 σ H2 _ I2 q2) fun vu s3 ⟨u, H3, I3, pu, q3⟩ => thn (hs.run pins s3 σ H3 _ I3 q3) fun vs s4 ⟨q, H4, I4, ps, q4⟩ => ?_)
  have I5 : Inv X pins σ H4 { s4 with heap := s4.heap.push { cls := .type "slice", data := .fields #[vl, vu, vs] } } := I4.kept (t' := s4.toks) fun b ob q => Heap.get?_push_of_some _ q
  obtain ⟨T, id, hT, ht, hg⟩ := q4 pins { s4 with heap := s4.heap.push { cls := .type "slice", data := .fields #[vl, vu, vs] } } v vl vu vs s4.heap.objs.size I5 r1 (Heap.IsSliceOf.new ..) pl pu ps
  show wpAny (model X.prog X.w) X.A (subscriptTail e (.Slice lo hi (some st) p2) v (.ref s4.heap.objs.size)) (EP X pins σ Q) X.xe { s4 with heap := s4.heap.push { cls := .type "slice", data := .fields #[vl, vu, vs] } }
  exact tail_any (ops := [v, .ref s4.heap.objs.size]) ht hT hg (by with_unfolding_all rfl)
theorem stepIx (n lo m : Nat) (hm : 1 ≤ m) : Builtin.Str.strSliceIndices (some (lo : Int)) none (m : Int) n = (List.range ((n - lo + m - 1) / m)).map fun k => lo + m * k := by
  have e : Builtin.Str.strSliceIndices (some (lo : Int)) none (m : Int) n = sliceRange (max 0 (min (lo : Int) n)) n m := by
    unfold Builtin.Str.strSliceIndices
    simp only [if_neg (show ¬ ((lo : Int) < 0) by omega), if_pos (show (m : Int) > 0 by omega)]
  rw [e]
  unfold sliceRange
  simp only [if_pos (show (m : Int) > 0 by omega)]
  by_cases h : lo < n
  · rw [show max 0 (min (lo : Int) n) = (lo : Int) by omega, if_pos (show (lo : Int) < n by omega)]
    have e2 : ((n : Int) - lo + m - 1) / m = (((n - lo + m - 1) / m : Nat) : Int) := by
      rw [Int.natCast_ediv]
      congr 1
      omega
    rw [e2, Int.toNat_natCast]
    apply List.map_congr_left
    intro k _
    rw [show (lo : Int) + (m : Int) * (k : Int) = ((lo + m * k : Nat) : Int) by rw [Int.natCast_add, Int.natCast_mul], Int.toNat_natCast]
  · rw [show max 0 (min (lo : Int) n) = (n : Int) by omega, if_neg (show ¬ (n : Int) < n by omega), show n - lo = 0 by omega, Nat.div_eq_of_lt (show 0 + m - 1 < m by omega)]
    rfl
theorem step_ok {z : List Nat} (ok : OkS z) (lo m : Nat) : OkS (stepS z lo m) := fun c hc => by
  obtain ⟨k, _, hk⟩ := List.mem_filterMap.mp hc
  exact ok c (List.mem_of_getElem? hk)
theorem step_len {z : List Nat} {lo m : Nat} (hm : 1 ≤ m) : (stepS z lo m).length ≤ z.length := by
  unfold stepS
  refine Nat.le_trans (List.length_filterMap_le _ _) ?_
  rw [List.length_range]
  have h1 := Nat.div_mul_le_self (z.length - lo + m - 1) m
  by_cases h : z.length - lo = 0
  · rw [h, Nat.div_eq_of_lt (show 0 + m - 1 < m by omega)]
    exact Nat.zero_le _
  · refine Nat.le_trans (Nat.le_of_lt_succ ((Nat.div_lt_iff_lt_mul (by omega)).mpr ?_)) (Nat.sub_le z.length lo)
    rw [Nat.succ_mul]
    have : z.length - lo ≤ (z.length - lo) * m := Nat.le_mul_of_pos_right _ (by omega)
    omega
theorem se_sl3 {a st : Expr} {lo hi : Option Expr} {p2 : Pos} {ea es : EV} {el eh : Option EV} (ha : SB X S a ea) (hl : SOp X S lo el) (hh : SOp X S hi eh) (hs : SOp X S (some st) (some es)) : SE X S (.Subscript a (.Slice lo hi (some st) p2) pos) (eSl3 ea el eh es) := ⟨fun ρ c F H σ Q w r p => by
  refine tw_of (pe_slice3 pe_tw po_tw po_tw po_tw) ?_
  refine ha.run ρ c F H σ _ w r (p.bind.imp fun dx c1 F1 H1 g1 w1 p1 x rx => ?_)
  refine hl.run ρ c1 F1 H1 σ _ w1 (r.grow g1) (p1.bind.imp fun l c2 F2 H2 g2 w2 p2 => ?_)
  refine hh.run ρ c2 F2 H2 σ _ w2 ((r.grow g1).grow g2) (p2.bind.imp fun h c3 F3 H3 g3 w3 p3 => ?_)
  refine hs.run ρ c3 F3 H3 σ _ w3 (((r.grow g1).grow g2).grow g3) (p3.bind.imp fun t c4 F4 H4 g4 w4 p4 => ?_)
  obtain ⟨d, e, k⟩ := p4.lift
  intro pins s v vl vu vs sl I rv hsl pl pu ps
  cases dx with
  | str z =>
    cases l with
    | none => cases e
    | some i =>
      cases h with
      | some _ => cases e
      | none =>
        cases t with
        | none => cases e
        | some m =>
          obtain ⟨⟨h0, h1, h2⟩, e⟩ := ite_some (show (if 0 ≤ i ∧ 2 ≤ m ∧ z.length ≤ line then some (D.str (stepS z i.toNat m.toNat)) else none) = some d from e)
          subst e
          obtain ⟨lo, rfl⟩ : ∃ n : Nat, i = (n : Int) := ⟨i.toNat, by omega⟩
          obtain ⟨mm, rfl⟩ : ∃ n : Nat, m = (n : Int) := ⟨m.toNat, by omega⟩
          rw [Int.toNat_natCast, Int.toNat_natCast] at k
          obtain ⟨rfl, ok⟩ := t_str rx
          obtain ⟨t, rfl⟩ := rv
          obtain ⟨l', rfl, el⟩ := IsPart.raw pl
          obtain ⟨u', rfl, eu⟩ := IsPart.raw pu
          obtain ⟨v', rfl, ev⟩ := IsPart.raw ps
          refine ⟨"str", _, PySem.F.slot_str_getitem.lookup, typeIs_str _ _ _, ?_⟩
          refine wpAny_getItem_str_slice (l := l') (u := u') (st := v') hsl (by
            rw [ev]
            show ((mm : Int) == 0) = false
            rw [beq_eq_false_iff_ne]
            omega) ?_
          unfold sliceMade slicePicked
          rw [el, eu, ev]
          show Made.post (if ((mm : Int) == 1 && _) = true then _ else Made.str ⟨((Builtin.Str.strSliceIndices (some (lo : Int)) none (mm : Int) (mkS z).length).filterMap ((mkS z).cps[·]?)).toArray⟩) (EP X pins σ Q) _
          have hne : ((mm : Int) == 1) = false := by rw [beq_eq_false_iff_ne]; omega
          rw [hne, Bool.false_and, if_neg Bool.false_ne_true, mkS_len, stepIx _ _ _ (by omega), List.filterMap_map]
          have e3 : ((List.range ((z.length - lo + mm - 1) / mm)).filterMap (((mkS z).cps[·]?) ∘ fun k => lo + mm * k)) = stepS z lo mm := by
            unfold stepS
            congr 1
            funext i
            simp [mkS]
          rw [e3]
          exact ⟨by show (mkS (stepS z lo mm)).length ≤ sizeLine; rw [mkS_len]; exact le_line (Nat.le_trans (step_len (by omega)) h2), V.str (mkS (stepS z lo mm)), H4, I.tok _, ⟨_, rfl⟩, k F4 H4 (Gr.refl _ _ _ _) w4 _ (.str _ (step_ok ok _ _))⟩
  | _ => cases e⟩
section
open HT
theorem revAllV (s : List Value) : ((List.range s.length).filterMap (fun i => s[i]?)) = s := by
    induction s with
    | nil => rfl
    | cons a t ih =>
      rw [List.length_cons, List.range_succ_eq_map, List.filterMap_cons]
      simp only [List.getElem?_cons_zero, List.filterMap_map]
      congr 1
/-! t[::-1], t a tuple -/
section
variable {prog : Program} {w : World} {A : Around} {E : Value → Shared → Prop} {s : Shared}
theorem revTA (n : Nat) : Builtin.Slice.sliceAdjust none none (-1) (n : Int) = ((n : Int) - 1, -1) := rfl
theorem revTP (n : Nat) : Builtin.Slice.slicePlaces ((n : Int) - 1) (-1) (-1) = n := by
  unfold Builtin.Slice.slicePlaces
  rw [if_neg (show ¬ ((-1 : Int) > 0) by decide)]
  by_cases h : n = 0
  · subst h
    rfl
  · rw [if_pos (show (n : Int) - 1 > -1 by omega)]
    have : ((n : Int) - 1 - -1 - 1) / (- -1) + 1 = (n : Int) := by
      rw [show (- -1 : Int) = 1 by decide, Int.ediv_one]
      omega
    rw [this, Int.toNat_natCast]
theorem sliceApplied_rev {sl : Addr} {t : Tok} {n : Nat} {Q : Int × Int × Nat → Shared → Prop} (hs : s.heap.IsSliceOf sl .none .none (.int (-1) t))
    (h : Q ((n : Int) - 1, -1, n) s) : wpAny (model prog w) A (Builtin.Slice.sliceApplied (.ref sl) (pure (n : Int))) Q E s := by
  obtain ⟨os, hos, hcs, hds⟩ := id hs
  unfold Builtin.Slice.sliceApplied Builtin.Slice.sliceFields
  refine wpAny_bind (wpAny_bind (wpAny_field hos hds (x := .none) rfl (wpAny_bind (wpAny_field hos hds (x := .none) rfl (wpAny_bind (wpAny_field hos hds (x := .int (-1) t) rfl (wpAny_pure ?_)))))))
  refine wpAny_bind (slicePart_int ?_)
  show wpAny _ _ (if ((-1 : Int) == 0) = true then _ else _) _ _ s
  rw [if_neg (by decide)]
  refine wpAny_bind (slicePart_none (wpAny_bind (slicePart_none (wpAny_bind (wpAny_pure ?_)))))
  show wpAny _ _ (match Builtin.Slice.sliceAdjust none none (-1) (n : Int) with | (lo, hi) => pure (lo, (-1 : Int), Builtin.Slice.slicePlaces lo hi (-1))) _ _ s
  rw [revTA]
  show wpAny _ _ (pure ((n : Int) - 1, (-1 : Int), Builtin.Slice.slicePlaces ((n : Int) - 1) (-1) (-1))) _ _ s
  rw [revTP]
  exact wpAny_pure h
theorem fmap_congr {α β : Type} {f g : α → Option β} : ∀ {l : List α}, (∀ x ∈ l, f x = g x) → l.filterMap f = l.filterMap g
  | [], _ => rfl
  | x :: l, h => by
    rw [List.filterMap_cons, List.filterMap_cons, h x (List.mem_cons_self ..), fmap_congr fun y hy => h y (List.mem_cons_of_mem _ hy)]
theorem pick_rev (xs : List Value) : ((List.range xs.length).filterMap fun (m : Nat) => xs.toArray[((xs.length : Int) - 1 + (m : Int) * (-1)).toNat]?) = xs.reverse := by
  have e : (List.range xs.length).filterMap (fun (m : Nat) => xs.toArray[((xs.length : Int) - 1 + (m : Int) * (-1)).toNat]?) = (List.range xs.length).filterMap (fun m => xs.reverse[m]?) := by
    refine fmap_congr fun m hm => ?_
    have hm : m < xs.length := List.mem_range.mp hm
    have e2 : ((xs.length : Int) - 1 + (m : Int) * (-1)).toNat = xs.length - 1 - m := by omega
    rw [e2, List.getElem?_reverse hm]
    simp
  rw [e]
  have := revAllV xs.reverse
  rwa [List.length_reverse] at this
theorem getItem_tuple_rev {t sl : Addr} {items : List Value} {u : Tok} {Q : Value → Shared → Prop} (ht : IsTup s.heap t items.toArray) (hs : s.heap.IsSliceOf sl .none .none (.int (-1) u))
    (h : Q (.ref s.heap.objs.size) { s with heap := s.heap.push { cls := .type "tuple", data := .seq items.reverse.toArray } })
    (hsz : items.length ≤ sizeLine) : wpAny (model prog w) A (getItem (.ref t) (.ref sl)) Q E s := by
  have htake : sizeOk (.seq items.reverse.toArray) := by
    show items.reverse.toArray.size ≤ sizeLine
    rw [List.size_toArray, List.length_reverse]
    exact hsz
  obtain ⟨os, hos, hcs, hds⟩ := id hs
  have hTs : s.TypeIs (.ref sl) "slice" := ⟨os, hos, hcs⟩
  unfold getItem
  try with_reducible refine wpAny_holding ?_
  first | refine wpAny_bind (wpAny_pure ?_) | skip
  refine wpAny_bind (wpAny_sequenceKey ht.typeIs (by decide) ?_)
  refine wpAny_bind (wpAny_callSpecial?_slot (name := Str.ofString "__getitem__") ht.typeIs PyProof.Rows.slot_tuple_getitem
    (wpAny_call_entry PyProof.Rows.slot_tuple_getitem ht.typeIs entry_tuple_getitem ?_ (args_tuple_getitem _ _)))
  show wpAny _ _ (Builtin.Tuple.tupleItemsOf (.ref t) >>= _) _ _ s
  refine wpAny_bind (tupleItemsOf_ ht ?_)
  refine wpAny_bind (wpAny_typeOf hTs ?_)
  rw [if_pos (by decide)]
  have hn : items.toArray.size = items.length := List.size_toArray
  rw [hn]
  refine wpAny_bind (sliceApplied_rev hs ?_)
  show wpAny _ _ (if (((items.length : Int) - 1) == 0 && (-1 : Int) == 1 && items.length == items.toArray.size) = true then _ else _) _ _ s
  rw [if_neg (by
    rw [show ((-1 : Int) == 1) = false by decide, Bool.and_false, Bool.false_and]
    exact Bool.false_ne_true), pick_rev]
  first
    | exact wpAny_bind (m := Builtin.Tuple.tupleExact _) (wpAny_newObj_type (wpAny_pure ⟨_, rfl, wpAny_pure h⟩) htake)
    | exact wpAny_bind (m := Builtin.Tuple.tupleExact _) (wpAny_newObj_type (wpAny_bind (wpAny_pure (wpAny_pure ⟨_, rfl, wpAny_pure h⟩))) htake)
    | exact wpAny_bind (wpAny_bind (m := Builtin.Tuple.tupleExact _) (wpAny_newObj_type (wpAny_pure (wpAny_pure ⟨_, rfl, wpAny_pure h⟩)) htake))
    | exact wpAny_bind (wpAny_bind (m := Builtin.Tuple.tupleExact _) (wpAny_newObj_type (wpAny_pure ⟨_, rfl, wpAny_pure h⟩) htake))
end
theorem se_revT {a : Expr} {ea : EV} {k : Nat} {p1 p2 p3 : Pos} (ha : SB X S a ea) : SE X S (.Subscript a (.Slice none none (some (.UnaryOp .USub (.Constant (.int 1) k p1) p2)) p3) pos) (e1 pRevT ea) := ⟨fun ρ c F H σ Q w r q => by
  have hst : PO X (some (.UnaryOp .USub (.Constant (.int 1) k p1) p2)) (tPart (tUn (rU fun i => .int (-i)) (tC (.int 1)))) := po_some (pe_un un_neg pe_int)
  refine tw_of (pe_slice3 pe_tw po_none po_none hst) ?_
  refine ha.run ρ c F H σ _ w r (q.bind.imp fun dx c1 F1 H1 g1 w1 p1 x rx => ?_)
  obtain ⟨d, e, kq⟩ := p1.lift
  refine ⟨1, rfl, -1, rfl, ?_⟩
  intro pins s v vl vu vs sl I rv hsl pl pu ps
  cases dx with
  | tup ds =>
    cases e
    obtain ⟨b, xs, rfl, hx, hx2, rs⟩ := t_tup w1 rx
    cases rv
    cases pl
    cases pu
    cases ps
    obtain ⟨its, rr, ht, hz⟩ := I.tuple hx2
    refine ⟨"tuple", _, PyProof.Rows.slot_tuple_getitem.lookup, ht.typeIs, ?_⟩
    refine getItem_tuple_rev ht hsl ?_ (by rw [← rr.length]; exact hz)
    refine ⟨.ref _, _, I.laid (t' := s.toks) (o := .tup xs.reverse) (fun b ob q => Heap.get?_push_of_some _ q) (Nat.le_refl _) ?_, rfl, new_tup w1 rs.rev (fun v F' H' g w' rv => kq F' H' g w' v rv) _ (I.hok.fresh (Nat.le_refl _))⟩
    exact ⟨by rw [List.length_reverse]; exact hz, _, rr.reverse, IsTup.new _ _⟩
  | _ => cases e⟩
end
/-- a op b op' d as a test -/
theorem st_chn {o1 o2 : CmpOp} {pf pg : D → D → Option D} {a b d : Expr} {ea eb ed : EV} (h1 : OpT X S (compareOp o1) pf) (B1 : Bools pf) (h2 : OpT X S (compareOp o2) pg) (B2 : Bools pg) (ha : SB X S a ea) (hb : SE X S b eb) (hd : SB X S d ed)
    (hm : lastMarks [o1, o2] [b, d] = false := by rfl) : ST X S (.Compare a [o1, o2] [b, d] pos) (tE (eChn pf pg ea eb ed)) := ⟨fun ρ c F H σ Q w r p => by
  refine twT_of (pt_chain op_w op_w pe_tw pe_tw pe_tw hm) ?_
  refine ha.run ρ c F H σ _ w r (p.bind.bind.imp fun dx c1 F1 H1 g1 w1 p1 x rx => ?_)
  refine hb.run ρ c1 F1 H1 σ _ w1 (r.grow g1) (p1.bind.imp fun dy c2 F2 H2 g2 w2 p2 y ry => ?_)
  have p2 : Pst S F2 c2 H2 (match pf dx dy with
    | some (.bl true) => (ed ρ c2).bind fun r => lift (pg dy r.1) r.2
    | some (.bl false) => .ok (.bl false, c2)
    | _ => .no) fun d c' F' H' => Pst S F' c' H' (lift (truth d) c') fun b _ _ H'' => Q b H'' := p2
  cases e : pf dx dy with
  | none => rw [e] at p2; exact p2.elim
  | some r1 =>
    obtain ⟨k, rfl⟩ := B1 _ _ _ e
    rw [e] at p2
    refine h1 F2 H2 c2 x y dx dy _ _ w2 (rx.grow g2) (.rep ry) e fun v F' H' g w' rv => ⟨k, rep_bl rv, ?_⟩
    cases k with
    | false => exact ⟨false, rfl, p2 F' H' g w' F' H' (Gr.refl _ _ _ _) w'⟩
    | true =>
      rw [if_pos rfl]
      have p3 : Pst S F' c2 H' ((ed ρ c2).bind fun r => lift (pg dy r.1) r.2) fun d c' F' H' => Pst S F' c' H' (lift (truth d) c') fun b _ _ H'' => Q b H'' := Pst.from p2 g
      refine hd.run ρ c2 F' H' σ _ w' ((r.grow (g1.trans g2)).grow g) (p3.bind.imp fun dz c3 F3 H3 g3 w3 p4 z rz => ?_)
      obtain ⟨d', e', k'⟩ := p4.lift
      obtain ⟨b2, rfl⟩ := B2 _ _ _ e'
      exact h2 F3 H3 c3 y z dy dz _ _ w3 ((RepT.rep ry).grow (g.trans g3)) rz e' fun v F4 H4 g4 w4 rv => ⟨b2, rep_bl rv, k' F4 H4 g4 w4 F4 H4 (Gr.refl _ _ _ _) w4⟩⟩
end
end Mi
end

section
/-! MiZs: still more combinators, the machine in sight. -/
namespace Mi
open PySem PySem.Spec PyProof.Rows L2
section
variable {X : Cx} {S : Sx} {pos p : Pos}
theorem SO.sb {pe : Expr} {e : EV} (h : SO X S pe e) : SB X S pe e := ⟨fun ρ c F H σ Q w r p => h.run ρ c F H σ Q w r (p.imp fun d c' F' H' g w' q a o h1 h2 h3 => q _ (by
  cases o with
  | lst h r => exact .lst h h3 r
  | dct h r => exact .dct h h3 r))⟩
theorem rep_pair {F : Hp} {v : V} {k d : D} (h : Rep X.K S.ft S.ac F v (.tup [k, d])) : ∃ a x y, v = .ref a ∧ SqT X.K F a [x, y] ∧ Rep X.K S.ft S.ac F x k ∧ Rep X.K S.ft S.ac F y d := by
  cases h with
  | tup hq r =>
    cases r with
    | cons r1 r2 =>
      cases r2 with
      | cons r2 r3 =>
        cases r3
        exact ⟨_, _, _, rfl, hq, r1, r2⟩
theorem pairs_reps {F : Hp} : ∀ {ds : List D} {kvs : List (D × D)} {vs : List V}, pairsK ds = some kvs → Reps X.K S.ft S.ac F vs ds → ∃ (ps : List Addr) (ks : List (Key × V)), vs = ps.map V.ref ∧ Paired (fun p kv => SqT X.K F p [kV kv.1, kv.2]) ps ks ∧ RepKs X.K S.ft S.ac F ks kvs
  | [], kvs, vs, e, r => by
    cases e
    cases r
    exact ⟨[], [], rfl, .nil, .nil⟩
  | d :: ds, kvs, vs, e, r => by
    cases r with
    | @cons v vs _ _ rh rt =>
      match d, e, rh with
      | .tup [k, x], e, rh =>
        have e : (if isKey k = true then (pairsK ds).map ((k, x) :: ·) else none) = some kvs := e
        have hk : isKey k = true := by
          by_cases q : isKey k = true
          · exact q
          · rw [if_neg q] at e; cases e
        rw [if_pos hk] at e
        obtain ⟨more, e1, e2⟩ := Option.map_eq_some_iff.mp e
        subst e2
        obtain ⟨a, y, z, rfl, hq, r1, r2⟩ := rep_pair rh
        obtain ⟨kk, hkk, rfl⟩ := rep_key hk r1
        obtain ⟨ps, ks, rfl, hp, hr⟩ := pairs_reps e1 rt
        exact ⟨a :: ps, (kk, z) :: ks, rfl, .cons hq hp, .cons hkk r2 hr⟩
theorem paired_imp {α β : Type} {P Q : α → β → Prop} (h : ∀ a b, P a b → Q a b) : ∀ {l : List α} {m : List β}, Paired P l m → Paired Q l m
  | _, _, .nil => .nil
  | _, _, .cons p t => .cons (h _ _ p) (paired_imp h t)
theorem cl_dictX (hc : X.calm = true) : ClO X S (.type "dict") pDictX := fun F H c x dx r Q w rx e k => by
  cases dx with
  | dct kvs => exact cl_dict F H c x _ r Q w rx e k
  | lst xs =>
    obtain ⟨kvs, e1, e2⟩ := Option.map_eq_some_iff.mp (show (pairsK xs).map (fun kvs => D.dct (dmerge [] kvs)) = some r from e)
    subst e2
    obtain ⟨a, vs, rfl, h, rs⟩ := t_lst w rx
    obtain ⟨ps, ks, rfl, hp, hr⟩ := pairs_reps e1 rs
    exact wCl_of (call_dictP hc) ⟨a, ps, ks, rfl, SqL.of h, paired_imp (fun a b z => w.fh.sqT (xs := [kV b.1, b.2]) z) hp, fun p hp => k p _ _ (Gr.laidO hp) (w.laidO hp _) (.dct upd_same (repKs_merge hr .nil)) (w.free hp) hp fun n e => by
      cases hc : c with
      | none => exact n hc
      | some xy =>
        obtain ⟨h1, h2⟩ := w.cup xy.1 xy.2 (by rw [hc])
        rw [e, h2] at hp
        cases hp⟩
  | _ => cases e
theorem idx_none {zs : List (List Nat)} {z : List Nat} {m : Nat} (h : m < zs.idxOf z) {y : List Nat} (hy : zs[m]? = some y) : y ≠ z := fun e => by
  subst e
  obtain ⟨hm, e⟩ := List.getElem?_eq_some_iff.mp hy
  have q := List.not_of_lt_findIdx (p := (· == y)) (xs := zs) (i := m) h
  rw [e] at q
  simp at q
theorem m_lidx : MtT X S "list" "list.index" isLst pLIdx := ⟨fun F H c x dx w r h => ty_lst w r h, fun F H c x y dx dy r Q w rx ry e k => by
  cases dx with
  | lst ds =>
    cases dy with
    | str z =>
      obtain ⟨zs, e1, e2⟩ := Option.bind_eq_some_iff.mp (show (strsD ds).bind (fun zs => if z ∈ zs then some (D.int ((zs.idxOf z : Nat) : Int)) else none) = some r from e)
      obtain ⟨hz, e2⟩ := ite_some e2
      subst e2
      obtain ⟨a, vs, rfl, h1, rs⟩ := t_lst w rx
      obtain ⟨rfl, _⟩ := t_str ry
      obtain ⟨ev, _⟩ := strs_of e1 rs
      subst ev
      have hlt := List.idxOf_lt_length_iff.mpr hz
      refine wMt_of mt_index ⟨a, _, _, zs.idxOf z, .str (mkS z), rfl, rfl, SqL.of h1, rfl, ?_, ?_, ?_, ?_, k _ F H (Gr.refl _ _ _ _) w (.int _)⟩
      · rw [List.all_eq_true]
        intro v hv
        obtain ⟨q, _, rfl⟩ := List.mem_map.mp hv
        rfl
      · rw [List.getElem?_map, List.getElem?_eq_getElem hlt, List.getElem_idxOf]
        rfl
      · show (mkS z == mkS z) = true
        exact beq_iff_eq.mpr rfl
      · intro m z' hm hz'
        rw [List.getElem?_map] at hz'
        obtain ⟨q, hq, rfl⟩ := Option.map_eq_some_iff.mp hz'
        show (mkS q == mkS z) = false
        rw [beq_eq_false_iff_ne]
        exact fun e => idx_none hm hq (mkS_inj e)
    | _ => cases e
  | _ => cases e⟩
theorem reps_rg {F : Hp} {i j : Int} : Reps X.K S.ft S.ac F (rgV i j) (intsD i (j - i).toNat) := by
  unfold rgV
  generalize (j - i).toNat = n
  induction n generalizing i with
  | zero => exact .nil
  | succ n ih =>
    rw [List.range_succ_eq_map, List.map_cons, List.map_map]
    refine .cons ?_ ?_
    · rw [Int.natCast_zero, Int.add_zero]
      exact .int i
    · have e : (List.range n).map ((fun k : Nat => V.int (i + (k : Int))) ∘ Nat.succ) = (List.range n).map fun k : Nat => V.int (i + 1 + (k : Int)) := by
        apply List.map_congr_left
        intro k _
        show V.int (i + ((k + 1 : Nat) : Int)) = _
        congr 1
        omega
      rw [show (List.range n).map ((fun i_1 : Nat => V.int (i + (i_1 : Int))) ∘ Nat.succ) = _ from e]
      exact ih
theorem rg_ok {i j : Int} (h : rgOk i j = true) : RgOk i j := by
  unfold rgOk at h
  simp only [Bool.and_eq_true, decide_eq_true_eq] at h
  exact RgOk.of_le h.1.1.1 h.2 h.1.1.2 h.1.2
section
variable {p2 pos2 : Pos} {a b : Expr} {ea eb : EV}
theorem so_rgL2 (hc : X.calm = true) (hg : Gl X "list") (hm : X.mg "list" = none) (hg2 : Gl X "range") (hm2 : X.mg "range" = none) (ha : SB X S a ea) (hb : SB X S b eb)
    (na : starEach [a, b] X.env = (false, eval a X.env) :: starEach [b] X.env := by rfl) (nb : starEach [b] X.env = (false, eval b X.env) :: starEach [] X.env := by rfl)
    (hp : (backTo pos2 (starEach [b] X.env)).any (·.1) = false := by rfl)
    (ne : starEach [.Call (.Name "range" p2) [a, b] [] pos2] X.env = (false, eval (.Call (.Name "range" p2) [a, b] [] pos2) X.env) :: starEach [] X.env := by rfl) :
    SO X S (.Call (.Name "list" p) [.Call (.Name "range" p2) [a, b] [] pos2] [] pos) (e2 pRgL ea eb) := ⟨fun ρ c F H σ Q w r q => by
  refine tw_of (pe_listRg hc hg hm (prg_2 hg2 hm2 pe_tw pe_tw na nb hp) ne) ?_
  refine ha.run ρ c F H σ _ w r (q.bind.imp fun dx c1 F1 H1 g1 w1 p1 x rx => ?_)
  refine hb.run ρ c1 F1 H1 σ _ w1 (r.grow g1) (p1.bind.imp fun dy c2 F2 H2 g2 w2 p2 y ry => ?_)
  obtain ⟨d, e, k⟩ := p2.lift
  cases dx with
  | int i =>
    cases dy with
    | int j =>
      have e : (if rgOk i j = true then some (D.lst (intsD i (j - i).toNat)) else none) = some d := e
      obtain ⟨h, e⟩ := ite_some e
      subst e
      exact ⟨i, j, t_int rx, t_int ry, rg_ok h, new_lst w2 reps_rg fun a F' H' g w' o h1 h2 h3 => k F' H' g w' a o h1 (by
        cases e : H a with
        | none => rfl
        | some o => exact absurd h2 (g2.dom a (g1.dom a (by rw [e]; exact fun z => nomatch z)))) h3⟩
    | _ => cases e
  | _ => cases e⟩
theorem se_rgT2 (hc : X.calm = true) (hg : Gl X "tuple") (hm : X.mg "tuple" = none) (hg2 : Gl X "range") (hm2 : X.mg "range" = none) (ha : SB X S a ea) (hb : SB X S b eb)
    (na : starEach [a, b] X.env = (false, eval a X.env) :: starEach [b] X.env := by rfl) (nb : starEach [b] X.env = (false, eval b X.env) :: starEach [] X.env := by rfl)
    (hp : (backTo pos2 (starEach [b] X.env)).any (·.1) = false := by rfl)
    (ne : starEach [.Call (.Name "range" p2) [a, b] [] pos2] X.env = (false, eval (.Call (.Name "range" p2) [a, b] [] pos2) X.env) :: starEach [] X.env := by rfl) :
    SE X S (.Call (.Name "tuple" p) [.Call (.Name "range" p2) [a, b] [] pos2] [] pos) (e2 pRgT ea eb) := ⟨fun ρ c F H σ Q w r q => by
  refine tw_of (pe_tupRg hc hg hm (prg_2 hg2 hm2 pe_tw pe_tw na nb hp) ne) ?_
  refine ha.run ρ c F H σ _ w r (q.bind.imp fun dx c1 F1 H1 g1 w1 p1 x rx => ?_)
  refine hb.run ρ c1 F1 H1 σ _ w1 (r.grow g1) (p1.bind.imp fun dy c2 F2 H2 g2 w2 p2 y ry => ?_)
  obtain ⟨d, e, k⟩ := p2.lift
  cases dx with
  | int i =>
    cases dy with
    | int j =>
      have e : (if rgOk i j = true then some (D.tup (intsD i (j - i).toNat)) else none) = some d := e
      obtain ⟨h, e⟩ := ite_some e
      subst e
      exact ⟨i, j, t_int rx, t_int ry, rg_ok h, new_tup w2 reps_rg fun v F' H' g w' rv => k F' H' g w' v rv⟩
    | _ => cases e
  | _ => cases e⟩
theorem so_rgL1 (hc : X.calm = true) (hg : Gl X "list") (hm : X.mg "list" = none) (hg2 : Gl X "range") (hm2 : X.mg "range" = none) (ha : SB X S a ea)
    (na : starEach [a] X.env = (false, eval a X.env) :: starEach [] X.env := by rfl)
    (ne : starEach [.Call (.Name "range" p2) [a] [] pos2] X.env = (false, eval (.Call (.Name "range" p2) [a] [] pos2) X.env) :: starEach [] X.env := by rfl) :
    SO X S (.Call (.Name "list" p) [.Call (.Name "range" p2) [a] [] pos2] [] pos) (e1 (pRgL (.int 0)) ea) := ⟨fun ρ c F H σ Q w r q => by
  refine tw_of (pe_listRg hc hg hm (prg_1 hg2 hm2 pe_tw na) ne) ?_
  refine ha.run ρ c F H σ _ w r (q.bind.imp fun dx c1 F1 H1 g1 w1 p1 x rx => ?_)
  obtain ⟨d, e, k⟩ := p1.lift
  cases dx with
  | int j =>
    have e : (if rgOk 0 j = true then some (D.lst (intsD 0 (j - 0).toNat)) else none) = some d := e
    obtain ⟨h, e⟩ := ite_some e
    subst e
    exact ⟨j, t_int rx, rg_ok h, new_lst w1 reps_rg fun a F' H' g w' o h1 h2 h3 => k F' H' g w' a o h1 (by
      cases e : H a with
      | none => rfl
      | some o => exact absurd h2 (g1.dom a (by rw [e]; exact fun z => nomatch z))) h3⟩
  | _ => cases e⟩
theorem se_rgT1 (hc : X.calm = true) (hg : Gl X "tuple") (hm : X.mg "tuple" = none) (hg2 : Gl X "range") (hm2 : X.mg "range" = none) (ha : SB X S a ea)
    (na : starEach [a] X.env = (false, eval a X.env) :: starEach [] X.env := by rfl)
    (ne : starEach [.Call (.Name "range" p2) [a] [] pos2] X.env = (false, eval (.Call (.Name "range" p2) [a] [] pos2) X.env) :: starEach [] X.env := by rfl) :
    SE X S (.Call (.Name "tuple" p) [.Call (.Name "range" p2) [a] [] pos2] [] pos) (e1 (pRgT (.int 0)) ea) := ⟨fun ρ c F H σ Q w r q => by
  refine tw_of (pe_tupRg hc hg hm (prg_1 hg2 hm2 pe_tw na) ne) ?_
  refine ha.run ρ c F H σ _ w r (q.bind.imp fun dx c1 F1 H1 g1 w1 p1 x rx => ?_)
  obtain ⟨d, e, k⟩ := p1.lift
  cases dx with
  | int j =>
    have e : (if rgOk 0 j = true then some (D.tup (intsD 0 (j - 0).toNat)) else none) = some d := e
    obtain ⟨h, e⟩ := ite_some e
    subst e
    exact ⟨j, t_int rx, rg_ok h, new_tup w1 reps_rg fun v F' H' g w' rv => k F' H' g w' v rv⟩
  | _ => cases e⟩
end
theorem cps_mk (s : List Nat) : (mkS s).cps.toList = s := by simp [mkS]
theorem m_starts : MtT X S "str" "str.startswith" isStr pStarts := ⟨fun F H c x dx w r h => ty_str r h, fun F H c x y dx dy r Q w rx ry e k => by
  cases dx with
  | str s =>
    cases dy with
    | str t =>
      obtain ⟨rfl, _⟩ := t_str rx
      obtain ⟨rfl, _⟩ := t_str ry
      cases e
      refine wMt_of mt_startswith ⟨_, _, rfl, rfl, ?_⟩
      have e1 : Txt.startswith (mkS s) (mkS t) = (decide (t.length ≤ s.length) && decide (s.take t.length = t)) := by
        unfold Txt.startswith
        rw [StrLaws.subAt_eq, cps_mk, cps_mk, mkS_len, mkS_len, Nat.zero_add, List.drop_zero]
        congr 1
        rw [Bool.eq_iff_iff, beq_iff_eq, decide_eq_true_eq]
      rw [e1]
      exact k _ F H (Gr.refl _ _ _ _) w (.bl _)
    | _ => cases e
  | _ => cases e⟩
theorem m_ends : MtT X S "str" "str.endswith" isStr pEnds := ⟨fun F H c x dx w r h => ty_str r h, fun F H c x y dx dy r Q w rx ry e k => by
  cases dx with
  | str s =>
    cases dy with
    | str t =>
      obtain ⟨rfl, _⟩ := t_str rx
      obtain ⟨rfl, _⟩ := t_str ry
      cases e
      refine wMt_of mt_endswith ⟨_, _, rfl, rfl, ?_⟩
      have e1 : Txt.endswith (mkS s) (mkS t) = (decide (t.length ≤ s.length) && decide (s.drop (s.length - t.length) = t)) := by
        unfold Txt.endswith
        rw [StrLaws.subAt_eq, cps_mk, cps_mk, mkS_len, mkS_len, Nat.zero_add]
        by_cases q : t.length ≤ s.length
        · rw [decide_eq_true q, Bool.true_and, Bool.true_and, List.take_of_length_le (by rw [List.length_drop]; omega)]
          rw [Bool.eq_iff_iff, beq_iff_eq, decide_eq_true_eq]
        · rw [decide_eq_false q, Bool.false_and, Bool.false_and]
      rw [e1]
      exact k _ F H (Gr.refl _ _ _ _) w (.bl _)
    | _ => cases e
  | _ => cases e⟩
end
end Mi
end

section
namespace Mi
def m_Lcup : FV := mkO 1 2 (sAsg (gN 1) (e1 pAbs (e2 pIx (e2 pAdd (e1 pList (eB 0)) (eLst [eK (.int 0)])) (eK (.int 0))))) (eLst [eIf (tE (e2 pGe (eB 1) (e2 pPow (eK (.int 10)) (eK (.int 18))))) (e2 pDiv (eB 1) (eK (.int 1409))) (eK (.int 0)), e2 pAdd (e2 pMod (e1 pInt (e2 pAdd (e2 pMul (eB 1) (eK (.int 515))) (eK (.int 4635)))) (eK (.int 2077513177))) (eK (.int 255))])
def m_Lsame : Nat → FV
  | 0 => fun _ _ => .no
  | n + 1 => mkF 2 3 (
    sSeq (sIf (tE (e1 (pIsi .tuple) (eB 1)))
    (sSeq (sIf (tOr (tNot (tE (e1 (pIsi .tuple) (eB 0)))) (tE (e2 pNe (e1 pLen (eB 0)) (e1 pLen (eB 1)))))
    (sRet (eK (.bl false)))
    (sSkip))
    (sRet (e1 pAllB (eLc [2] (iR1 (e1 pLen (eB 1))) (gN 2) (tT) (eCall (m_Lsame n) [e2 pIx (eB 0) (eB 2), e2 pIx (eB 1) (eB 2)])))))
    (sSkip))
    (sSeq (sIf (tE (e2 pIs (eB 1) (eK .non)))
    (sRet (e2 pIs (eB 0) (eK .non)))
    (sSkip))
    (sSeq (sIf (tE (e1 (pIsi .bool) (eB 1)))
    (sRet (eIf (tE (eB 1)) (e2 pIs (eB 0) (eK (.bl true))) (e2 pIs (eB 0) (eK (.bl false)))))
    (sSkip))
    (sSeq (sIf (tE (e1 (pIsi .int) (eB 1)))
    (sRet (eAnd (e1 (pIsi .int) (eB 0)) (eAnd (e1 pNot (e1 (pIsi .bool) (eB 0))) (e2 pEq (e1 pInt (eB 0)) (eB 1)))))
    (sSkip))
    (sRet (eAnd (e1 (pIsi .str) (eB 0)) (e2 pEq (e1 pStr (eB 0)) (eB 1))))))))
def m_Lnexts : FV := mkF 1 6 (
    sSeq (sPar2 1 true (eLst []) 2 false (eK (.str [97, 98, 99, 100, 101, 102, 103, 104, 105, 106, 107, 108, 109, 110, 111, 112, 113, 114, 115, 116, 117, 118, 119, 120, 121, 122])))
    (sSeq (sFor (iR1 (e1 pLen (eB 0))) (gN 3)
    (sFor (iE (eTup [e1 pNeg (eK (.int 1)), eK (.int 1)])) (gN 4)
    (sSeq (sAsg (gN 5) (e2 pAdd (eM isStr pSIdx (eB 2) (e2 pIx (eB 0) (eB 3))) (eB 4)))
    (sIf (tE (eChn pLe pLt (eK (.int 0)) (eV 5) (eK (.int 26))))
    (sApp 1 (e2 pAdd (e2 pAdd (eSl (eB 0) none (some (eB 3))) (e2 pIx (eB 2) (eB 5))) (eSl (eB 0) (some (e2 pAdd (eB 3) (eK (.int 1)))) none)))
    (sSkip)))))
    (sRet (e1 pSorted (eB 1)))))
def m_Lheights : FV := mkF 1 2 (
    sRet (eLc [1] (iE (eV 0)) (gN 1) (tT) (eM isStr pSIdx (eK (.str [97, 98, 99, 100, 101, 102, 103, 104, 105, 106, 107, 108, 109, 110, 111, 112, 113, 114, 115, 116, 117, 118, 119, 120, 121, 122])) (eB 1))))
def m_Lfar : FV := mkF 2 4 (
    sRet (e1 pSum (eLc [2, 3] (iZip (eCall m_Lheights [eV 0]) (eCall m_Lheights [eV 1])) (gT [gN 2, gN 3]) (tT) (e2 pMax2 (e2 pSub (eB 2) (eB 3)) (e2 pSub (eB 3) (eB 2))))))
def m_Lways : FV := mkF 2 7 (
    sSeq (sPar2 2 false (eDisp1 (eV 0) (eK (.int 1))) 3 false (eK (.int 0)))
    (sSeq (sWhile 1000000 (tE (e2 pNotIn (eB 1) (eB 2)))
    (sSeq (sPar2 4 true (eDct0) 3 false (e2 pAdd (eB 3) (eK (.int 1))))
    (sSeq (sFor (iE (eV 2)) (gN 5)
    (sFor (iE (eCall m_Lnexts [eV 5])) (gN 6)
    (sIf (tE (e2 pLt (eCall m_Lfar [eV 6, eV 1]) (eCall m_Lfar [eV 5, eV 1])))
    (sSet 4 (eV 6) (e2 pAdd (eM3 isDct pGet (eB 4) (eB 6) (eK (.int 0))) (e2 pIx (eB 2) (eB 5))))
    (sSkip))))
    (sFrz [4] (sAsg (gN 2) (eV 4))))))
    (sRet (eTup [eV 3, e2 pIx (eB 2) (eB 1)]))))
def m_Lroll : FV := mkF 2 4 (
    sSeq (sIf (tE (e2 pGt (eCup 0 0) (eK (.int 0))))
    (sSeq (sAsg (gN 2) (e2 pMod (e1 pInt (eCup 0 0)) (eB 1)))
    (sSeq (sCup 0 0 (e2 pDiv (eCup 0 0) (eB 1)))
    (sRet (eV 2))))
    (sSkip))
    (sSeq (sCup 0 1 (e2 pMod (e1 pInt (e2 pAdd (e2 pMul (eCup 0 1) (eK (.int 30865))) (eK (.int 8399)))) (eK (.int 2147482951))))
    (sSeq (sAsg (gN 3) (e2 pMod (e1 pInt (e2 pMul (eCup 0 1) (e2 pAdd (eCup 0 1) (eK (.int 369))))) (eK (.int 2147483059))))
    (sRet (e2 pMod (e1 pInt (e2 pDiv (eB 3) (eK (.int 989)))) (eB 1))))))
def m_Lsome : FV := mkF 2 2 (
    sRet (e2 pIx (eB 1) (eCall m_Lroll [eV 0, e1 pLen (eB 1)])))
def m_Lword : FV := mkF 3 4 (
    sRet (eM isStr pJoin (eK (.str [])) (eLc [3] (iR1 (e2 pAdd (eK (.int 1)) (eCall m_Lroll [eV 0, eV 1]))) (gN 3) (tT) (eCall m_Lsome [eV 0, eV 2]))))
def m_fits_word : FV := mkF 1 2 (
    sRet (eAnd (e1 (pIsi .str) (eB 0)) (eAnd (eChn pLe pLe (eK (.int 1)) (e1 pLen (eB 0)) (eK (.int (12)))) (e1 pAllB (eLc [1] (iE (eV 0)) (gN 1) (tT) (e2 pIn (eB 1) (eK (.str [97, 98, 99, 100, 101, 102, 103, 104, 105, 106, 107, 108, 109, 110, 111, 112, 113, 114, 115, 116, 117, 118, 119, 120, 121, 122]))))))))
def m_need_word : FV := mkF 1 1 (
    sIf (tNot (tE (eCall m_fits_word [eV 0])))
    ((fun _ _ => .no))
    (sSkip))
def m_need_both : FV := mkF 2 2 (
    sSeq (sExp (eCall m_need_word [eV 0]))
    (sSeq (sExp (eCall m_need_word [eV 1]))
    (sIf (tE (e2 pNe (e1 pLen (eB 0)) (e1 pLen (eB 1))))
    ((fun _ _ => .no))
    (sSkip))))
def m_heights_in : FV := mkF 1 2 (
    sRet (eLc [1] (iE (eV 0)) (gN 1) (tT) (eM isStr pSIdx (eK (.str [97, 98, 99, 100, 101, 102, 103, 104, 105, 106, 107, 108, 109, 110, 111, 112, 113, 114, 115, 116, 117, 118, 119, 120, 121, 122])) (eB 1))))
def m_far_in : FV := mkF 2 4 (
    sRet (e1 pSum (eLc [2, 3] (iZip (eCall m_heights_in [eV 0]) (eCall m_heights_in [eV 1])) (gT [gN 2, gN 3]) (tT) (e1 pAbs (e2 pSub (eB 2) (eB 3))))))
def m_steps_between : FV := mkF 2 2 (
    sSeq (sExp (eCall m_need_both [eV 0, eV 1]))
    (sRet (eCall m_far_in [eV 0, eV 1])))
def m_is_whole : FV := mkF 1 1 (
    sRet (eAnd (e1 (pIsi .int) (eB 0)) (e1 pNot (e1 (pIsi .bool) (eB 0)))))
def m_fits_whole : FV := mkF 3 3 (
    sRet (eAnd (eCall m_is_whole [eV 0]) (eChn pLe pLe (eB 1) (eV 0) (eB 2))))
def m_within_many : FV := mkF 2 5 (
    sSeq (sIf (tNot (tE (eCall m_fits_whole [eV 0, eK (.int 1), eK (.int (12))])))
    ((fun _ _ => .no))
    (sSkip))
    (sSeq (sIf (tNot (tE (eCall m_fits_whole [eV 1, eK (.int 0), eK (.int (300))])))
    ((fun _ _ => .no))
    (sSkip))
    (sSeq (sAsg (gN 2) (e2 pAdd (eLst [eK (.int 1)]) (e2 pMulA (eLst [eK (.int 0)]) (eB 1))))
    (sSeq (sFor (iR1 (eB 0)) (gN 3)
    (sAsg (gN 2) (eLc [4] (iR1 (e2 pAdd (eB 1) (eK (.int 1)))) (gN 4) (tT) (e1 pSum (eSl (eB 2) (some (e2 pMax2 (eK (.int 0)) (e2 pSub (eB 4) (eK (.int 25))))) (some (e2 pAdd (eB 4) (eK (.int 1)))))))))
    (sRet (e1 pSum (eB 2)))))))
def m_ways_many : FV := mkF 2 7 (
    sSeq (sExp (eCall m_need_both [eV 0, eV 1]))
    (sSeq (sAsg (gT [gN 2, gN 3]) (eTup [eK (.int 1), eK (.int 0)]))
    (sSeq (sFor (iZip (eCall m_heights_in [eV 0]) (eCall m_heights_in [eV 1])) (gT [gN 4, gN 5])
    (sFor (iR1 (e1 pAbs (e2 pSub (eB 4) (eB 5)))) (gN 6)
    (sSeq (sAsg (gN 3) (e2 pAdd (eB 3) (eK (.int 1))))
    (sAsg (gN 2) (e2 pDiv (e2 pMulA (eB 2) (eB 3)) (e2 pAdd (eB 6) (eK (.int 1))))))))
    (sRet (eV 2)))))
def m_Leven_word : FV := mkF 3 4 (
    sRet (eM isStr pJoin (eK (.str [])) (eLc [3] (iR1 (eB 1)) (gN 3) (tT) (eCall m_Lsome [eV 0, eV 2]))))
def m_heights_of : FV := mkF 1 1 (
    sSeq (sExp (eCall m_need_word [eV 0]))
    (sRet (e1 pTuple (eCall m_heights_in [eV 0]))))
def m_next_words : FV := mkF 1 5 (
    sSeq (sExp (eCall m_need_word [eV 0]))
    (sSeq (sOwn 1 (eLst []))
    (sSeq (sFor (iEnum (eCall m_heights_in [eV 0])) (gT [gN 2, gN 3])
    (sFor (iE (eTup [e2 pSub (eB 3) (eK (.int 1)), e2 pAdd (eB 3) (eK (.int 1))])) (gN 4)
    (sIf (tE (eChn pLe pLt (eK (.int 0)) (eV 4) (e1 pLen (eK (.str [97, 98, 99, 100, 101, 102, 103, 104, 105, 106, 107, 108, 109, 110, 111, 112, 113, 114, 115, 116, 117, 118, 119, 120, 121, 122])))))
    (sApp 1 (e2 pAdd (e2 pAdd (eSl (eB 0) none (some (eB 2))) (e2 pIx (eK (.str [97, 98, 99, 100, 101, 102, 103, 104, 105, 106, 107, 108, 109, 110, 111, 112, 113, 114, 115, 116, 117, 118, 119, 120, 121, 122])) (eB 4))) (eSl (eB 0) (some (e2 pAdd (eB 2) (eK (.int 1)))) none)))
    (sSkip))))
    (sRet (e1 pTuple (e1 pSorted (eB 1)))))))
def b_law : SV :=
    sSeq (sFor (iR1 (eK (.int 6))) (gN 2)
    (sSeq (sPar2 3 false (e2 pAdd (eK (.int 1)) (eCall m_Lroll [eV 1, eK (.int 3)])) 4 false (eCall m_Lsome [eV 1, eLst [e1 pList (eK (.str [97, 98, 99, 100])), e1 pList (eK (.str [119, 120, 121, 122])), e1 pList (eK (.str [107, 108, 109, 110, 111]))]]))
    (sSeq (sPar2 5 false (eCall m_Leven_word [eV 1, eV 3, eV 4]) 6 false (eCall m_Leven_word [eV 1, eV 3, eV 4]))
    (sSeq (sAsg (gT [gN 7, gN 8]) (eCall m_Lways [eV 5, eV 6]))
    (sSeq (sIf (tNot (tE (eCall (m_Lsame 8) [eTup [eCall m_steps_between [eV 5, eV 6], eCall m_ways_many [eV 5, eV 6], eCall m_steps_between [eV 6, eV 5]], eTup [eV 7, eV 8, eV 7]])))
    (sRet (eK (.bl false)))
    (sSkip))
    (sSeq (sAsg (gN 9) (eCall m_Lword [eV 1, eK (.int 12), e1 pList (eK (.str [97, 98, 109, 121, 122]))]))
    (sSeq (sIf (tNot (tE (eCall (m_Lsame 8) [eTup [eCall m_heights_of [eV 9], eCall m_next_words [eV 9]], eTup [e1 pTuple (eCall m_Lheights [eV 9]), e1 pTuple (eCall m_Lnexts [eV 9])]])))
    (sRet (eK (.bl false)))
    (sSkip))
    (sSeq (sPar2 3 false (e2 pAdd (eK (.int 1)) (eCall m_Lroll [eV 1, eK (.int 3)])) 10 false (eCall m_Lroll [eV 1, eK (.int 6)]))
    (sSeq (sPar2 11 true (eDisp1 (e2 pMulA (eK (.str [97])) (eB 3)) (eK (.bl true))) 12 false (eLst [e2 pMulA (eK (.str [97])) (eB 3)]))
    (sSeq (sFor (iR1 (eB 10)) (gN 13)
    (sSeq (sOwn 14 (eDct0))
    (sSeq (sFor (iE (eV 12)) (gN 15)
    (sFor (iE (eCall m_Lnexts [eV 15])) (gN 16)
    (sIf (tE (e2 pNotIn (eB 16) (eB 11)))
    (sSet 14 (eV 16) (eK (.bl true)))
    (sSkip))))
    (sSeq (sAsg (gN 12) (e1 pSorted (eB 14)))
    (sFor (iE (eV 12)) (gN 16)
    (sSet 11 (eV 16) (eK (.bl true))))))))
    (sIf (tNot (tE (eCall (m_Lsame 8) [eCall m_within_many [eV 3, eV 10], e1 pLen (eB 11)])))
    (sRet (eK (.bl false)))
    (sSkip))))))))))))
    (sSeq (sAsg (gN 17) (e2 pMulA (eK (.str [97])) (eK (.int 12))))
    (sSeq (sAsg (gN 18) (eK (.int 1)))
    (sSeq (sFor (iR1 (eK (.int 12))) (gN 19)
    (sAsg (gN 18) (e2 pMul (eB 18) (eK (.int 26)))))
    (sSeq (sAsg (gN 20) (eTup [eCall m_steps_between [eV 17, e2 pMulA (eK (.str [122])) (eK (.int 12))], eCall m_within_many [eK (.int 12), eK (.int 300)], eCall m_within_many [eK (.int 12), eK (.int 299)], eCall m_within_many [eK (.int 12), eK (.int 1)], eCall m_ways_many [eK (.str [97]), eK (.str [122])]]))
    (sRet (eCall (m_Lsame 8) [eV 20, eTup [eK (.int 300), eV 18, e2 pSub (eB 18) (eK (.int 1)), eK (.int 13), eK (.int 1)]]))))))
def LawM (ns : List Int) : Prop := LawP_ m_Lcup 21 1 b_law ns
end Mi
end

section
namespace Mi
open PySem PySem.Spec PyProof.Rows L2
def top (i : Nat) : Stmt := PySem.Challenge.pw_lettergrounds_k78_whole_steps_along_the.main.body.getD i (.Pass ⟨0, 0, 0, 0⟩)
abbrev FnP (K : PySem.W.Frag) (x : Str) (st : Stmt) (f : Addr) (fd : FuncData) : Prop := FunD K x x (defArgs st) (defBody st) (defScope st) [] [] f fd
abbrev st_Lcup : Stmt := top 22
theorem sc_Lcup : FnScope ["script", "cell"] ["script"] (defScope st_Lcup) := ⟨rfl, rfl, rfl, by decide +kernel, rfl, by decide +kernel, by decide +kernel⟩
theorem ok_Lcup {P : Program} {w : World} {K : PySem.W.Frag} {mg : Str → Option Value} {base : Heap} {f : Addr} {fd : FuncData} {ft : Nat → Addr} (F : FnP K "_law_cup" st_Lcup f fd) (gF : mg "_law_cup" = some (.ref f)) (f_list : mg "list" = none) (f_abs : mg "abs" = none) (f_int : mg "int" = none)  :
    CalO P w K mg base ft "_law_cup" 1 1 m_Lcup :=
  ⟨f, fd, ["script"], fn_cup F sc_Lcup rfl (by decide) fun cdv A outer s H E ac hr => by
    have nd := sc_Lcup.nd
    have hu := u65 hr
    have hu4 := u64 hr
    have hu1 := u1 hr
    exact ⟨ss_set (i := 1) nd (by rfl) (by first | exact Or.inl (by rfl) | exact Or.inr (by rfl)) (se_cB bo_abs (cl_abs) (by rfl) f_abs ((se_ix hu1 ((se_bin t_add (((so_cT bo_list (cl_list (by rfl)) (by rfl) f_list (sb_V (pv 0))).se).b) (((so_lst (sa_cons (se_int) (sa_nil)) (by decide)).se).b)).b) ((se_int).b) (by intro _ _; rfl)).b)),
    so_lst (sa_cons (se_if (st_cmp (t_ge) b_ge (sb_V (pv 1)) ((se_bin t_pow ((se_int).b) ((se_int).b)).b) (by rfl)) (se_bin t_div (sb_V (pv 1)) ((se_int).b)) (se_int)) (sa_cons (se_bin t_add ((se_bin t_mod ((se_cT bo_int (cl_int) (by rfl) f_int ((se_bin t_add ((se_bin t_mul (sb_V (pv 1)) ((se_int).b)).b) ((se_int).b)).b)).b) ((se_int).b)).b) ((se_int).b)) (sa_nil))) (by decide)⟩, gF, F.kp, F.bindsN fun _ _ _ _ _ _ us hl => match us, hl with | [_], _ => rfl⟩
abbrev st_Lsame : Stmt := top 25
theorem sc_Lsame : FnScope ["told", "due", "at"] ["told", "due"] (defScope st_Lsame) := ⟨rfl, rfl, rfl, by decide +kernel, rfl, by decide +kernel, by decide +kernel⟩
theorem ok_Lsame {P : Program} {w : World} {K : PySem.W.Frag} {mg : Str → Option Value} {base : Heap} {f : Addr} {fd : FuncData} {ft : Nat → Addr} (F : FnP K "_law_same" st_Lsame f fd) (gF : mg "_law_same" = some (.ref f)) (f_isinstance : mg "isinstance" = none) (f_tuple : mg "tuple" = none) (f_len : mg "len" = none) (f_range : mg "range" = none) (f_all : mg "all" = none) (f_bool : mg "bool" = none) (f_int : mg "int" = none) (f_str : mg "str" = none)  :
    ∀ n : Nat, Cal P w K mg base ft "_law_same" (1 + n) 2 (m_Lsame n)
  | 0 => cal_no F sc_Lsame rfl gF F.kp (F.bindsN fun _ _ _ _ _ _ us hl => match us, hl with | [_, _], _ => rfl)
  | n + 1 => by
    have c_Lsame := ok_Lsame (P := P) (w := w) (base := base) (ft := ft) F gF f_isinstance f_tuple f_len f_range f_all f_bool f_int f_str n
    exact ⟨f, fd, ["told", "due"], fn_ok (k := 1 + n) F sc_Lsame rfl (by decide) (fun cdv A outer s H E ac hr => by
      have nd := sc_Lsame.nd
      have hu := u65 hr
      have hu4 := u64 hr
      have hu1 := u1 hr
      exact (sss_cons (ss_if (st_val ((se_isi .tuple (by rfl) f_isinstance (by rfl) f_tuple bo_tuple (sb_V (pv 1))).b))
    (sss_cons (ss_if ((sw_or (st_not (st_val ((se_isi .tuple (by rfl) f_isinstance (by rfl) f_tuple bo_tuple (sb_V (pv 0))).b))) (sw_or1 (st_cmp (t_ne hu4) b_ne ((se_cB bo_len (cl_len) (by rfl) f_len (sb_V (pv 0))).b) ((se_cB bo_len (cl_len) (by rfl) f_len (sb_V (pv 1))).b) (by rfl)))).st)
    (sss_one (ss_ret (se_bl)))
    (sss_nil))
    (sss_one (ss_ret (se_cB bo_all (cl_all (by rfl)) (by rfl) f_all (((so_lc (own := [("at", 2)]) (by rfl) nd (blkOk_by (by rfl)) (si_r1 (by rfl) f_range ((se_cB bo_len (cl_len) (by rfl) f_len (sb_V (pv 1))).b)) (fun _ _ _ _ _ => sg_name (i := 2) nd (by rfl) (by first | exact Or.inl (by rfl) | exact Or.inr (by rfl))) (fun _ _ _ _ _ => sps_nil) (fun _ _ _ _ _ => se_cal c_Lsame hr (Nat.le_refl _) (by rfl) (sa_cons (se_ix hu1 (sb_V (pv 0)) (sb_V (pv 2)) (by intro _ _; rfl)) (sa_cons (se_ix hu1 (sb_V (pv 1)) (sb_V (pv 2)) (by intro _ _; rfl)) (sa_nil)))) (by decide)).se).b)))))
    (sss_nil))
    (sss_cons (ss_if (st_cmp (t_is) b_is (sb_V (pv 1)) ((se_non).b) (by rfl))
    (sss_one (ss_ret (se_cmp (t_is) (sb_V (pv 0)) ((se_non).b) (by rfl))))
    (sss_nil))
    (sss_cons (ss_if (st_val ((se_isi .bool (by rfl) f_isinstance (by rfl) f_bool bo_bool (sb_V (pv 1))).b))
    (sss_one (ss_ret (se_if (st_val (sb_V (pv 1))) (se_cmp (t_is) (sb_V (pv 0)) ((se_bl).b) (by rfl)) (se_cmp (t_is) (sb_V (pv 0)) ((se_bl).b) (by rfl)))))
    (sss_nil))
    (sss_cons (ss_if (st_val ((se_isi .int (by rfl) f_isinstance (by rfl) f_int bo_int (sb_V (pv 1))).b))
    (sss_one (ss_ret (se_and (se_isi .int (by rfl) f_isinstance (by rfl) f_int bo_int (sb_V (pv 0))) (se_and (se_not ((se_isi .bool (by rfl) f_isinstance (by rfl) f_bool bo_bool (sb_V (pv 0))).b)) (se_and1 (se_cmp (t_eq hu4) ((se_cT bo_int (cl_int) (by rfl) f_int (sb_V (pv 0))).b) (sb_V (pv 1)) (by rfl)))))))
    (sss_nil))
    (sss_one (ss_ret (se_and (se_isi .str (by rfl) f_isinstance (by rfl) f_str bo_str (sb_V (pv 0))) (se_and1 (se_cmp (t_eq hu4) ((se_cT bo_str (cl_str) (by rfl) f_str (sb_V (pv 0))).b) (sb_V (pv 1)) (by rfl))))))))))), gF, F.kp, F.bindsN fun _ _ _ _ _ _ us hl => match us, hl with | [_, _], _ => rfl⟩
abbrev st_Lnexts : Stmt := top 29
theorem sc_Lnexts : FnScope ["word", "found", "letters", "at", "step", "height"] ["word"] (defScope st_Lnexts) := ⟨rfl, rfl, rfl, by decide +kernel, rfl, by decide +kernel, by decide +kernel⟩
theorem ok_Lnexts {P : Program} {w : World} {K : PySem.W.Frag} {mg : Str → Option Value} {base : Heap} {f : Addr} {fd : FuncData} {ft : Nat → Addr} (F : FnP K "_law_nexts" st_Lnexts f fd) (gF : mg "_law_nexts" = some (.ref f)) (f_len : mg "len" = none) (f_range : mg "range" = none) (f_sorted : mg "sorted" = none)  :
    Cal P w K mg base ft "_law_nexts" 10 1 m_Lnexts :=
  ⟨f, fd, ["word"], fn_ok (k := 9) F sc_Lnexts rfl (by decide) (fun cdv A outer s H E ac hr => by
    have nd := sc_Lnexts.nd
    have hu := u65 hr
    have hu4 := u64 hr
    have hu1 := u1 hr
    exact (sss_cons (ss_par (i := 1) (j := 2) (by rfl) nd (by rfl) (by rfl) (by decide) (by rfl) (by rfl) ((so_lst (sa_nil) (by decide)).n) ((SE.n (se_str (by kernel_rfl) (by decide +kernel)))) (by rfl))
    (sss_cons (ss_for PassesOwn.never (by rfl) (si_r1 (by rfl) f_range ((se_cB bo_len (cl_len) (by rfl) f_len (sb_V (pv 0))).b)) (sg_name (i := 3) nd (by rfl) (by first | exact Or.inl (by rfl) | exact Or.inr (by rfl)))
    (sss_one (ss_for PassesOwn.never (by rfl) (si_seq (se_tup (sa_cons (se_un t_neg ((se_int).b)) (sa_cons (se_int) (sa_nil))) (by decide))) (sg_name (i := 4) nd (by rfl) (by first | exact Or.inl (by rfl) | exact Or.inr (by rfl)))
    (sss_cons (ss_set (i := 5) nd (by rfl) (by first | exact Or.inl (by rfl) | exact Or.inr (by rfl)) (se_bin t_add ((se_mt PySem.F.plainAttrs_str PySem.F.slot_str_index PySem.F.type_str_index m_sidx (sb_V (pv 2)) ((se_ix hu1 (sb_V (pv 0)) (sb_V (pv 3)) (by intro _ _; rfl)).b)).b) (sb_V (pv 4))))
    (sss_one (ss_if (st_chn (t_le) b_le (t_lt) b_lt ((se_int).b) (se_V (pv 5)) ((se_int).b))
    (sss_one (ss_app (pv 1) (se_bin t_add ((se_bin t_add ((se_sl (sb_V (pv 0)) so_none (so_some (sb_V (pv 3)))).b) ((se_ix hu1 (sb_V (pv 2)) (sb_V (pv 5)) (by intro _ _; rfl)).b)).b) ((se_sl (sb_V (pv 0)) (so_some ((se_bin t_add (sb_V (pv 3)) ((se_int).b)).b)) so_none).b))))
    (sss_nil)))))))
    (sss_one (ss_ret ((so_cB bo_sorted (cl_sorted (by rfl) hu) (by rfl) f_sorted (sb_V (pv 1))).se)))))), gF, F.kp, F.bindsN fun _ _ _ _ _ _ us hl => match us, hl with | [_], _ => rfl⟩
abbrev st_Lheights : Stmt := top 27
theorem sc_Lheights : FnScope ["word", "letter"] ["word"] (defScope st_Lheights) := ⟨rfl, rfl, rfl, by decide +kernel, rfl, by decide +kernel, by decide +kernel⟩
theorem ok_Lheights {P : Program} {w : World} {K : PySem.W.Frag} {mg : Str → Option Value} {base : Heap} {f : Addr} {fd : FuncData} {ft : Nat → Addr} (F : FnP K "_law_heights" st_Lheights f fd) (gF : mg "_law_heights" = some (.ref f))   :
    Cal P w K mg base ft "_law_heights" 11 1 m_Lheights :=
  ⟨f, fd, ["word"], fn_ok (k := 10) F sc_Lheights rfl (by decide) (fun cdv A outer s H E ac hr => by
    have nd := sc_Lheights.nd
    have hu := u65 hr
    have hu4 := u64 hr
    have hu1 := u1 hr
    exact (sss_one (ss_ret ((so_lc (own := [("letter", 1)]) (by rfl) nd (blkOk_by (by rfl)) (si_seq (se_V (pv 0))) (fun _ _ _ _ _ => sg_name (i := 1) nd (by rfl) (by first | exact Or.inl (by rfl) | exact Or.inr (by rfl))) (fun _ _ _ _ _ => sps_nil) (fun _ _ _ _ _ => se_mt PySem.F.plainAttrs_str PySem.F.slot_str_index PySem.F.type_str_index m_sidx ((se_str (by kernel_rfl) (by decide +kernel)).b) (sb_V (pv 1))) (by decide)).se)))), gF, F.kp, F.bindsN fun _ _ _ _ _ _ us hl => match us, hl with | [_], _ => rfl⟩
abbrev st_Lfar : Stmt := top 28
theorem sc_Lfar : FnScope ["one", "other", "first", "second"] ["one", "other"] (defScope st_Lfar) := ⟨rfl, rfl, rfl, by decide +kernel, rfl, by decide +kernel, by decide +kernel⟩
theorem ok_Lfar {P : Program} {w : World} {K : PySem.W.Frag} {mg : Str → Option Value} {base : Heap} {f : Addr} {fd : FuncData} {ft : Nat → Addr} (F : FnP K "_law_far" st_Lfar f fd) (gF : mg "_law_far" = some (.ref f)) (c_Lheights : Cal P w K mg base ft "_law_heights" 11 1 m_Lheights) (f_zip : mg "zip" = none) (f_max : mg "max" = none) (f_sum : mg "sum" = none)  :
    Cal P w K mg base ft "_law_far" 12 2 m_Lfar :=
  ⟨f, fd, ["one", "other"], fn_ok (k := 11) F sc_Lfar rfl (by decide) (fun cdv A outer s H E ac hr => by
    have nd := sc_Lfar.nd
    have hu := u65 hr
    have hu4 := u64 hr
    have hu1 := u1 hr
    exact (sss_one (ss_ret (se_cB bo_sum (cl_sum (by rfl)) (by rfl) f_sum (((so_lc (own := [("first", 2), ("second", 3)]) (by rfl) nd (blkOk_by (by rfl)) (si_zip (by rfl) f_zip (se_cal c_Lheights hr (by decide) (by rfl) (sa_cons (se_V (pv 0)) (sa_nil))) (se_cal c_Lheights hr (by decide) (by rfl) (sa_cons (se_V (pv 1)) (sa_nil)))) (fun _ _ _ _ _ => sg_tup (by rfl) (sgs_cons (sg_name (i := 2) nd (by rfl) (by first | exact Or.inl (by rfl) | exact Or.inr (by rfl))) (sgs_cons (sg_name (i := 3) nd (by rfl) (by first | exact Or.inl (by rfl) | exact Or.inr (by rfl))) (sgs_nil)))) (fun _ _ _ _ _ => sps_nil) (fun _ _ _ _ _ => se_cB2 bo_max (cl_max2 (by rfl)) (by rfl) f_max ((se_bin t_sub (sb_V (pv 2)) (sb_V (pv 3))).b) ((se_bin t_sub (sb_V (pv 3)) (sb_V (pv 2))).b)) (by decide)).se).b))))), gF, F.kp, F.bindsN fun _ _ _ _ _ _ us hl => match us, hl with | [_, _], _ => rfl⟩
abbrev st_Lways : Stmt := top 32
theorem sc_Lways : FnScope ["one", "other", "counts", "many", "later", "word", "own"] ["one", "other"] (defScope st_Lways) := ⟨rfl, rfl, rfl, by decide +kernel, rfl, by decide +kernel, by decide +kernel⟩
theorem ok_Lways {P : Program} {w : World} {K : PySem.W.Frag} {mg : Str → Option Value} {base : Heap} {f : Addr} {fd : FuncData} {ft : Nat → Addr} (F : FnP K "_law_ways" st_Lways f fd) (gF : mg "_law_ways" = some (.ref f)) (c_Lnexts : Cal P w K mg base ft "_law_nexts" 10 1 m_Lnexts) (c_Lfar : Cal P w K mg base ft "_law_far" 12 2 m_Lfar)  :
    Cal P w K mg base ft "_law_ways" 13 2 m_Lways :=
  ⟨f, fd, ["one", "other"], fn_ok (k := 12) F sc_Lways rfl (by decide) (fun cdv A outer s H E ac hr => by
    have nd := sc_Lways.nd
    have hu := u65 hr
    have hu4 := u64 hr
    have hu1 := u1 hr
    exact (sss_cons (ss_par (i := 2) (j := 3) (by rfl) nd (by rfl) (by rfl) (by decide) (by rfl) (by rfl) ((SE.n ((so_disp1 (se_V (pv 0)) (se_int)).se))) ((SE.n (se_int))) (by rfl))
    (sss_cons (ss_while PassesOwn.never (st_cmp (t_notIn hu) b_notIn (sb_V (pv 1)) (sb_V (pv 2)) (by rfl))
    (sss_cons (ss_par (i := 4) (j := 3) (by rfl) nd (by rfl) (by rfl) (by decide) (by rfl) (by rfl) ((so_dct).n) ((SE.n (se_bin t_add (sb_V (pv 3)) ((se_int).b)))) (by rfl))
    (sss_cons (ss_for PassesOwn.never (by rfl) (si_seq (se_V (pv 2))) (sg_name (i := 5) nd (by rfl) (by first | exact Or.inl (by rfl) | exact Or.inr (by rfl)))
    (sss_one (ss_for PassesOwn.never (by rfl) (si_seq (se_cal c_Lnexts hr (by decide) (by rfl) (sa_cons (se_V (pv 5)) (sa_nil)))) (sg_name (i := 6) nd (by rfl) (by first | exact Or.inl (by rfl) | exact Or.inr (by rfl)))
    (sss_one (ss_if (st_cmp (t_lt) b_lt ((se_cal c_Lfar hr (by decide) (by rfl) (sa_cons (se_V (pv 6)) (sa_cons (se_V (pv 1)) (sa_nil)))).b) ((se_cal c_Lfar hr (by decide) (by rfl) (sa_cons (se_V (pv 5)) (sa_cons (se_V (pv 1)) (sa_nil)))).b) (by rfl))
    (sss_one (ss_put hu1 (pv 4) (se_V (pv 6)) (se_bin t_add (SE.b (se_get2 hu1 (sb_V (pv 4)) (sb_V (pv 6)) (se_int) ⟨(by rfl), (by rfl), (by rfl), (by rfl)⟩)) ((se_ix hu1 (sb_V (pv 2)) (sb_V (pv 5)) (by intro _ _; rfl)).b))))
    (sss_nil))))))
    (sss_one (ss_frz (is := [4]) (ss_set (i := 2) nd (by rfl) (by first | exact Or.inl (by rfl) | exact Or.inr (by rfl)) (se_V (pv 4))))))))
    (sss_one (ss_ret (se_tup (sa_cons (se_V (pv 3)) (sa_cons (se_ix hu1 (sb_V (pv 2)) (sb_V (pv 1)) (by intro _ _; rfl)) (sa_nil))) (by decide))))))), gF, F.kp, F.bindsN fun _ _ _ _ _ _ us hl => match us, hl with | [_, _], _ => rfl⟩
abbrev st_Lroll : Stmt := top 23
theorem sc_Lroll : FnScope ["cup", "many", "found", "deep"] ["cup", "many"] (defScope st_Lroll) := ⟨rfl, rfl, rfl, by decide +kernel, rfl, by decide +kernel, by decide +kernel⟩
theorem ok_Lroll {P : Program} {w : World} {K : PySem.W.Frag} {mg : Str → Option Value} {base : Heap} {f : Addr} {fd : FuncData} {ft : Nat → Addr} (F : FnP K "_law_roll" st_Lroll f fd) (gF : mg "_law_roll" = some (.ref f)) (f_int : mg "int" = none)  :
    Cal P w K mg base ft "_law_roll" 14 2 m_Lroll :=
  ⟨f, fd, ["cup", "many"], fn_ok (k := 13) F sc_Lroll rfl (by decide) (fun cdv A outer s H E ac hr => by
    have nd := sc_Lroll.nd
    have hu := u65 hr
    have hu4 := u64 hr
    have hu1 := u1 hr
    exact (sss_cons (ss_if (st_cmp (t_gt) b_gt ((se_cup (k := 0) (by decide) (pv 0) (by intro _ _; rfl)).b) ((se_int).b) (by rfl))
    (sss_cons (ss_set (i := 2) nd (by rfl) (by first | exact Or.inl (by rfl) | exact Or.inr (by rfl)) (se_bin t_mod ((se_cT bo_int (cl_int) (by rfl) f_int ((se_cup (k := 0) (by decide) (pv 0) (by intro _ _; rfl)).b)).b) (sb_V (pv 1))))
    (sss_cons (ss_cup (k := 0) (by decide) (pv 0) (se_bin t_div ((se_cup (k := 0) (by decide) (pv 0) (by intro _ _; rfl)).b) (sb_V (pv 1))))
    (sss_one (ss_ret (se_V (pv 2))))))
    (sss_nil))
    (sss_cons (ss_cup (k := 1) (by decide) (pv 0) (se_bin t_mod ((se_cT bo_int (cl_int) (by rfl) f_int ((se_bin t_add ((se_bin t_mul ((se_cup (k := 1) (by decide) (pv 0) (by intro _ _; rfl)).b) ((se_int).b)).b) ((se_int).b)).b)).b) ((se_int).b)))
    (sss_cons (ss_set (i := 3) nd (by rfl) (by first | exact Or.inl (by rfl) | exact Or.inr (by rfl)) (se_bin t_mod ((se_cT bo_int (cl_int) (by rfl) f_int ((se_bin t_mul ((se_cup (k := 1) (by decide) (pv 0) (by intro _ _; rfl)).b) ((se_bin t_add ((se_cup (k := 1) (by decide) (pv 0) (by intro _ _; rfl)).b) ((se_int).b)).b)).b)).b) ((se_int).b)))
    (sss_one (ss_ret (se_bin t_mod ((se_cT bo_int (cl_int) (by rfl) f_int ((se_bin t_div (sb_V (pv 3)) ((se_int).b)).b)).b) (sb_V (pv 1))))))))), gF, F.kp, F.bindsN fun _ _ _ _ _ _ us hl => match us, hl with | [_, _], _ => rfl⟩
abbrev st_Lsome : Stmt := top 24
theorem sc_Lsome : FnScope ["cup", "things"] ["cup", "things"] (defScope st_Lsome) := ⟨rfl, rfl, rfl, by decide +kernel, rfl, by decide +kernel, by decide +kernel⟩
theorem ok_Lsome {P : Program} {w : World} {K : PySem.W.Frag} {mg : Str → Option Value} {base : Heap} {f : Addr} {fd : FuncData} {ft : Nat → Addr} (F : FnP K "_law_some" st_Lsome f fd) (gF : mg "_law_some" = some (.ref f)) (c_Lroll : Cal P w K mg base ft "_law_roll" 14 2 m_Lroll) (f_len : mg "len" = none)  :
    Cal P w K mg base ft "_law_some" 15 2 m_Lsome :=
  ⟨f, fd, ["cup", "things"], fn_ok (k := 14) F sc_Lsome rfl (by decide) (fun cdv A outer s H E ac hr => by
    have nd := sc_Lsome.nd
    have hu := u65 hr
    have hu4 := u64 hr
    have hu1 := u1 hr
    exact (sss_one (ss_ret (se_ix hu1 (sb_V (pv 1)) ((se_cal c_Lroll hr (by decide) (by rfl) (sa_cons (se_V (pv 0)) (sa_cons (se_cB bo_len (cl_len) (by rfl) f_len (sb_V (pv 1))) (sa_nil)))).b) (by intro _ _; rfl))))), gF, F.kp, F.bindsN fun _ _ _ _ _ _ us hl => match us, hl with | [_, _], _ => rfl⟩
abbrev st_Lword : Stmt := top 26
theorem sc_Lword : FnScope ["cup", "size", "letters", "sign"] ["cup", "size", "letters"] (defScope st_Lword) := ⟨rfl, rfl, rfl, by decide +kernel, rfl, by decide +kernel, by decide +kernel⟩
theorem ok_Lword {P : Program} {w : World} {K : PySem.W.Frag} {mg : Str → Option Value} {base : Heap} {f : Addr} {fd : FuncData} {ft : Nat → Addr} (F : FnP K "_law_word" st_Lword f fd) (gF : mg "_law_word" = some (.ref f)) (c_Lroll : Cal P w K mg base ft "_law_roll" 14 2 m_Lroll) (c_Lsome : Cal P w K mg base ft "_law_some" 15 2 m_Lsome) (f_range : mg "range" = none)  :
    Cal P w K mg base ft "_law_word" 16 3 m_Lword :=
  ⟨f, fd, ["cup", "size", "letters"], fn_ok (k := 15) F sc_Lword rfl (by decide) (fun cdv A outer s H E ac hr => by
    have nd := sc_Lword.nd
    have hu := u65 hr
    have hu4 := u64 hr
    have hu1 := u1 hr
    exact (sss_one (ss_ret (se_mt PySem.F.plainAttrs_str PySem.F.slot_str_join PySem.F.type_str_join m_join ((se_str (by kernel_rfl) (by decide +kernel)).b) (((so_lc (own := [("sign", 3)]) (by rfl) nd (blkOk_by (by rfl)) (si_r1 (by rfl) f_range ((se_bin t_add ((se_int).b) ((se_cal c_Lroll hr (by decide) (by rfl) (sa_cons (se_V (pv 0)) (sa_cons (se_V (pv 1)) (sa_nil)))).b)).b)) (fun _ _ _ _ _ => sg_name (i := 3) nd (by rfl) (by first | exact Or.inl (by rfl) | exact Or.inr (by rfl))) (fun _ _ _ _ _ => sps_nil) (fun _ _ _ _ _ => se_cal c_Lsome hr (by decide) (by rfl) (sa_cons (se_V (pv 0)) (sa_cons (se_V (pv 2)) (sa_nil)))) (by decide)).se).b))))), gF, F.kp, F.bindsN fun _ _ _ _ _ _ us hl => match us, hl with | [_, _, _], _ => rfl⟩
abbrev st_fits_word : Stmt := top 9
theorem sc_fits_word : FnScope ["value", "one"] ["value"] (defScope st_fits_word) := ⟨rfl, rfl, rfl, by decide +kernel, rfl, by decide +kernel, by decide +kernel⟩
theorem ok_fits_word {P : Program} {w : World} {K : PySem.W.Frag} {mg : Str → Option Value} {base : Heap} {f : Addr} {fd : FuncData} {ft : Nat → Addr} (F : FnP K "fits_word" st_fits_word f fd) (gF : mg "fits_word" = some (.ref f)) (f_isinstance : mg "isinstance" = none) (f_str : mg "str" = none) (f_len : mg "len" = none) (f_all : mg "all" = none) (m_LONGEST : ∃ t, mg "LONGEST" = some (.int (12) t)) (m_LETTERS : ∃ t, mg "LETTERS" = some (.str "abcdefghijklmnopqrstuvwxyz" t))  :
    Cal P w K mg base ft "fits_word" 17 1 m_fits_word :=
  ⟨f, fd, ["value"], fn_ok (k := 16) F sc_fits_word rfl (by decide) (fun cdv A outer s H E ac hr => by
    have nd := sc_fits_word.nd
    have hu := u65 hr
    have hu4 := u64 hr
    have hu1 := u1 hr
    exact (sss_one (ss_ret (se_and (se_isi .str (by rfl) f_isinstance (by rfl) f_str bo_str (sb_V (pv 0))) (se_and (se_chn (t_le) b_le (t_le) ((se_int).b) (se_cB bo_len (cl_len) (by rfl) f_len (sb_V (pv 0))) ((se_gInt (by rfl) m_LONGEST).b)) (se_and1 (se_cB bo_all (cl_all (by rfl)) (by rfl) f_all (((so_lc (own := [("one", 1)]) (by rfl) nd (blkOk_by (by rfl)) (si_seq (se_V (pv 0))) (fun _ _ _ _ _ => sg_name (i := 1) nd (by rfl) (by first | exact Or.inl (by rfl) | exact Or.inr (by rfl))) (fun _ _ _ _ _ => sps_nil) (fun _ _ _ _ _ => se_cmp (t_in hu) (sb_V (pv 1)) ((se_gStr (by rfl) m_LETTERS (by kernel_rfl) (by decide +kernel)).b) (by rfl)) (by decide)).se).b)))))))), gF, F.kp, F.bindsN fun _ _ _ _ _ _ us hl => match us, hl with | [_], _ => rfl⟩
abbrev st_need_word : Stmt := top 10
theorem sc_need_word : FnScope ["value"] ["value"] (defScope st_need_word) := ⟨rfl, rfl, rfl, by decide +kernel, rfl, by decide +kernel, by decide +kernel⟩
theorem ok_need_word {P : Program} {w : World} {K : PySem.W.Frag} {mg : Str → Option Value} {base : Heap} {f : Addr} {fd : FuncData} {ft : Nat → Addr} (F : FnP K "need_word" st_need_word f fd) (gF : mg "need_word" = some (.ref f)) (c_fits_word : Cal P w K mg base ft "fits_word" 17 1 m_fits_word)  :
    Cal P w K mg base ft "need_word" 18 1 m_need_word :=
  ⟨f, fd, ["value"], fn_ok (k := 17) F sc_need_word rfl (by decide) (fun cdv A outer s H E ac hr => by
    have nd := sc_need_word.nd
    have hu := u65 hr
    have hu4 := u64 hr
    have hu1 := u1 hr
    exact (sss_one (ss_if (st_not (st_val ((se_cal c_fits_word hr (by decide) (by rfl) (sa_cons (se_V (pv 0)) (sa_nil))).b)))
    (sss_one (ss_no))
    (sss_nil)))), gF, F.kp, F.bindsN fun _ _ _ _ _ _ us hl => match us, hl with | [_], _ => rfl⟩
abbrev st_need_both : Stmt := top 15
theorem sc_need_both : FnScope ["one", "other"] ["one", "other"] (defScope st_need_both) := ⟨rfl, rfl, rfl, by decide +kernel, rfl, by decide +kernel, by decide +kernel⟩
theorem ok_need_both {P : Program} {w : World} {K : PySem.W.Frag} {mg : Str → Option Value} {base : Heap} {f : Addr} {fd : FuncData} {ft : Nat → Addr} (F : FnP K "need_both" st_need_both f fd) (gF : mg "need_both" = some (.ref f)) (c_need_word : Cal P w K mg base ft "need_word" 18 1 m_need_word) (f_len : mg "len" = none)  :
    Cal P w K mg base ft "need_both" 19 2 m_need_both :=
  ⟨f, fd, ["one", "other"], fn_ok (k := 18) F sc_need_both rfl (by decide) (fun cdv A outer s H E ac hr => by
    have nd := sc_need_both.nd
    have hu := u65 hr
    have hu4 := u64 hr
    have hu1 := u1 hr
    exact (sss_cons (ss_exp (se_cal c_need_word hr (by decide) (by rfl) (sa_cons (se_V (pv 0)) (sa_nil))))
    (sss_cons (ss_exp (se_cal c_need_word hr (by decide) (by rfl) (sa_cons (se_V (pv 1)) (sa_nil))))
    (sss_one (ss_if (st_cmp (t_ne hu4) b_ne ((se_cB bo_len (cl_len) (by rfl) f_len (sb_V (pv 0))).b) ((se_cB bo_len (cl_len) (by rfl) f_len (sb_V (pv 1))).b) (by rfl))
    (sss_one (ss_no))
    (sss_nil)))))), gF, F.kp, F.bindsN fun _ _ _ _ _ _ us hl => match us, hl with | [_, _], _ => rfl⟩
abbrev st_heights_in : Stmt := top 13
theorem sc_heights_in : FnScope ["word", "letter"] ["word"] (defScope st_heights_in) := ⟨rfl, rfl, rfl, by decide +kernel, rfl, by decide +kernel, by decide +kernel⟩
theorem ok_heights_in {P : Program} {w : World} {K : PySem.W.Frag} {mg : Str → Option Value} {base : Heap} {f : Addr} {fd : FuncData} {ft : Nat → Addr} (F : FnP K "heights_in" st_heights_in f fd) (gF : mg "heights_in" = some (.ref f)) (m_LETTERS : ∃ t, mg "LETTERS" = some (.str "abcdefghijklmnopqrstuvwxyz" t))  :
    Cal P w K mg base ft "heights_in" 20 1 m_heights_in :=
  ⟨f, fd, ["word"], fn_ok (k := 19) F sc_heights_in rfl (by decide) (fun cdv A outer s H E ac hr => by
    have nd := sc_heights_in.nd
    have hu := u65 hr
    have hu4 := u64 hr
    have hu1 := u1 hr
    exact (sss_one (ss_ret ((so_lc (own := [("letter", 1)]) (by rfl) nd (blkOk_by (by rfl)) (si_seq (se_V (pv 0))) (fun _ _ _ _ _ => sg_name (i := 1) nd (by rfl) (by first | exact Or.inl (by rfl) | exact Or.inr (by rfl))) (fun _ _ _ _ _ => sps_nil) (fun _ _ _ _ _ => se_mt PySem.F.plainAttrs_str PySem.F.slot_str_index PySem.F.type_str_index m_sidx ((se_gStr (by rfl) m_LETTERS (by kernel_rfl) (by decide +kernel)).b) (sb_V (pv 1))) (by decide)).se)))), gF, F.kp, F.bindsN fun _ _ _ _ _ _ us hl => match us, hl with | [_], _ => rfl⟩
abbrev st_far_in : Stmt := top 14
theorem sc_far_in : FnScope ["one", "other", "first", "second"] ["one", "other"] (defScope st_far_in) := ⟨rfl, rfl, rfl, by decide +kernel, rfl, by decide +kernel, by decide +kernel⟩
theorem ok_far_in {P : Program} {w : World} {K : PySem.W.Frag} {mg : Str → Option Value} {base : Heap} {f : Addr} {fd : FuncData} {ft : Nat → Addr} (F : FnP K "far_in" st_far_in f fd) (gF : mg "far_in" = some (.ref f)) (c_heights_in : Cal P w K mg base ft "heights_in" 20 1 m_heights_in) (f_zip : mg "zip" = none) (f_abs : mg "abs" = none) (f_sum : mg "sum" = none)  :
    Cal P w K mg base ft "far_in" 21 2 m_far_in :=
  ⟨f, fd, ["one", "other"], fn_ok (k := 20) F sc_far_in rfl (by decide) (fun cdv A outer s H E ac hr => by
    have nd := sc_far_in.nd
    have hu := u65 hr
    have hu4 := u64 hr
    have hu1 := u1 hr
    exact (sss_one (ss_ret (se_cB bo_sum (cl_sum (by rfl)) (by rfl) f_sum (((so_lc (own := [("first", 2), ("second", 3)]) (by rfl) nd (blkOk_by (by rfl)) (si_zip (by rfl) f_zip (se_cal c_heights_in hr (by decide) (by rfl) (sa_cons (se_V (pv 0)) (sa_nil))) (se_cal c_heights_in hr (by decide) (by rfl) (sa_cons (se_V (pv 1)) (sa_nil)))) (fun _ _ _ _ _ => sg_tup (by rfl) (sgs_cons (sg_name (i := 2) nd (by rfl) (by first | exact Or.inl (by rfl) | exact Or.inr (by rfl))) (sgs_cons (sg_name (i := 3) nd (by rfl) (by first | exact Or.inl (by rfl) | exact Or.inr (by rfl))) (sgs_nil)))) (fun _ _ _ _ _ => sps_nil) (fun _ _ _ _ _ => se_cB bo_abs (cl_abs) (by rfl) f_abs ((se_bin t_sub (sb_V (pv 2)) (sb_V (pv 3))).b)) (by decide)).se).b))))), gF, F.kp, F.bindsN fun _ _ _ _ _ _ us hl => match us, hl with | [_, _], _ => rfl⟩
abbrev st_steps_between : Stmt := top 17
theorem sc_steps_between : FnScope ["one", "other"] ["one", "other"] (defScope st_steps_between) := ⟨rfl, rfl, rfl, by decide +kernel, rfl, by decide +kernel, by decide +kernel⟩
theorem ok_steps_between {P : Program} {w : World} {K : PySem.W.Frag} {mg : Str → Option Value} {base : Heap} {f : Addr} {fd : FuncData} {ft : Nat → Addr} (F : FnP K "steps_between" st_steps_between f fd) (gF : mg "steps_between" = some (.ref f)) (c_need_both : Cal P w K mg base ft "need_both" 19 2 m_need_both) (c_far_in : Cal P w K mg base ft "far_in" 21 2 m_far_in)  :
    Cal P w K mg base ft "steps_between" 22 2 m_steps_between :=
  ⟨f, fd, ["one", "other"], fn_ok (k := 21) F sc_steps_between rfl (by decide) (fun cdv A outer s H E ac hr => by
    have nd := sc_steps_between.nd
    have hu := u65 hr
    have hu4 := u64 hr
    have hu1 := u1 hr
    exact (sss_cons (ss_exp (se_cal c_need_both hr (by decide) (by rfl) (sa_cons (se_V (pv 0)) (sa_cons (se_V (pv 1)) (sa_nil)))))
    (sss_one (ss_ret (se_cal c_far_in hr (by decide) (by rfl) (sa_cons (se_V (pv 0)) (sa_cons (se_V (pv 1)) (sa_nil)))))))), gF, F.kp, F.bindsN fun _ _ _ _ _ _ us hl => match us, hl with | [_, _], _ => rfl⟩
abbrev st_is_whole : Stmt := top 7
theorem sc_is_whole : FnScope ["value"] ["value"] (defScope st_is_whole) := ⟨rfl, rfl, rfl, by decide +kernel, rfl, by decide +kernel, by decide +kernel⟩
theorem ok_is_whole {P : Program} {w : World} {K : PySem.W.Frag} {mg : Str → Option Value} {base : Heap} {f : Addr} {fd : FuncData} {ft : Nat → Addr} (F : FnP K "is_whole" st_is_whole f fd) (gF : mg "is_whole" = some (.ref f)) (f_isinstance : mg "isinstance" = none) (f_int : mg "int" = none) (f_bool : mg "bool" = none)  :
    Cal P w K mg base ft "is_whole" 23 1 m_is_whole :=
  ⟨f, fd, ["value"], fn_ok (k := 22) F sc_is_whole rfl (by decide) (fun cdv A outer s H E ac hr => by
    have nd := sc_is_whole.nd
    have hu := u65 hr
    have hu4 := u64 hr
    have hu1 := u1 hr
    exact (sss_one (ss_ret (se_and (se_isi .int (by rfl) f_isinstance (by rfl) f_int bo_int (sb_V (pv 0))) (se_and1 (se_not ((se_isi .bool (by rfl) f_isinstance (by rfl) f_bool bo_bool (sb_V (pv 0))).b))))))), gF, F.kp, F.bindsN fun _ _ _ _ _ _ us hl => match us, hl with | [_], _ => rfl⟩
abbrev st_fits_whole : Stmt := top 8
theorem sc_fits_whole : FnScope ["value", "low", "high"] ["value", "low", "high"] (defScope st_fits_whole) := ⟨rfl, rfl, rfl, by decide +kernel, rfl, by decide +kernel, by decide +kernel⟩
theorem ok_fits_whole {P : Program} {w : World} {K : PySem.W.Frag} {mg : Str → Option Value} {base : Heap} {f : Addr} {fd : FuncData} {ft : Nat → Addr} (F : FnP K "fits_whole" st_fits_whole f fd) (gF : mg "fits_whole" = some (.ref f)) (c_is_whole : Cal P w K mg base ft "is_whole" 23 1 m_is_whole)  :
    Cal P w K mg base ft "fits_whole" 24 3 m_fits_whole :=
  ⟨f, fd, ["value", "low", "high"], fn_ok (k := 23) F sc_fits_whole rfl (by decide) (fun cdv A outer s H E ac hr => by
    have nd := sc_fits_whole.nd
    have hu := u65 hr
    have hu4 := u64 hr
    have hu1 := u1 hr
    exact (sss_one (ss_ret (se_and (se_cal c_is_whole hr (by decide) (by rfl) (sa_cons (se_V (pv 0)) (sa_nil))) (se_and1 (se_chn (t_le) b_le (t_le) (sb_V (pv 1)) (se_V (pv 0)) (sb_V (pv 2)))))))), gF, F.kp, F.bindsN fun _ _ _ _ _ _ us hl => match us, hl with | [_, _, _], _ => rfl⟩
abbrev st_within_many : Stmt := top 19
theorem sc_within_many : FnScope ["size", "far", "counts", "letter", "at"] ["size", "far"] (defScope st_within_many) := ⟨rfl, rfl, rfl, by decide +kernel, rfl, by decide +kernel, by decide +kernel⟩
theorem ok_within_many {P : Program} {w : World} {K : PySem.W.Frag} {mg : Str → Option Value} {base : Heap} {f : Addr} {fd : FuncData} {ft : Nat → Addr} (F : FnP K "within_many" st_within_many f fd) (gF : mg "within_many" = some (.ref f)) (c_fits_whole : Cal P w K mg base ft "fits_whole" 24 3 m_fits_whole) (f_range : mg "range" = none) (f_max : mg "max" = none) (f_sum : mg "sum" = none) (m_LONGEST : ∃ t, mg "LONGEST" = some (.int (12) t)) (m_FAR : ∃ t, mg "FAR" = some (.int (300) t))  :
    Cal P w K mg base ft "within_many" 25 2 m_within_many :=
  ⟨f, fd, ["size", "far"], fn_ok (k := 24) F sc_within_many rfl (by decide) (fun cdv A outer s H E ac hr => by
    have nd := sc_within_many.nd
    have hu := u65 hr
    have hu4 := u64 hr
    have hu1 := u1 hr
    exact (sss_cons (ss_if (st_not (st_val ((se_cal c_fits_whole hr (by decide) (by rfl) (sa_cons (se_V (pv 0)) (sa_cons (se_int) (sa_cons (se_gInt (by rfl) m_LONGEST) (sa_nil))))).b)))
    (sss_one (ss_no))
    (sss_nil))
    (sss_cons (ss_if (st_not (st_val ((se_cal c_fits_whole hr (by decide) (by rfl) (sa_cons (se_V (pv 1)) (sa_cons (se_int) (sa_cons (se_gInt (by rfl) m_FAR) (sa_nil))))).b)))
    (sss_one (ss_no))
    (sss_nil))
    (sss_cons (ss_set (i := 2) nd (by rfl) (by first | exact Or.inl (by rfl) | exact Or.inr (by rfl)) (se_bin t_add (((so_lst (sa_cons (se_int) (sa_nil)) (by decide)).se).b) ((se_bin t_mulA (((so_lst (sa_cons (se_int) (sa_nil)) (by decide)).se).b) (sb_V (pv 1))).b)))
    (sss_cons (ss_for PassesOwn.never (by rfl) (si_r1 (by rfl) f_range (sb_V (pv 0))) (sg_name (i := 3) nd (by rfl) (by first | exact Or.inl (by rfl) | exact Or.inr (by rfl)))
    (sss_one (ss_set (i := 2) nd (by rfl) (by first | exact Or.inl (by rfl) | exact Or.inr (by rfl)) ((so_lc (own := [("at", 4)]) (by rfl) nd (blkOk_by (by rfl)) (si_r1 (by rfl) f_range ((se_bin t_add (sb_V (pv 1)) ((se_int).b)).b)) (fun _ _ _ _ _ => sg_name (i := 4) nd (by rfl) (by first | exact Or.inl (by rfl) | exact Or.inr (by rfl))) (fun _ _ _ _ _ => sps_nil) (fun _ _ _ _ _ => se_cB bo_sum (cl_sum (by rfl)) (by rfl) f_sum ((se_sl (sb_V (pv 2)) (so_some ((se_cB2 bo_max (cl_max2 (by rfl)) (by rfl) f_max ((se_int).b) ((se_bin t_sub (sb_V (pv 4)) ((se_int).b)).b)).b)) (so_some ((se_bin t_add (sb_V (pv 4)) ((se_int).b)).b))).b)) (by decide)).se))))
    (sss_one (ss_ret (se_cB bo_sum (cl_sum (by rfl)) (by rfl) f_sum (sb_V (pv 2)))))))))), gF, F.kp, F.bindsN fun _ _ _ _ _ _ us hl => match us, hl with | [_, _], _ => rfl⟩
abbrev st_ways_many : Stmt := top 18
theorem sc_ways_many : FnScope ["one", "other", "found", "many", "first", "second", "step"] ["one", "other"] (defScope st_ways_many) := ⟨rfl, rfl, rfl, by decide +kernel, rfl, by decide +kernel, by decide +kernel⟩
theorem ok_ways_many {P : Program} {w : World} {K : PySem.W.Frag} {mg : Str → Option Value} {base : Heap} {f : Addr} {fd : FuncData} {ft : Nat → Addr} (F : FnP K "ways_many" st_ways_many f fd) (gF : mg "ways_many" = some (.ref f)) (c_need_both : Cal P w K mg base ft "need_both" 19 2 m_need_both) (c_heights_in : Cal P w K mg base ft "heights_in" 20 1 m_heights_in) (f_zip : mg "zip" = none) (f_abs : mg "abs" = none) (f_range : mg "range" = none)  :
    Cal P w K mg base ft "ways_many" 26 2 m_ways_many :=
  ⟨f, fd, ["one", "other"], fn_ok (k := 25) F sc_ways_many rfl (by decide) (fun cdv A outer s H E ac hr => by
    have nd := sc_ways_many.nd
    have hu := u65 hr
    have hu4 := u64 hr
    have hu1 := u1 hr
    exact (sss_cons (ss_exp (se_cal c_need_both hr (by decide) (by rfl) (sa_cons (se_V (pv 0)) (sa_cons (se_V (pv 1)) (sa_nil)))))
    (sss_cons (ss_asg (se_tup (sa_cons (se_int) (sa_cons (se_int) (sa_nil))) (by decide)) (sg_tup (by rfl) (sgs_cons (sg_name (i := 2) nd (by rfl) (by first | exact Or.inl (by rfl) | exact Or.inr (by rfl))) (sgs_cons (sg_name (i := 3) nd (by rfl) (by first | exact Or.inl (by rfl) | exact Or.inr (by rfl))) (sgs_nil)))))
    (sss_cons (ss_for PassesOwn.never (by rfl) (si_zip (by rfl) f_zip (se_cal c_heights_in hr (by decide) (by rfl) (sa_cons (se_V (pv 0)) (sa_nil))) (se_cal c_heights_in hr (by decide) (by rfl) (sa_cons (se_V (pv 1)) (sa_nil)))) (sg_tup (by rfl) (sgs_cons (sg_name (i := 4) nd (by rfl) (by first | exact Or.inl (by rfl) | exact Or.inr (by rfl))) (sgs_cons (sg_name (i := 5) nd (by rfl) (by first | exact Or.inl (by rfl) | exact Or.inr (by rfl))) (sgs_nil))))
    (sss_one (ss_for PassesOwn.never (by rfl) (si_r1 (by rfl) f_range ((se_cB bo_abs (cl_abs) (by rfl) f_abs ((se_bin t_sub (sb_V (pv 4)) (sb_V (pv 5))).b)).b)) (sg_name (i := 6) nd (by rfl) (by first | exact Or.inl (by rfl) | exact Or.inr (by rfl)))
    (sss_cons (ss_set (i := 3) nd (by rfl) (by first | exact Or.inl (by rfl) | exact Or.inr (by rfl)) (se_bin t_add (sb_V (pv 3)) ((se_int).b)))
    (sss_one (ss_set (i := 2) nd (by rfl) (by first | exact Or.inl (by rfl) | exact Or.inr (by rfl)) (se_bin t_div ((se_bin t_mulA (sb_V (pv 2)) (sb_V (pv 3))).b) ((se_bin t_add (sb_V (pv 6)) ((se_int).b)).b))))))))
    (sss_one (ss_ret (se_V (pv 2)))))))), gF, F.kp, F.bindsN fun _ _ _ _ _ _ us hl => match us, hl with | [_, _], _ => rfl⟩
abbrev st_Leven_word : Stmt := top 30
theorem sc_Leven_word : FnScope ["cup", "size", "letters", "letter"] ["cup", "size", "letters"] (defScope st_Leven_word) := ⟨rfl, rfl, rfl, by decide +kernel, rfl, by decide +kernel, by decide +kernel⟩
theorem ok_Leven_word {P : Program} {w : World} {K : PySem.W.Frag} {mg : Str → Option Value} {base : Heap} {f : Addr} {fd : FuncData} {ft : Nat → Addr} (F : FnP K "_law_even_word" st_Leven_word f fd) (gF : mg "_law_even_word" = some (.ref f)) (c_Lsome : Cal P w K mg base ft "_law_some" 15 2 m_Lsome) (f_range : mg "range" = none)  :
    Cal P w K mg base ft "_law_even_word" 27 3 m_Leven_word :=
  ⟨f, fd, ["cup", "size", "letters"], fn_ok (k := 26) F sc_Leven_word rfl (by decide) (fun cdv A outer s H E ac hr => by
    have nd := sc_Leven_word.nd
    have hu := u65 hr
    have hu4 := u64 hr
    have hu1 := u1 hr
    exact (sss_one (ss_ret (se_mt PySem.F.plainAttrs_str PySem.F.slot_str_join PySem.F.type_str_join m_join ((se_str (by kernel_rfl) (by decide +kernel)).b) (((so_lc (own := [("letter", 3)]) (by rfl) nd (blkOk_by (by rfl)) (si_r1 (by rfl) f_range (sb_V (pv 1))) (fun _ _ _ _ _ => sg_name (i := 3) nd (by rfl) (by first | exact Or.inl (by rfl) | exact Or.inr (by rfl))) (fun _ _ _ _ _ => sps_nil) (fun _ _ _ _ _ => se_cal c_Lsome hr (by decide) (by rfl) (sa_cons (se_V (pv 0)) (sa_cons (se_V (pv 2)) (sa_nil)))) (by decide)).se).b))))), gF, F.kp, F.bindsN fun _ _ _ _ _ _ us hl => match us, hl with | [_, _, _], _ => rfl⟩
abbrev st_heights_of : Stmt := top 16
theorem sc_heights_of : FnScope ["word"] ["word"] (defScope st_heights_of) := ⟨rfl, rfl, rfl, by decide +kernel, rfl, by decide +kernel, by decide +kernel⟩
theorem ok_heights_of {P : Program} {w : World} {K : PySem.W.Frag} {mg : Str → Option Value} {base : Heap} {f : Addr} {fd : FuncData} {ft : Nat → Addr} (F : FnP K "heights_of" st_heights_of f fd) (gF : mg "heights_of" = some (.ref f)) (c_need_word : Cal P w K mg base ft "need_word" 18 1 m_need_word) (c_heights_in : Cal P w K mg base ft "heights_in" 20 1 m_heights_in) (f_tuple : mg "tuple" = none)  :
    Cal P w K mg base ft "heights_of" 28 1 m_heights_of :=
  ⟨f, fd, ["word"], fn_ok (k := 27) F sc_heights_of rfl (by decide) (fun cdv A outer s H E ac hr => by
    have nd := sc_heights_of.nd
    have hu := u65 hr
    have hu4 := u64 hr
    have hu1 := u1 hr
    exact (sss_cons (ss_exp (se_cal c_need_word hr (by decide) (by rfl) (sa_cons (se_V (pv 0)) (sa_nil))))
    (sss_one (ss_ret (se_cT bo_tuple (cl_tuple (by rfl)) (by rfl) f_tuple ((se_cal c_heights_in hr (by decide) (by rfl) (sa_cons (se_V (pv 0)) (sa_nil))).b)))))), gF, F.kp, F.bindsN fun _ _ _ _ _ _ us hl => match us, hl with | [_], _ => rfl⟩
abbrev st_next_words : Stmt := top 20
theorem sc_next_words : FnScope ["word", "found", "place", "height", "own"] ["word"] (defScope st_next_words) := ⟨rfl, rfl, rfl, by decide +kernel, rfl, by decide +kernel, by decide +kernel⟩
theorem ok_next_words {P : Program} {w : World} {K : PySem.W.Frag} {mg : Str → Option Value} {base : Heap} {f : Addr} {fd : FuncData} {ft : Nat → Addr} (F : FnP K "next_words" st_next_words f fd) (gF : mg "next_words" = some (.ref f)) (c_need_word : Cal P w K mg base ft "need_word" 18 1 m_need_word) (c_heights_in : Cal P w K mg base ft "heights_in" 20 1 m_heights_in) (f_enumerate : mg "enumerate" = none) (f_len : mg "len" = none) (f_sorted : mg "sorted" = none) (f_tuple : mg "tuple" = none) (m_LETTERS : ∃ t, mg "LETTERS" = some (.str "abcdefghijklmnopqrstuvwxyz" t))  :
    Cal P w K mg base ft "next_words" 29 1 m_next_words :=
  ⟨f, fd, ["word"], fn_ok (k := 28) F sc_next_words rfl (by decide) (fun cdv A outer s H E ac hr => by
    have nd := sc_next_words.nd
    have hu := u65 hr
    have hu4 := u64 hr
    have hu1 := u1 hr
    exact (sss_cons (ss_exp (se_cal c_need_word hr (by decide) (by rfl) (sa_cons (se_V (pv 0)) (sa_nil))))
    (sss_cons (ss_own (i := 1) nd (by rfl) (by first | exact Or.inl (by rfl) | exact Or.inr (by rfl)) (so_lst (sa_nil) (by decide)))
    (sss_cons (ss_for PassesOwn.never (by rfl) (si_enum (by rfl) f_enumerate (se_cal c_heights_in hr (by decide) (by rfl) (sa_cons (se_V (pv 0)) (sa_nil)))) (sg_tup (by rfl) (sgs_cons (sg_name (i := 2) nd (by rfl) (by first | exact Or.inl (by rfl) | exact Or.inr (by rfl))) (sgs_cons (sg_name (i := 3) nd (by rfl) (by first | exact Or.inl (by rfl) | exact Or.inr (by rfl))) (sgs_nil))))
    (sss_one (ss_for PassesOwn.never (by rfl) (si_seq (se_tup (sa_cons (se_bin t_sub (sb_V (pv 3)) ((se_int).b)) (sa_cons (se_bin t_add (sb_V (pv 3)) ((se_int).b)) (sa_nil))) (by decide))) (sg_name (i := 4) nd (by rfl) (by first | exact Or.inl (by rfl) | exact Or.inr (by rfl)))
    (sss_one (ss_if (st_chn (t_le) b_le (t_lt) b_lt ((se_int).b) (se_V (pv 4)) ((se_cB bo_len (cl_len) (by rfl) f_len ((se_gStr (by rfl) m_LETTERS (by kernel_rfl) (by decide +kernel)).b)).b))
    (sss_one (ss_app (pv 1) (se_bin t_add ((se_bin t_add ((se_sl (sb_V (pv 0)) so_none (so_some (sb_V (pv 2)))).b) ((se_ix hu1 ((se_gStr (by rfl) m_LETTERS (by kernel_rfl) (by decide +kernel)).b) (sb_V (pv 4)) (by intro _ _; rfl)).b)).b) ((se_sl (sb_V (pv 0)) (so_some ((se_bin t_add (sb_V (pv 2)) ((se_int).b)).b)) so_none).b))))
    (sss_nil))))))
    (sss_one (ss_ret (se_cT bo_tuple (cl_tuple (by rfl)) (by rfl) f_tuple (((so_cB bo_sorted (cl_sorted (by rfl) hu) (by rfl) f_sorted (sb_V (pv 1))).se).b)))))))), gF, F.kp, F.bindsN fun _ _ _ _ _ _ us hl => match us, hl with | [_], _ => rfl⟩
abbrev st_law : Stmt := top 33
theorem sc_law : FnScope ["script", "cup", "turn", "size", "letters", "one", "other", "many", "ways", "word", "far", "met", "line", "step", "later", "own", "near", "long", "every", "letter", "told"] ["script"] (defScope st_law) := ⟨rfl, rfl, rfl, by decide +kernel, rfl, by decide +kernel, by decide +kernel⟩
theorem ok_law {P : Program} {w : World} {K : PySem.W.Frag} {mg : Str → Option Value} {base : Heap} {f : Addr} {fd : FuncData} {ft : Nat → Addr} (F : FnP K "law" st_law f fd) (gF : mg "law" = some (.ref f)) (c_Lroll : Cal P w K mg base ft "_law_roll" 14 2 m_Lroll) (c_Lsome : Cal P w K mg base ft "_law_some" 15 2 m_Lsome) (c_Leven_word : Cal P w K mg base ft "_law_even_word" 27 3 m_Leven_word) (c_Lways : Cal P w K mg base ft "_law_ways" 13 2 m_Lways) (c_Lsame : Cal P w K mg base ft "_law_same" 9 2 (m_Lsame 8)) (c_steps_between : Cal P w K mg base ft "steps_between" 22 2 m_steps_between) (c_ways_many : Cal P w K mg base ft "ways_many" 26 2 m_ways_many) (c_Lword : Cal P w K mg base ft "_law_word" 16 3 m_Lword) (c_Lnexts : Cal P w K mg base ft "_law_nexts" 10 1 m_Lnexts) (c_Lheights : Cal P w K mg base ft "_law_heights" 11 1 m_Lheights) (c_next_words : Cal P w K mg base ft "next_words" 29 1 m_next_words) (c_heights_of : Cal P w K mg base ft "heights_of" 28 1 m_heights_of) (c_within_many : Cal P w K mg base ft "within_many" 25 2 m_within_many) (f_range : mg "range" = none) (f_list : mg "list" = none) (f_tuple : mg "tuple" = none) (f_sorted : mg "sorted" = none) (f_len : mg "len" = none) (c_Lcup : CalO P w K mg base ft "_law_cup" 1 1 m_Lcup) (law : ∀ ns : List Int, ns.length ≤ 63 → LawM ns) : FnOk P w K mg base L2.CX0 30 f fd ["script"] (spLaw K) := by
  refine fn_law (k := 29) (i := 1) F sc_law (by decide) c_Lcup (by decide) rfl (by decide) rfl (.inl rfl) (.inl rfl) rfl (fun cdv A outer s H E ac hr => ?_) (by decide) (by decide) (by decide) (fun _ => rfl) fun ns h => law ns h
  have nd := sc_law.nd
  have hu := u65 hr
  have hu4 := u64 hr
  have hu1 := u1 hr
  exact (sss_cons (ss_for PassesOwn.never (by rfl) (si_r1 (by rfl) f_range ((se_int).b)) (sg_name (i := 2) nd (by rfl) (by first | exact Or.inl (by rfl) | exact Or.inr (by rfl)))
    (sss_cons (ss_par (i := 3) (j := 4) (by rfl) nd (by rfl) (by rfl) (by decide) (by rfl) (by rfl) ((SE.n (se_bin t_add ((se_int).b) ((se_cal c_Lroll hr (by decide) (by rfl) (sa_cons (se_V (pv 1)) (sa_cons (se_int) (sa_nil)))).b)))) ((SE.n (se_cal c_Lsome hr (by decide) (by rfl) (sa_cons (se_V (pv 1)) (sa_cons ((so_lst (sa_cons ((so_cT bo_list (cl_list (by rfl)) (by rfl) f_list ((se_str (by kernel_rfl) (by decide +kernel)).b)).se) (sa_cons ((so_cT bo_list (cl_list (by rfl)) (by rfl) f_list ((se_str (by kernel_rfl) (by decide +kernel)).b)).se) (sa_cons ((so_cT bo_list (cl_list (by rfl)) (by rfl) f_list ((se_str (by kernel_rfl) (by decide +kernel)).b)).se) (sa_nil)))) (by decide)).se) (sa_nil)))))) (by rfl))
    (sss_cons (ss_par (i := 5) (j := 6) (by rfl) nd (by rfl) (by rfl) (by decide) (by rfl) (by rfl) ((SE.n (se_cal c_Leven_word hr (by decide) (by rfl) (sa_cons (se_V (pv 1)) (sa_cons (se_V (pv 3)) (sa_cons (se_V (pv 4)) (sa_nil))))))) ((SE.n (se_cal c_Leven_word hr (by decide) (by rfl) (sa_cons (se_V (pv 1)) (sa_cons (se_V (pv 3)) (sa_cons (se_V (pv 4)) (sa_nil))))))) (by rfl))
    (sss_cons (ss_asg (se_cal c_Lways hr (by decide) (by rfl) (sa_cons (se_V (pv 5)) (sa_cons (se_V (pv 6)) (sa_nil)))) (sg_tup (by rfl) (sgs_cons (sg_name (i := 7) nd (by rfl) (by first | exact Or.inl (by rfl) | exact Or.inr (by rfl))) (sgs_cons (sg_name (i := 8) nd (by rfl) (by first | exact Or.inl (by rfl) | exact Or.inr (by rfl))) (sgs_nil)))))
    (sss_cons (ss_if (st_not (st_val ((se_cal c_Lsame hr (by decide) (by rfl) (sa_cons (se_tup (sa_cons (se_cal c_steps_between hr (by decide) (by rfl) (sa_cons (se_V (pv 5)) (sa_cons (se_V (pv 6)) (sa_nil)))) (sa_cons (se_cal c_ways_many hr (by decide) (by rfl) (sa_cons (se_V (pv 5)) (sa_cons (se_V (pv 6)) (sa_nil)))) (sa_cons (se_cal c_steps_between hr (by decide) (by rfl) (sa_cons (se_V (pv 6)) (sa_cons (se_V (pv 5)) (sa_nil)))) (sa_nil)))) (by decide)) (sa_cons (se_tup (sa_cons (se_V (pv 7)) (sa_cons (se_V (pv 8)) (sa_cons (se_V (pv 7)) (sa_nil)))) (by decide)) (sa_nil)))).b)))
    (sss_one (ss_ret (se_bl)))
    (sss_nil))
    (sss_cons (ss_set (i := 9) nd (by rfl) (by first | exact Or.inl (by rfl) | exact Or.inr (by rfl)) (se_cal c_Lword hr (by decide) (by rfl) (sa_cons (se_V (pv 1)) (sa_cons (se_int) (sa_cons ((so_cT bo_list (cl_list (by rfl)) (by rfl) f_list ((se_str (by kernel_rfl) (by decide +kernel)).b)).se) (sa_nil))))))
    (sss_cons (ss_if (st_not (st_val ((se_cal c_Lsame hr (by decide) (by rfl) (sa_cons (se_tup (sa_cons (se_cal c_heights_of hr (by decide) (by rfl) (sa_cons (se_V (pv 9)) (sa_nil))) (sa_cons (se_cal c_next_words hr (by decide) (by rfl) (sa_cons (se_V (pv 9)) (sa_nil))) (sa_nil))) (by decide)) (sa_cons (se_tup (sa_cons (se_cT bo_tuple (cl_tuple (by rfl)) (by rfl) f_tuple ((se_cal c_Lheights hr (by decide) (by rfl) (sa_cons (se_V (pv 9)) (sa_nil))).b)) (sa_cons (se_cT bo_tuple (cl_tuple (by rfl)) (by rfl) f_tuple ((se_cal c_Lnexts hr (by decide) (by rfl) (sa_cons (se_V (pv 9)) (sa_nil))).b)) (sa_nil))) (by decide)) (sa_nil)))).b)))
    (sss_one (ss_ret (se_bl)))
    (sss_nil))
    (sss_cons (ss_par (i := 3) (j := 10) (by rfl) nd (by rfl) (by rfl) (by decide) (by rfl) (by rfl) ((SE.n (se_bin t_add ((se_int).b) ((se_cal c_Lroll hr (by decide) (by rfl) (sa_cons (se_V (pv 1)) (sa_cons (se_int) (sa_nil)))).b)))) ((SE.n (se_cal c_Lroll hr (by decide) (by rfl) (sa_cons (se_V (pv 1)) (sa_cons (se_int) (sa_nil)))))) (by rfl))
    (sss_cons (ss_par (i := 11) (j := 12) (by rfl) nd (by rfl) (by rfl) (by decide) (by rfl) (by rfl) ((so_disp1 (se_bin t_mulA ((se_str (by kernel_rfl) (by decide +kernel)).b) (sb_V (pv 3))) (se_bl)).n) ((SE.n ((so_lst (sa_cons (se_bin t_mulA ((se_str (by kernel_rfl) (by decide +kernel)).b) (sb_V (pv 3))) (sa_nil)) (by decide)).se))) (by rfl))
    (sss_cons (ss_for PassesOwn.never (by rfl) (si_r1 (by rfl) f_range (sb_V (pv 10))) (sg_name (i := 13) nd (by rfl) (by first | exact Or.inl (by rfl) | exact Or.inr (by rfl)))
    (sss_cons (ss_own (i := 14) nd (by rfl) (by first | exact Or.inl (by rfl) | exact Or.inr (by rfl)) (so_dct))
    (sss_cons (ss_for PassesOwn.never (by rfl) (si_seq (se_V (pv 12))) (sg_name (i := 15) nd (by rfl) (by first | exact Or.inl (by rfl) | exact Or.inr (by rfl)))
    (sss_one (ss_for PassesOwn.never (by rfl) (si_seq (se_cal c_Lnexts hr (by decide) (by rfl) (sa_cons (se_V (pv 15)) (sa_nil)))) (sg_name (i := 16) nd (by rfl) (by first | exact Or.inl (by rfl) | exact Or.inr (by rfl)))
    (sss_one (ss_if (st_cmp (t_notIn hu) b_notIn (sb_V (pv 16)) (sb_V (pv 11)) (by rfl))
    (sss_one (ss_put hu1 (pv 14) (se_V (pv 16)) (se_bl)))
    (sss_nil))))))
    (sss_cons (ss_set (i := 12) nd (by rfl) (by first | exact Or.inl (by rfl) | exact Or.inr (by rfl)) ((so_cB bo_sorted (cl_sorted (by rfl) hu) (by rfl) f_sorted (sb_V (pv 14))).se))
    (sss_one (ss_for PassesOwn.never (by rfl) (si_seq (se_V (pv 12))) (sg_name (i := 16) nd (by rfl) (by first | exact Or.inl (by rfl) | exact Or.inr (by rfl)))
    (sss_one (ss_put hu1 (pv 11) (se_V (pv 16)) (se_bl)))))))))
    (sss_one (ss_if (st_not (st_val ((se_cal c_Lsame hr (by decide) (by rfl) (sa_cons (se_cal c_within_many hr (by decide) (by rfl) (sa_cons (se_V (pv 3)) (sa_cons (se_V (pv 10)) (sa_nil)))) (sa_cons (se_cB bo_len (cl_len) (by rfl) f_len (sb_V (pv 11))) (sa_nil)))).b)))
    (sss_one (ss_ret (se_bl)))
    (sss_nil)))))))))))))
    (sss_cons (ss_set (i := 17) nd (by rfl) (by first | exact Or.inl (by rfl) | exact Or.inr (by rfl)) (se_bin t_mulA ((se_str (by kernel_rfl) (by decide +kernel)).b) ((se_int).b)))
    (sss_cons (ss_set (i := 18) nd (by rfl) (by first | exact Or.inl (by rfl) | exact Or.inr (by rfl)) (se_int))
    (sss_cons (ss_for PassesOwn.never (by rfl) (si_r1 (by rfl) f_range ((se_int).b)) (sg_name (i := 19) nd (by rfl) (by first | exact Or.inl (by rfl) | exact Or.inr (by rfl)))
    (sss_one (ss_set (i := 18) nd (by rfl) (by first | exact Or.inl (by rfl) | exact Or.inr (by rfl)) (se_bin t_mul (sb_V (pv 18)) ((se_int).b)))))
    (sss_cons (ss_set (i := 20) nd (by rfl) (by first | exact Or.inl (by rfl) | exact Or.inr (by rfl)) (se_tup (sa_cons (se_cal c_steps_between hr (by decide) (by rfl) (sa_cons (se_V (pv 17)) (sa_cons (se_bin t_mulA ((se_str (by kernel_rfl) (by decide +kernel)).b) ((se_int).b)) (sa_nil)))) (sa_cons (se_cal c_within_many hr (by decide) (by rfl) (sa_cons (se_int) (sa_cons (se_int) (sa_nil)))) (sa_cons (se_cal c_within_many hr (by decide) (by rfl) (sa_cons (se_int) (sa_cons (se_int) (sa_nil)))) (sa_cons (se_cal c_within_many hr (by decide) (by rfl) (sa_cons (se_int) (sa_cons (se_int) (sa_nil)))) (sa_cons (se_cal c_ways_many hr (by decide) (by rfl) (sa_cons (se_str (by kernel_rfl) (by decide +kernel)) (sa_cons (se_str (by kernel_rfl) (by decide +kernel)) (sa_nil)))) (sa_nil)))))) (by decide)))
    (sss_one (ss_ret (se_cal c_Lsame hr (by decide) (by rfl) (sa_cons (se_V (pv 20)) (sa_cons (se_tup (sa_cons (se_int) (sa_cons (se_V (pv 18)) (sa_cons (se_bin t_sub (sb_V (pv 18)) ((se_int).b)) (sa_cons (se_int) (sa_cons (se_int) (sa_nil)))))) (by decide)) (sa_nil)))))))))))
end Mi
end

section
namespace Mi
open PySem PySem.Spec PyProof.Rows L2
def d_Lcup : He.DefD := ⟨("_law_cup", none), "_law_cup", "_law_cup", defArgs st_Lcup, defBody st_Lcup, defScope st_Lcup, [], []⟩
def d_Lsame : He.DefD := ⟨("_law_same", none), "_law_same", "_law_same", defArgs st_Lsame, defBody st_Lsame, defScope st_Lsame, [], []⟩
def d_Lnexts : He.DefD := ⟨("_law_nexts", none), "_law_nexts", "_law_nexts", defArgs st_Lnexts, defBody st_Lnexts, defScope st_Lnexts, [], []⟩
def d_Lheights : He.DefD := ⟨("_law_heights", none), "_law_heights", "_law_heights", defArgs st_Lheights, defBody st_Lheights, defScope st_Lheights, [], []⟩
def d_Lfar : He.DefD := ⟨("_law_far", none), "_law_far", "_law_far", defArgs st_Lfar, defBody st_Lfar, defScope st_Lfar, [], []⟩
def d_Lways : He.DefD := ⟨("_law_ways", none), "_law_ways", "_law_ways", defArgs st_Lways, defBody st_Lways, defScope st_Lways, [], []⟩
def d_Lroll : He.DefD := ⟨("_law_roll", none), "_law_roll", "_law_roll", defArgs st_Lroll, defBody st_Lroll, defScope st_Lroll, [], []⟩
def d_Lsome : He.DefD := ⟨("_law_some", none), "_law_some", "_law_some", defArgs st_Lsome, defBody st_Lsome, defScope st_Lsome, [], []⟩
def d_Lword : He.DefD := ⟨("_law_word", none), "_law_word", "_law_word", defArgs st_Lword, defBody st_Lword, defScope st_Lword, [], []⟩
def d_fits_word : He.DefD := ⟨("fits_word", none), "fits_word", "fits_word", defArgs st_fits_word, defBody st_fits_word, defScope st_fits_word, [], []⟩
def d_need_word : He.DefD := ⟨("need_word", none), "need_word", "need_word", defArgs st_need_word, defBody st_need_word, defScope st_need_word, [], []⟩
def d_need_both : He.DefD := ⟨("need_both", none), "need_both", "need_both", defArgs st_need_both, defBody st_need_both, defScope st_need_both, [], []⟩
def d_heights_in : He.DefD := ⟨("heights_in", none), "heights_in", "heights_in", defArgs st_heights_in, defBody st_heights_in, defScope st_heights_in, [], []⟩
def d_far_in : He.DefD := ⟨("far_in", none), "far_in", "far_in", defArgs st_far_in, defBody st_far_in, defScope st_far_in, [], []⟩
def d_steps_between : He.DefD := ⟨("steps_between", none), "steps_between", "steps_between", defArgs st_steps_between, defBody st_steps_between, defScope st_steps_between, [], []⟩
def d_is_whole : He.DefD := ⟨("is_whole", none), "is_whole", "is_whole", defArgs st_is_whole, defBody st_is_whole, defScope st_is_whole, [], []⟩
def d_fits_whole : He.DefD := ⟨("fits_whole", none), "fits_whole", "fits_whole", defArgs st_fits_whole, defBody st_fits_whole, defScope st_fits_whole, [], []⟩
def d_within_many : He.DefD := ⟨("within_many", none), "within_many", "within_many", defArgs st_within_many, defBody st_within_many, defScope st_within_many, [], []⟩
def d_ways_many : He.DefD := ⟨("ways_many", none), "ways_many", "ways_many", defArgs st_ways_many, defBody st_ways_many, defScope st_ways_many, [], []⟩
def d_Leven_word : He.DefD := ⟨("_law_even_word", none), "_law_even_word", "_law_even_word", defArgs st_Leven_word, defBody st_Leven_word, defScope st_Leven_word, [], []⟩
def d_heights_of : He.DefD := ⟨("heights_of", none), "heights_of", "heights_of", defArgs st_heights_of, defBody st_heights_of, defScope st_heights_of, [], []⟩
def d_next_words : He.DefD := ⟨("next_words", none), "next_words", "next_words", defArgs st_next_words, defBody st_next_words, defScope st_next_words, [], []⟩
def d_law : He.DefD := ⟨("law", none), "law", "law", defArgs st_law, defBody st_law, defScope st_law, [], []⟩
def fn : List He.DefD := [d_Lcup, d_Lsame, d_Lnexts, d_Lheights, d_Lfar, d_Lways, d_Lroll, d_Lsome, d_Lword, d_fits_word, d_need_word, d_need_both, d_heights_in, d_far_in, d_steps_between, d_is_whole, d_fits_whole, d_within_many, d_ways_many, d_Leven_word, d_heights_of, d_next_words, d_law]
def fa : List He.Fa := [.glo "_law_cup",
  .glo "_law_same",
  .glo "_law_nexts",
  .glo "_law_heights",
  .glo "_law_far",
  .glo "_law_ways",
  .glo "_law_roll",
  .glo "_law_some",
  .glo "_law_word",
  .glo "fits_word",
  .glo "need_word",
  .glo "need_both",
  .glo "heights_in",
  .glo "far_in",
  .glo "steps_between",
  .glo "is_whole",
  .glo "fits_whole",
  .glo "within_many",
  .glo "ways_many",
  .glo "_law_even_word",
  .glo "heights_of",
  .glo "next_words",
  .glo "law",
  .free "list",
  .free "abs",
  .free "int",
  .free "isinstance",
  .free "tuple",
  .free "len",
  .free "range",
  .free "all",
  .free "bool",
  .free "str",
  .free "sorted",
  .free "zip",
  .free "max",
  .free "sum",
  .free "enumerate",
  .int "LONGEST" (12),
  .str "LETTERS" "abcdefghijklmnopqrstuvwxyz",
  .int "FAR" (300)]
def loose0 : List PySem.Str := ["WordError", "InvalidWord", "InvalidNumber", "LETTERS", "LONGEST", "is_whole", "fits_whole", "fits_word", "need_word", "FAR", "heights_in", "far_in", "need_both", "heights_of", "steps_between", "ways_many", "within_many", "next_words", "_law_cup", "_law_roll"]
def loose1 : List PySem.Str := ["_law_some", "_law_same", "_law_word", "_law_heights", "_law_far", "_law_nexts", "_law_even_word", "_law_even", "_law_ways"]
abbrev Rw : PySem.W.OpenRow := PySem.W.OpenLaw.row PySem.Challenge.rw_lettergrounds_k78_whole_steps_along_the
abbrev hk : PySem.W.Hook := He.hookD 4 fa fn
def ob (s : PySem.W.SharedT) : He.AlD := He.obsDG 4 fa fn (HandSHeadRun.getT s)
theorem ob_eq (s : PySem.W.SharedT) : ob s = hk.obs s.abs := He.obsDG_eq (HandSHeadRun.getT_eq s)
theorem run (w : World) : HandSHeadRun.RunEq Rw (PySem.W.view Rw.prog [33]) hk ob 6000 (loose0 ++ loose1) w := by
  intro os
  kernel_rfl
theorem facts (law : ∀ ns : List Int, ns.length ≤ 63 → LawM ns) {P : Program} {w : World} {K : PySem.W.Frag} {h : Heap} {mg : Str → Option Value} {f : Addr} (X : K.In h) (G : h.Ns mainGlobals mg) (hfa : mg ("law" : Str) = some (.ref f)) (c : He.SaysD fa fn K) :
    ∃ fd : FuncData, (∀ (s : Shared) (v : Value), BindsTo s fd ⟨[v], []⟩ [("script", v)]) ∧ ∀ base : Heap, K.In base → base.Ns mainGlobals mg → FnOk P w K mg base L2.CX0 30 f fd ["script"] (spLaw K) := by
  obtain ⟨fd_Lcup, F_Lcup⟩ := c.def_ 0 (d := d_Lcup) rfl
  have g_Lcup := He.glo_ok X G (c.fact 0 (f := .glo "_law_cup") rfl)
  obtain ⟨fd_Lsame, F_Lsame⟩ := c.def_ 1 (d := d_Lsame) rfl
  have g_Lsame := He.glo_ok X G (c.fact 1 (f := .glo "_law_same") rfl)
  obtain ⟨fd_Lnexts, F_Lnexts⟩ := c.def_ 2 (d := d_Lnexts) rfl
  have g_Lnexts := He.glo_ok X G (c.fact 2 (f := .glo "_law_nexts") rfl)
  obtain ⟨fd_Lheights, F_Lheights⟩ := c.def_ 3 (d := d_Lheights) rfl
  have g_Lheights := He.glo_ok X G (c.fact 3 (f := .glo "_law_heights") rfl)
  obtain ⟨fd_Lfar, F_Lfar⟩ := c.def_ 4 (d := d_Lfar) rfl
  have g_Lfar := He.glo_ok X G (c.fact 4 (f := .glo "_law_far") rfl)
  obtain ⟨fd_Lways, F_Lways⟩ := c.def_ 5 (d := d_Lways) rfl
  have g_Lways := He.glo_ok X G (c.fact 5 (f := .glo "_law_ways") rfl)
  obtain ⟨fd_Lroll, F_Lroll⟩ := c.def_ 6 (d := d_Lroll) rfl
  have g_Lroll := He.glo_ok X G (c.fact 6 (f := .glo "_law_roll") rfl)
  obtain ⟨fd_Lsome, F_Lsome⟩ := c.def_ 7 (d := d_Lsome) rfl
  have g_Lsome := He.glo_ok X G (c.fact 7 (f := .glo "_law_some") rfl)
  obtain ⟨fd_Lword, F_Lword⟩ := c.def_ 8 (d := d_Lword) rfl
  have g_Lword := He.glo_ok X G (c.fact 8 (f := .glo "_law_word") rfl)
  obtain ⟨fd_fits_word, F_fits_word⟩ := c.def_ 9 (d := d_fits_word) rfl
  have g_fits_word := He.glo_ok X G (c.fact 9 (f := .glo "fits_word") rfl)
  obtain ⟨fd_need_word, F_need_word⟩ := c.def_ 10 (d := d_need_word) rfl
  have g_need_word := He.glo_ok X G (c.fact 10 (f := .glo "need_word") rfl)
  obtain ⟨fd_need_both, F_need_both⟩ := c.def_ 11 (d := d_need_both) rfl
  have g_need_both := He.glo_ok X G (c.fact 11 (f := .glo "need_both") rfl)
  obtain ⟨fd_heights_in, F_heights_in⟩ := c.def_ 12 (d := d_heights_in) rfl
  have g_heights_in := He.glo_ok X G (c.fact 12 (f := .glo "heights_in") rfl)
  obtain ⟨fd_far_in, F_far_in⟩ := c.def_ 13 (d := d_far_in) rfl
  have g_far_in := He.glo_ok X G (c.fact 13 (f := .glo "far_in") rfl)
  obtain ⟨fd_steps_between, F_steps_between⟩ := c.def_ 14 (d := d_steps_between) rfl
  have g_steps_between := He.glo_ok X G (c.fact 14 (f := .glo "steps_between") rfl)
  obtain ⟨fd_is_whole, F_is_whole⟩ := c.def_ 15 (d := d_is_whole) rfl
  have g_is_whole := He.glo_ok X G (c.fact 15 (f := .glo "is_whole") rfl)
  obtain ⟨fd_fits_whole, F_fits_whole⟩ := c.def_ 16 (d := d_fits_whole) rfl
  have g_fits_whole := He.glo_ok X G (c.fact 16 (f := .glo "fits_whole") rfl)
  obtain ⟨fd_within_many, F_within_many⟩ := c.def_ 17 (d := d_within_many) rfl
  have g_within_many := He.glo_ok X G (c.fact 17 (f := .glo "within_many") rfl)
  obtain ⟨fd_ways_many, F_ways_many⟩ := c.def_ 18 (d := d_ways_many) rfl
  have g_ways_many := He.glo_ok X G (c.fact 18 (f := .glo "ways_many") rfl)
  obtain ⟨fd_Leven_word, F_Leven_word⟩ := c.def_ 19 (d := d_Leven_word) rfl
  have g_Leven_word := He.glo_ok X G (c.fact 19 (f := .glo "_law_even_word") rfl)
  obtain ⟨fd_heights_of, F_heights_of⟩ := c.def_ 20 (d := d_heights_of) rfl
  have g_heights_of := He.glo_ok X G (c.fact 20 (f := .glo "heights_of") rfl)
  obtain ⟨fd_next_words, F_next_words⟩ := c.def_ 21 (d := d_next_words) rfl
  have g_next_words := He.glo_ok X G (c.fact 21 (f := .glo "next_words") rfl)
  obtain ⟨fd_law, F_law⟩ := c.def_ 22 (d := d_law) rfl
  have f_list := He.free_ok X G (c.fact 23 (f := .free "list") rfl)
  have f_abs := He.free_ok X G (c.fact 24 (f := .free "abs") rfl)
  have f_int := He.free_ok X G (c.fact 25 (f := .free "int") rfl)
  have f_isinstance := He.free_ok X G (c.fact 26 (f := .free "isinstance") rfl)
  have f_tuple := He.free_ok X G (c.fact 27 (f := .free "tuple") rfl)
  have f_len := He.free_ok X G (c.fact 28 (f := .free "len") rfl)
  have f_range := He.free_ok X G (c.fact 29 (f := .free "range") rfl)
  have f_all := He.free_ok X G (c.fact 30 (f := .free "all") rfl)
  have f_bool := He.free_ok X G (c.fact 31 (f := .free "bool") rfl)
  have f_str := He.free_ok X G (c.fact 32 (f := .free "str") rfl)
  have f_sorted := He.free_ok X G (c.fact 33 (f := .free "sorted") rfl)
  have f_zip := He.free_ok X G (c.fact 34 (f := .free "zip") rfl)
  have f_max := He.free_ok X G (c.fact 35 (f := .free "max") rfl)
  have f_sum := He.free_ok X G (c.fact 36 (f := .free "sum") rfl)
  have f_enumerate := He.free_ok X G (c.fact 37 (f := .free "enumerate") rfl)
  have m_LONGEST := He.int_ok X G (c.fact 38 (f := .int "LONGEST" (12)) rfl)
  have m_LETTERS := He.str_ok X G (c.fact 39 (f := .str "LETTERS" "abcdefghijklmnopqrstuvwxyz") rfl)
  have m_FAR := He.int_ok X G (c.fact 40 (f := .int "FAR" (300)) rfl)
  have e := hfa.symm.trans (He.glo_ok X G (c.fact 22 (f := .glo "law") rfl))
  cases e
  have b := FunD.bindsA (ps := ["script"]) F_law fun _ _ _ _ _ _ us hl => match us, hl with | [_], _ => rfl
  refine ⟨fd_law, fun s v => b s [v] rfl, fun base _ _ => ?_⟩
  have c_Lcup := ok_Lcup (P := P) (w := w) (base := base) (ft := fun _ => 0) F_Lcup g_Lcup f_list f_abs f_int
  have c_Lsame := ok_Lsame (P := P) (w := w) (base := base) (ft := fun _ => 0) F_Lsame g_Lsame f_isinstance f_tuple f_len f_range f_all f_bool f_int f_str 8
  have c_Lnexts := ok_Lnexts (P := P) (w := w) (base := base) (ft := fun _ => 0) F_Lnexts g_Lnexts f_len f_range f_sorted
  have c_Lheights := ok_Lheights (P := P) (w := w) (base := base) (ft := fun _ => 0) F_Lheights g_Lheights 
  have c_Lfar := ok_Lfar (P := P) (w := w) (base := base) (ft := fun _ => 0) F_Lfar g_Lfar c_Lheights f_zip f_max f_sum
  have c_Lways := ok_Lways (P := P) (w := w) (base := base) (ft := fun _ => 0) F_Lways g_Lways c_Lnexts c_Lfar
  have c_Lroll := ok_Lroll (P := P) (w := w) (base := base) (ft := fun _ => 0) F_Lroll g_Lroll f_int
  have c_Lsome := ok_Lsome (P := P) (w := w) (base := base) (ft := fun _ => 0) F_Lsome g_Lsome c_Lroll f_len
  have c_Lword := ok_Lword (P := P) (w := w) (base := base) (ft := fun _ => 0) F_Lword g_Lword c_Lroll c_Lsome f_range
  have c_fits_word := ok_fits_word (P := P) (w := w) (base := base) (ft := fun _ => 0) F_fits_word g_fits_word f_isinstance f_str f_len f_all m_LONGEST m_LETTERS
  have c_need_word := ok_need_word (P := P) (w := w) (base := base) (ft := fun _ => 0) F_need_word g_need_word c_fits_word
  have c_need_both := ok_need_both (P := P) (w := w) (base := base) (ft := fun _ => 0) F_need_both g_need_both c_need_word f_len
  have c_heights_in := ok_heights_in (P := P) (w := w) (base := base) (ft := fun _ => 0) F_heights_in g_heights_in m_LETTERS
  have c_far_in := ok_far_in (P := P) (w := w) (base := base) (ft := fun _ => 0) F_far_in g_far_in c_heights_in f_zip f_abs f_sum
  have c_steps_between := ok_steps_between (P := P) (w := w) (base := base) (ft := fun _ => 0) F_steps_between g_steps_between c_need_both c_far_in
  have c_is_whole := ok_is_whole (P := P) (w := w) (base := base) (ft := fun _ => 0) F_is_whole g_is_whole f_isinstance f_int f_bool
  have c_fits_whole := ok_fits_whole (P := P) (w := w) (base := base) (ft := fun _ => 0) F_fits_whole g_fits_whole c_is_whole
  have c_within_many := ok_within_many (P := P) (w := w) (base := base) (ft := fun _ => 0) F_within_many g_within_many c_fits_whole f_range f_max f_sum m_LONGEST m_FAR
  have c_ways_many := ok_ways_many (P := P) (w := w) (base := base) (ft := fun _ => 0) F_ways_many g_ways_many c_need_both c_heights_in f_zip f_abs f_range
  have c_Leven_word := ok_Leven_word (P := P) (w := w) (base := base) (ft := fun _ => 0) F_Leven_word g_Leven_word c_Lsome f_range
  have c_heights_of := ok_heights_of (P := P) (w := w) (base := base) (ft := fun _ => 0) F_heights_of g_heights_of c_need_word c_heights_in f_tuple
  have c_next_words := ok_next_words (P := P) (w := w) (base := base) (ft := fun _ => 0) F_next_words g_next_words c_need_word c_heights_in f_enumerate f_len f_sorted f_tuple m_LETTERS
  exact ok_law (ft := fun _ => 0) F_law hfa c_Lroll c_Lsome c_Leven_word c_Lways c_Lsame c_steps_between c_ways_many c_Lword c_Lnexts c_Lheights c_next_words c_heights_of c_within_many f_range f_list f_tuple f_sorted f_len c_Lcup law
end Mi
end

section
/-! MiU: the combinators, applied. -/
namespace Mi.P
section
variable {ρ : Env} {c : Cup} {i j k n : Nat} {d : D} {a b : EV} {t u : TV} {s r : SV} {m : FV} {xs : List EV}
@[simp] theorem s_eK : eK d ρ c = .ok (d, c) := id rfl
@[simp] theorem s_eV : eV i ρ c = match ρ[i]? with
  | some (.sh d) => .ok (d, c)
  | _ => .no := id rfl
@[simp] theorem s_eB : eB i ρ c = match ρ[i]? with
  | some (.sh d) => .ok (d, c)
  | some (.ow d) => .ok (d, c)
  | _ => .no := id rfl
@[simp] theorem s_e1 {f : D → Option D} : e1 f a ρ c = (a ρ c).bind fun p => lift (f p.1) p.2 := id rfl
@[simp] theorem s_e2 {f : D → D → Option D} : e2 f a b ρ c = (a ρ c).bind fun p => (b ρ p.2).bind fun q => lift (f p.1 q.1) q.2 := id rfl
@[simp] theorem s_es0 : es [] ρ c = .ok ([], c) := id rfl
@[simp] theorem s_es1 : es (a :: xs) ρ c = (a ρ c).bind fun p => (es xs ρ p.2).bind fun q => .ok (p.1 :: q.1, q.2) := id rfl
@[simp] theorem s_eTup : eTup xs ρ c = (es xs ρ c).bind fun p => .ok (.tup p.1, p.2) := id rfl
@[simp] theorem s_eLst : eLst xs ρ c = (es xs ρ c).bind fun p => .ok (.lst p.1, p.2) := id rfl
@[simp] theorem s_eDct : eDct0 ρ c = .ok (.dct [], c) := id rfl
@[simp] theorem s_eAnd : eAnd a b ρ c = (a ρ c).bind fun p => match truth p.1 with
  | some true => b ρ p.2
  | some false => .ok p
  | none => .no := id rfl
@[simp] theorem s_eOr : eOr a b ρ c = (a ρ c).bind fun p => match truth p.1 with
  | some true => .ok p
  | some false => b ρ p.2
  | none => .no := id rfl
@[simp] theorem s_tE : tE a ρ c = (a ρ c).bind fun p => lift (truth p.1) p.2 := id rfl
@[simp] theorem s_tAnd : tAnd t u ρ c = (t ρ c).bind fun p => if p.1 then u ρ p.2 else .ok (false, p.2) := id rfl
@[simp] theorem s_tOr : tOr t u ρ c = (t ρ c).bind fun p => if p.1 then .ok (true, p.2) else u ρ p.2 := id rfl
@[simp] theorem s_tNot : tNot t ρ c = (t ρ c).bind fun p => .ok (!p.1, p.2) := id rfl
@[simp] theorem s_eIf : eIf t a b ρ c = (t ρ c).bind fun p => if p.1 then a ρ p.2 else b ρ p.2 := id rfl
@[simp] theorem s_eCall : eCall m xs ρ c = (es xs ρ c).bind fun p => m p.1 p.2 := id rfl
@[simp] theorem s_oE0 : oE none ρ c = .ok (none, c) := id rfl
@[simp] theorem s_oE1 : oE (some a) ρ c = (a ρ c).bind fun p => match p.1 with
  | .int i => .ok (some i, p.2)
  | _ => .no := id rfl
@[simp] theorem s_eSl {lo hi : Option EV} : eSl a lo hi ρ c = (a ρ c).bind fun p => (oE lo ρ p.2).bind fun q => (oE hi ρ q.2).bind fun r => lift (pSl p.1 q.1 r.1) r.2 := id rfl
@[simp] theorem s_eCup : eCup i k ρ c = match ρ[i]? with
  | some (.sh .cup) => (match c with
    | some (x, y) => if k = 0 then .ok (.int x, c) else .ok (.int y, c)
    | none => .no)
  | _ => .no := id rfl
@[simp] theorem s_eChn {f g : D → D → Option D} {e : EV} : eChn f g a b e ρ c = (a ρ c).bind fun p => (b ρ p.2).bind fun q => match f p.1 q.1 with
  | some (.bl true) => (e ρ q.2).bind fun r => lift (g q.1 r.1) r.2
  | some (.bl false) => .ok (.bl false, q.2)
  | _ => .no := id rfl
@[simp] theorem s_eM {chk : D → Bool} {f : D → D → Option D} : eM chk f a b ρ c = (a ρ c).bind fun p => if chk p.1 then (b ρ p.2).bind fun q => lift (f p.1 q.1) q.2 else .no := id rfl
@[simp] theorem s_iE : iE a ρ c = (a ρ c).bind fun p => lift (walk p.1) p.2 := id rfl
@[simp] theorem s_iR1 : iR1 a ρ c = (a ρ c).bind fun p => match p.1 with
  | .int j => if okI j then .ok (intsD 0 j.toNat, p.2) else .no
  | _ => .no := id rfl
@[simp] theorem s_iR2 : iR2 a b ρ c = (a ρ c).bind fun p => (b ρ p.2).bind fun q => match p.1, q.1 with
  | .int i, .int j => if okI i && okI j then .ok (intsD i (j - i).toNat, q.2) else .no
  | _, _ => .no := id rfl
@[simp] theorem s_iZip : iZip a b ρ c = (a ρ c).bind fun p => (b ρ p.2).bind fun q => match seqI p.1, seqI q.1 with
  | some xs, some ys => .ok (zipD xs ys, q.2)
  | _, _ => .no := id rfl
@[simp] theorem s_iEnum : iEnum a ρ c = (a ρ c).bind fun p => match seqI p.1 with
  | some xs => .ok (enumD 0 xs, p.2)
  | none => .no := id rfl
@[simp] theorem s_gN : gN i ρ d = some (ρ.set i (.sh d)) := id rfl
@[simp] theorem s_tT : tT ρ c = .ok (true, c) := id rfl
@[simp] theorem s_skip : sSkip ρ c = .ok (.nx, ρ, c) := id rfl
@[simp] theorem s_seq : sSeq s r ρ c = (s ρ c).bind fun p => match p.1 with
  | .nx => r p.2.1 p.2.2
  | _ => .ok p := id rfl
@[simp] theorem s_asg {g : TG} : sAsg g a ρ c = (a ρ c).bind fun p => match g ρ p.1 with
  | some ρ' => .ok (.nx, ρ', p.2)
  | none => .no := id rfl
@[simp] theorem s_own : sOwn i a ρ c = (a ρ c).bind fun p => .ok (.nx, ρ.set i (.ow p.1), p.2) := id rfl
@[simp] theorem s_par {x y : Bool} : sPar2 i x a j y b ρ c = (a ρ c).bind fun p => (b ρ p.2).bind fun q => .ok (.nx, (ρ.set i (if x then .ow p.1 else .sh p.1)).set j (if y then .ow q.1 else .sh q.1), q.2) := id rfl
@[simp] theorem s_set : sSet i a b ρ c = match ρ[i]? with
  | some (.ow x) => (b ρ c).bind fun p => (a ρ p.2).bind fun q => (match setD x q.1 p.1 with
    | some y => .ok (.nx, ρ.set i (.ow y), q.2)
    | none => .no)
  | _ => .no := id rfl
@[simp] theorem s_cup : sCup i k a ρ c = match ρ[i]? with
  | some (.sh .cup) => (a ρ c).bind fun p => (match cupSet k p.1 p.2 with
    | some c' => .ok (.nx, ρ, c')
    | none => .no)
  | _ => .no := id rfl
@[simp] theorem s_app : sApp i a ρ c = match ρ[i]? with
  | some (.ow (.lst xs)) => (a ρ c).bind fun p => if xs.length < line then .ok (.nx, ρ.set i (.ow (.lst (xs ++ [p.1]))), p.2) else .no
  | _ => .no := id rfl
@[simp] theorem s_exp : sExp a ρ c = (a ρ c).bind fun p => .ok (.nx, ρ, p.2) := id rfl
@[simp] theorem s_ret : sRet a ρ c = (a ρ c).bind fun p => .ok (.rt p.1, ρ, p.2) := id rfl
@[simp] theorem s_retN : sRetN ρ c = .ok (.rt .non, ρ, c) := id rfl
@[simp] theorem s_if : sIf t s r ρ c = (t ρ c).bind fun p => if p.1 then s ρ p.2 else r ρ p.2 := id rfl
@[simp] theorem s_for {it : IV} {g : TG} : sFor it g s ρ c = (it ρ c).bind fun p => forL g s p.1 ρ p.2 := id rfl
@[simp] theorem s_kill {ks : List Nat} : sKill ks s ρ c = (s ρ c).bind fun p => .ok (p.1, wipes ks p.2.1, p.2.2) := id rfl
@[simp] theorem s_frz {is : List Nat} : sFrz is s ρ c = s (frzs is ρ) c := id rfl
@[simp] theorem s_frzs0 : frzs [] ρ = ρ := id rfl
@[simp] theorem s_frzs1 {is : List Nat} : frzs (i :: is) ρ = frzs is (frz i ρ) := id rfl
@[simp] theorem s_frz1 : frz i ρ = match ρ[i]? with
  | some (.ow d) => ρ.set i (.sh d)
  | _ => ρ := id rfl
@[simp] theorem s_mkF {ps : Nat} {ds : List D} : mkF ps n s ds c = if ds.length = ps then (s (start n ds) c).bind fun p => (match p.1 with
  | .rt d => .ok (d, p.2.2)
  | .nx => .ok (.non, p.2.2)
  | _ => .no) else .no := id rfl
@[simp] theorem s_start {ds : List D} : start n ds = ds.map .sh ++ List.replicate (n - ds.length) .un := id rfl
@[simp] theorem s_quiet {α : Type} {x : α} : (R.ok x).quiet = .ok x := id rfl
@[simp] theorem s_eLc {vs : List Nat} {it : IV} {g : TG} : eLc vs it g t a ρ c = (it ρ c).bind fun p => ((fit (lcL g t a (wipes vs ρ) p.1 p.2)).quiet).bind fun q => .ok (.lst q.1, q.2) := id rfl
@[simp] theorem s_wipes0 : wipes [] ρ = ρ := id rfl
@[simp] theorem s_wipes1 {vs : List Nat} : wipes (i :: vs) ρ = (wipes vs ρ).set i .un := id rfl
theorem fit_of {q : List D × Cup} (h : q.1.length ≤ line) : fit (.ok q) = .ok q := by
  show (if q.1.length ≤ line then R.ok q else R.no) = _
  rw [if_pos h]
/-- a comprehension whose parts do not touch the cup -/
theorem lc_map {g : TG} {f : D → D} {p : D → Bool} : ∀ {ds : List D}, (∀ x ∈ ds, ∃ ρ', g ρ x = some ρ' ∧ t ρ' c = .ok (p x, c) ∧ (p x = true → a ρ' c = .ok (f x, c))) → lcL g t a ρ ds c = .ok ((ds.filter p).map f, c)
  | [], _ => rfl
  | x :: ds, h => by
    obtain ⟨ρ', h1, h2, h3⟩ := h x (List.mem_cons_self ..)
    have ih := lc_map (g := g) (f := f) (p := p) (ds := ds) fun y hy => h y (List.mem_cons_of_mem _ hy)
    unfold lcL
    rw [h1]
    show (t ρ' c).bind _ = _
    rw [h2]
    cases q : p x with
    | true =>
      show (a ρ' c).bind _ = _
      rw [h3 q]
      show (lcL g t a ρ ds c).bind _ = _
      rw [ih, List.filter_cons_of_pos q]
      rfl
    | false =>
      show lcL g t a ρ ds c = _
      rw [ih, List.filter_cons_of_neg (by rw [q]; exact Bool.false_ne_true)]
theorem lc_all {g : TG} {f : D → D} {ds : List D} (h : ∀ x ∈ ds, ∃ ρ', g ρ x = some ρ' ∧ a ρ' c = .ok (f x, c)) : lcL g tT a ρ ds c = .ok (ds.map f, c) := by
  have q := lc_map (t := tT) (a := a) (g := g) (f := f) (p := fun _ => true) (ρ := ρ) (c := c) (ds := ds) fun x hx => by
    obtain ⟨ρ', h1, h2⟩ := h x hx
    exact ⟨ρ', h1, rfl, fun _ => h2⟩
  rw [q, show ds.filter (fun _ => true) = ds from List.filter_eq_self.mpr fun _ _ => rfl]
end
theorem okI_of {i : Int} (h : -4611686018427387904 ≤ i ∧ i < 4611686018427387904) : okI i = true := by
  unfold okI
  rw [Bool.and_eq_true, decide_eq_true_eq, decide_eq_true_eq]
  exact h
theorem intsD_mem {lo : Int} : ∀ {n : Nat} {x : D}, x ∈ intsD lo n → ∃ k : Nat, k < n ∧ x = .int (lo + k) := by
  intro n
  induction n generalizing lo with
  | zero => intro x h; cases h
  | succ n ih =>
    intro x h
    rcases List.mem_cons.mp (show x ∈ D.int lo :: intsD (lo + 1) n from h) with h | h
    · exact ⟨0, by omega, by rw [h]; simp⟩
    · obtain ⟨k, hk, e⟩ := ih h
      exact ⟨k + 1, by omega, by rw [e]; congr 1; omega⟩
def fInt (f : Int → D) : D → D
  | .int i => f i
  | _ => .non
theorem intsD_map {lo : Int} {f : Int → D} : ∀ {n : Nat}, (intsD lo n).map (fInt f) = (List.range n).map fun k : Nat => f (lo + (k : Int)) := by
  intro n
  induction n generalizing lo with
  | zero => rfl
  | succ n ih =>
    show f lo :: (intsD (lo + 1) n).map _ = _
    rw [ih, List.range_succ_eq_map, List.map_cons, List.map_map]
    congr 1
    · simp
    · apply List.map_congr_left
      intro k _
      show f (lo + 1 + k) = f (lo + ((k + 1 : Nat) : Int))
      congr 1
      omega
/-! The same, one behind the other: no defeq check ever opens an operator. -/
section
variable {ρ ρ1 ρ2 : Env} {c c1 c2 c3 : Cup} {i j k n : Nat} {d e x y z : D} {a b : EV} {t u : TV} {s r : SV} {m : FV} {xs : List EV} {ds qs : List D} {it : IV} {g : TG}
theorem v_K : eK d ρ c = .ok (d, c) := rfl
theorem v_V (h : ρ[i]? = some (.sh d)) : eV i ρ c = .ok (d, c) := by rw [s_eV, h]
theorem v_B (h : ρ[i]? = some (.sh d)) : eB i ρ c = .ok (d, c) := by rw [s_eB, h]
theorem v_O (h : ρ[i]? = some (.ow d)) : eB i ρ c = .ok (d, c) := by rw [s_eB, h]
theorem v_1 {f : D → Option D} (ha : a ρ c = .ok (x, c1)) (hf : f x = some z) : e1 f a ρ c = .ok (z, c1) := by
  rw [s_e1, ha, R.bind_ok, hf, lift_some]
theorem v_2 {f : D → D → Option D} (ha : a ρ c = .ok (x, c1)) (hb : b ρ c1 = .ok (y, c2)) (hf : f x y = some z) : e2 f a b ρ c = .ok (z, c2) := by
  rw [s_e2, ha, R.bind_ok, hb, R.bind_ok, hf, lift_some]
theorem v_s0 : es [] ρ c = .ok ([], c) := rfl
theorem v_s1 (ha : a ρ c = .ok (x, c1)) (hb : es xs ρ c1 = .ok (ds, c2)) : es (a :: xs) ρ c = .ok (x :: ds, c2) := by
  rw [s_es1, ha, R.bind_ok, hb, R.bind_ok]
theorem v_tup (h : es xs ρ c = .ok (ds, c1)) : eTup xs ρ c = .ok (.tup ds, c1) := by rw [s_eTup, h, R.bind_ok]
theorem v_lst (h : es xs ρ c = .ok (ds, c1)) : eLst xs ρ c = .ok (.lst ds, c1) := by rw [s_eLst, h, R.bind_ok]
theorem v_call {q : R (D × Cup)} (h : es xs ρ c = .ok (ds, c1)) (hm : m ds c1 = q) : eCall m xs ρ c = q := by rw [s_eCall, h, R.bind_ok]; exact hm
theorem v_M {chk : D → Bool} {f : D → D → Option D} (ha : a ρ c = .ok (x, c1)) (hc : chk x = true) (hb : b ρ c1 = .ok (y, c2)) (hf : f x y = some z) : eM chk f a b ρ c = .ok (z, c2) := by
  rw [s_eM, ha, R.bind_ok, if_pos hc, hb, R.bind_ok, hf, lift_some]
theorem v_Lc {vs : List Nat} (hi : it ρ c = .ok (ds, c1)) (hl : lcL g t a (wipes vs ρ) ds c1 = .ok (qs, c2)) (hn : qs.length ≤ line) : eLc vs it g t a ρ c = .ok (.lst qs, c2) := by
  rw [s_eLc, hi, R.bind_ok, hl, fit_of (q := (qs, c2)) hn, s_quiet, R.bind_ok]
theorem v_iE (ha : a ρ c = .ok (x, c1)) (hw : walk x = some ds) : iE a ρ c = .ok (ds, c1) := by rw [s_iE, ha, R.bind_ok, hw, lift_some]
theorem v_R1 {n : Int} (ha : a ρ c = .ok (.int n, c1)) (h : okI n = true) : iR1 a ρ c = .ok (intsD 0 n.toNat, c1) := by
  rw [s_iR1, ha, R.bind_ok]
  exact if_pos h
theorem v_R2 {i n : Int} (ha : a ρ c = .ok (.int i, c1)) (hb : b ρ c1 = .ok (.int n, c2)) (h : okI i = true) (h2 : okI n = true) : iR2 a b ρ c = .ok (intsD i (n - i).toNat, c2) := by
  rw [s_iR2, ha, R.bind_ok, hb, R.bind_ok]
  exact if_pos (by rw [h, h2]; rfl)
theorem v_tE {v : Bool} (ha : a ρ c = .ok (x, c1)) (h : truth x = some v) : tE a ρ c = .ok (v, c1) := by rw [s_tE, ha, R.bind_ok, h, lift_some]
theorem v_tN {v : Bool} (ha : t ρ c = .ok (v, c1)) : tNot t ρ c = .ok (!v, c1) := by rw [s_tNot, ha, R.bind_ok]
theorem v_if1 {q : R (Ctl × Env × Cup)} (ht : t ρ c = .ok (true, c1)) (hs : s ρ c1 = q) : sIf t s r ρ c = q := by rw [s_if, ht, R.bind_ok]; exact hs
theorem v_if0 {q : R (Ctl × Env × Cup)} (ht : t ρ c = .ok (false, c1)) (hs : r ρ c1 = q) : sIf t s r ρ c = q := by rw [s_if, ht, R.bind_ok]; exact hs
theorem v_seq {q : R (Ctl × Env × Cup)} (h1 : s ρ c = .ok (.nx, ρ1, c1)) (h2 : r ρ1 c1 = q) : sSeq s r ρ c = q := by rw [s_seq, h1, R.bind_ok]; exact h2
theorem v_seqR (h1 : s ρ c = .ok (.rt x, ρ1, c1)) : sSeq s r ρ c = .ok (.rt x, ρ1, c1) := by rw [s_seq, h1, R.bind_ok]
theorem v_skip : sSkip ρ c = .ok (.nx, ρ, c) := rfl
theorem v_exp (ha : a ρ c = .ok (x, c1)) : sExp a ρ c = .ok (.nx, ρ, c1) := by rw [s_exp, ha, R.bind_ok]
theorem v_ret (ha : a ρ c = .ok (x, c1)) : sRet a ρ c = .ok (.rt x, ρ, c1) := by rw [s_ret, ha, R.bind_ok]
theorem v_asg (ha : a ρ c = .ok (x, c1)) (hg : g ρ x = some ρ1) : sAsg g a ρ c = .ok (.nx, ρ1, c1) := by rw [s_asg, ha, R.bind_ok, hg]
theorem v_own (ha : a ρ c = .ok (x, c1)) : sOwn i a ρ c = .ok (.nx, ρ.set i (.ow x), c1) := by rw [s_own, ha, R.bind_ok]
theorem v_set (hi : ρ[i]? = some (.ow x)) (hb : b ρ c = .ok (y, c1)) (ha : a ρ c1 = .ok (z, c2)) (hs : setD x z y = some d) : sSet i a b ρ c = .ok (.nx, ρ.set i (.ow d), c2) := by
  rw [s_set, hi]
  show (b ρ c).bind _ = _
  rw [hb, R.bind_ok, ha, R.bind_ok, hs]
theorem v_for {q : R (Ctl × Env × Cup)} (hi : it ρ c = .ok (ds, c1)) (hf : forL g s ds ρ c1 = q) : sFor it g s ρ c = q := by rw [s_for, hi, R.bind_ok]; exact hf
theorem v_forS {q : R (Ctl × Env × Cup)} (hg : g ρ d = some ρ1) (hb : s ρ1 c = .ok (.nx, ρ2, c1)) (hr : forL g s ds ρ2 c1 = q) : forL g s (d :: ds) ρ c = q := by
  unfold forL
  rw [hg]
  show (s ρ1 c).bind _ = _
  rw [hb, R.bind_ok]
  exact hr
theorem v_forR (hg : g ρ d = some ρ1) (hb : s ρ1 c = .ok (.rt x, ρ2, c1)) : forL g s (d :: ds) ρ c = .ok (.rt x, ρ2, c1) := by
  unfold forL
  rw [hg]
  show (s ρ1 c).bind _ = _
  rw [hb, R.bind_ok]
theorem v_frz {is : List Nat} {q : R (Ctl × Env × Cup)} (h : s (frzs is ρ) c = q) : sFrz is s ρ c = q := h
theorem v_enum {ys : List D} (ha : a ρ c = .ok (x, c1)) (h : seqI x = some ys) : iEnum a ρ c = .ok (enumD 0 ys, c1) := by rw [s_iEnum, ha, R.bind_ok, h]
theorem v_fun {ps : Nat} (hl : ds.length = ps) (h : s (start n ds) c = .ok (.rt d, ρ1, c1)) : mkF ps n s ds c = .ok (d, c1) := by
  rw [s_mkF, if_pos hl, h, R.bind_ok]
theorem v_fun0 {ps : Nat} (hl : ds.length = ps) (h : s (start n ds) c = .ok (.nx, ρ1, c1)) : mkF ps n s ds c = .ok (.non, c1) := by
  rw [s_mkF, if_pos hl, h, R.bind_ok]
theorem v_and1 {q : R (D × Cup)} (ha : a ρ c = .ok (x, c1)) (ht : truth x = some true) (hb : b ρ c1 = q) : eAnd a b ρ c = q := by rw [s_eAnd, ha, R.bind_ok, ht]; exact hb
theorem v_and0 (ha : a ρ c = .ok (x, c1)) (ht : truth x = some false) : eAnd a b ρ c = .ok (x, c1) := by rw [s_eAnd, ha, R.bind_ok, ht]
theorem v_lc0 : lcL g t a ρ [] c = .ok ([], c) := rfl
end
/-! For steps one behind the other, without a look ahead. -/
def br {α : Type} (b : Bool) (x y : α) : α := if b then x else y
def nxt (k : Ctl) (r : SV) (ρ : Env) (c : Cup) : R (Ctl × Env × Cup) := match k with
  | .nx => r ρ c
  | k => .ok (k, ρ, c)
def endF : Ctl → Option D
  | .rt d => some d
  | .nx => some .non
  | _ => none
def chnT (g : D → D → Option D) (y : D) (e : EV) : EV := fun ρ c => (e ρ c).bind fun r => lift (g y r.1) r.2
def upt (i : Nat) (o : Bool) (x : D) (ρ : Env) : Env := ρ.set i (if o then .ow x else .sh x)
section
variable {α : Type} {X Y Q : α} {ρ ρ1 ρ2 : Env} {c c1 c2 c3 : Cup} {i j k n : Nat} {d x y z w : D} {a b e : EV} {t u : TV} {s r : SV} {m : FV} {xs : List EV} {ds qs : List D} {it : IV} {g : TG} {v v1 v2 : Bool} {ct : Ctl} {q : R (D × Cup)} {qs' : R (Ctl × Env × Cup)} {qt : R (Bool × Cup)}
theorem br_t (h : X = Q) : br true X Y = Q := h
theorem br_f (h : Y = Q) : br false X Y = Q := h
theorem br_nf (h : X = Q) : br (!false) X Y = Q := h
theorem br_nt (h : Y = Q) : br (!true) X Y = Q := h
theorem br_dt {p : Prop} [Decidable p] (hp : p) (h : X = Q) : br (decide p) X Y = Q := by rw [decide_eq_true hp]; exact h
theorem br_df {p : Prop} [Decidable p] (hp : ¬p) (h : Y = Q) : br (decide p) X Y = Q := by rw [decide_eq_false hp]; exact h
theorem ok_rfl {x : α} : (R.ok x) = R.ok x := rfl
theorem nxt_n (h : r ρ c = qs') : nxt .nx r ρ c = qs' := h
theorem nxt_r : nxt (.rt x) r ρ c = .ok (.rt x, ρ, c) := rfl
theorem w_if (ht : t ρ c = .ok (v, c1)) (h : br v (s ρ c1) (r ρ c1) = qs') : sIf t s r ρ c = qs' := by rw [s_if, ht, R.bind_ok]; exact h
theorem w_seq (h1 : s ρ c = .ok (ct, ρ1, c1)) (h2 : nxt ct r ρ1 c1 = qs') : sSeq s r ρ c = qs' := by
  rw [s_seq, h1, R.bind_ok]
  rw [← h2]
  cases ct <;> rfl
theorem w_and (ha : a ρ c = .ok (x, c1)) (ht : truth x = some v) (h : br v (b ρ c1) (.ok (x, c1)) = q) : eAnd a b ρ c = q := by
  rw [s_eAnd, ha, R.bind_ok, ht, ← h]
  cases v <;> rfl
theorem w_or (ha : a ρ c = .ok (x, c1)) (ht : truth x = some v) (h : br v (.ok (x, c1)) (b ρ c1) = q) : eOr a b ρ c = q := by
  rw [s_eOr, ha, R.bind_ok, ht, ← h]
  cases v <;> rfl
theorem w_tAnd (ht : t ρ c = .ok (v, c1)) (h : br v (u ρ c1) (.ok (false, c1)) = qt) : tAnd t u ρ c = qt := by
  rw [s_tAnd, ht, R.bind_ok, ← h]
  rfl
theorem w_tOr (ht : t ρ c = .ok (v, c1)) (h : br v (.ok (true, c1)) (u ρ c1) = qt) : tOr t u ρ c = qt := by
  rw [s_tOr, ht, R.bind_ok, ← h]
  rfl
theorem w_eIf (ht : t ρ c = .ok (v, c1)) (h : br v (a ρ c1) (b ρ c1) = q) : eIf t a b ρ c = q := by
  rw [s_eIf, ht, R.bind_ok, ← h]
  rfl
theorem w_chn {f g : D → D → Option D} (ha : a ρ c = .ok (x, c1)) (hb : b ρ c1 = .ok (y, c2)) (hf : f x y = some (.bl v)) (h : br v (chnT g y e ρ c2) (.ok (.bl false, c2)) = q) : eChn f g a b e ρ c = q := by
  rw [s_eChn, ha, R.bind_ok, hb, R.bind_ok, hf, ← h]
  cases v <;> rfl
theorem w_chnT {g : D → D → Option D} (he : e ρ c = .ok (z, c1)) (hg : g y z = some w) : chnT g y e ρ c = .ok (w, c1) := by
  have e0 : chnT g y e ρ c = (e ρ c).bind fun r => lift (g y r.1) r.2 := rfl
  rw [e0, he, R.bind_ok, hg, lift_some]
/-- both sides told alike: and -/
theorem br_and (h : t ρ c = .ok (v1, c)) : br v (t ρ c) (.ok (false, c)) = .ok (v && v1, c) := by cases v; rfl; exact h
theorem br_or (h : t ρ c = .ok (v1, c)) : br v (.ok (true, c)) (t ρ c) = .ok (v || v1, c) := by cases v; exact h; rfl
theorem br_andB (h : b ρ c = .ok (.bl v1, c)) : br v (b ρ c) (.ok (.bl v, c)) = .ok (.bl (v && v1), c) := by cases v; rfl; exact h
theorem br_andD (h : v = true → b ρ c = .ok (.bl v1, c)) : br v (b ρ c) (.ok (.bl v, c)) = .ok (.bl (v && v1), c) := by cases v; rfl; exact h rfl
theorem br_andT (h : v = true → t ρ c = .ok (v1, c)) : br v (t ρ c) (.ok (false, c)) = .ok (v && v1, c) := by cases v; rfl; exact h rfl
theorem br_orT (h : v = false → t ρ c = .ok (v1, c)) : br v (.ok (true, c)) (t ρ c) = .ok (v || v1, c) := by cases v; exact h rfl; rfl
theorem br_ite (h1 : v = true → X = Q) (h2 : v = false → Y = Q) : br v X Y = Q := by cases v; exact h2 rfl; exact h1 rfl
theorem w_app {l : List D} (hi : ρ[i]? = some (.ow (.lst l))) (ha : a ρ c = .ok (x, c1)) (hl : l.length < line) : sApp i a ρ c = .ok (.nx, ρ.set i (.ow (.lst (l ++ [x]))), c1) := by
  rw [s_app, hi]
  show (a ρ c).bind _ = _
  rw [ha, R.bind_ok]
  exact if_pos hl
theorem w_par {o1 o2 : Bool} (ha : a ρ c = .ok (x, c1)) (hb : b ρ c1 = .ok (y, c2)) : sPar2 i o1 a j o2 b ρ c = .ok (.nx, upt j o2 y (upt i o1 x ρ), c2) := by
  rw [s_par, ha, R.bind_ok, hb, R.bind_ok]
  rfl
theorem w_par3 {o1 o2 o3 : Bool} {k : Nat} (ha : a ρ c = .ok (x, c1)) (hb : b ρ c1 = .ok (y, c2)) (he : e ρ c2 = .ok (z, c3)) : sPar3 i o1 a j o2 b k o3 e ρ c = .ok (.nx, upt k o3 z (upt j o2 y (upt i o1 x ρ)), c3) := by
  have e0 : sPar3 i o1 a j o2 b k o3 e ρ c = (a ρ c).bind fun p => (b ρ p.2).bind fun q => (e ρ q.2).bind fun r =>
    .ok (.nx, ((ρ.set i (if o1 then .ow p.1 else .sh p.1)).set j (if o2 then .ow q.1 else .sh q.1)).set k (if o3 then .ow r.1 else .sh r.1), r.2) := rfl
  rw [e0, ha, R.bind_ok, hb, R.bind_ok, he, R.bind_ok]
  rfl
theorem w_pop {l : List D} (hi : ρ[i]? = some (.ow (.lst l))) (h : l[l.length - 1]? = some x) : sPop i j ρ c = .ok (.nx, (ρ.set i (.ow (.lst l.dropLast))).set j (.sh x), c) := by
  have e0 : sPop i j ρ c = match ρ[i]? with
    | some (.ow (.lst ds)) => (match ds[ds.length - 1]? with
      | some d => .ok (.nx, (ρ.set i (.ow (.lst ds.dropLast))).set j (.sh d), c)
      | none => .no)
    | _ => .no := rfl
  rw [e0, hi]
  show (match l[l.length - 1]? with
      | some d => R.ok (Ctl.nx, (ρ.set i (.ow (.lst l.dropLast))).set j (.sh d), c)
      | none => .no) = _
  rw [h]
theorem w_sl3 {lo hi : Option EV} {st : EV} {p q r : Option Int} {c4 : Cup} (ha : a ρ c = .ok (x, c1)) (h1 : oE lo ρ c1 = .ok (p, c2)) (h2 : oE hi ρ c2 = .ok (q, c3)) (h3 : oE (some st) ρ c3 = .ok (r, c4)) (h : pSl3 x p q r = some z) : eSl3 a lo hi st ρ c = .ok (z, c4) := by
  have e0 : eSl3 a lo hi st ρ c = (a ρ c).bind fun p => (oE lo ρ p.2).bind fun q => (oE hi ρ q.2).bind fun r => (oE (some st) ρ r.2).bind fun u => lift (pSl3 p.1 q.1 r.1 u.1) u.2 := rfl
  rw [e0, ha, R.bind_ok, h1, R.bind_ok, h2, R.bind_ok, h3, R.bind_ok, h, lift_some]
theorem w_kill {ks : List Nat} (h : s ρ c = .ok (ct, ρ1, c1)) : sKill ks s ρ c = .ok (ct, wipes ks ρ1, c1) := by rw [s_kill, h, R.bind_ok]
theorem w_M3 {chk : D → Bool} {f : D → D → D → Option D} (ha : a ρ c = .ok (x, c1)) (hc : chk x = true) (hb : b ρ c1 = .ok (y, c2)) (he : e ρ c2 = .ok (z, c3)) (hf : f x y z = some w) : eM3 chk f a b e ρ c = .ok (w, c3) := by
  have e0 : eM3 chk f a b e ρ c = (a ρ c).bind fun p => if chk p.1 then (b ρ p.2).bind fun q => (e ρ q.2).bind fun r => lift (f p.1 q.1 r.1) r.2 else .no := rfl
  rw [e0, ha, R.bind_ok, if_pos hc, hb, R.bind_ok, he, R.bind_ok, hf, lift_some]
theorem w_aug {f : D → D → Option D} (hi : ρ[i]? = some (.sh x)) (ha : a ρ c = .ok (y, c1)) (hf : f x y = some z) : sAug i f a ρ c = .ok (.nx, ρ.set i (.sh z), c1) := by
  have e0 : sAug i f a ρ c = match ρ[i]? with
  | some (.sh x) => (a ρ c).bind fun p => (match f x p.1 with
    | some d => .ok (.nx, ρ.set i (.sh d), p.2)
    | none => .no)
  | _ => .no := rfl
  rw [e0, hi]
  show (a ρ c).bind _ = _
  rw [ha, R.bind_ok, hf]
theorem w_ext {l l2 : List D} (hi : ρ[i]? = some (.ow (.lst l))) (ha : a ρ c = .ok (.lst l2, c1)) (hl : l.length + l2.length ≤ line) : sExt i a ρ c = .ok (.nx, ρ.set i (.ow (.lst (l ++ l2))), c1) := by
  have e0 : sExt i a ρ c = match ρ[i]? with
  | some (.ow (.lst xs)) => (a ρ c).bind fun p => (match p.1 with
    | .lst ys => if xs.length + ys.length ≤ line then .ok (.nx, ρ.set i (.ow (.lst (xs ++ ys))), p.2) else .no
    | _ => .no)
  | _ => .no := rfl
  rw [e0, hi]
  show (a ρ c).bind _ = _
  rw [ha, R.bind_ok]
  exact if_pos hl
theorem w_fun {ps : Nat} (hl : ds.length = ps) (h : s (start n ds) c = .ok (ct, ρ1, c1)) (h2 : endF ct = some d) : mkF ps n s ds c = .ok (d, c1) := by
  rw [s_mkF, if_pos hl, h, R.bind_ok]
  cases ct <;> first | (cases h2; rfl) | cases h2
theorem w_zip {l l2 : List D} (ha : a ρ c = .ok (x, c1)) (hb : b ρ c1 = .ok (y, c2)) (hx : seqI x = some l) (hy : seqI y = some l2) : iZip a b ρ c = .ok (zipD l l2, c2) := by
  rw [s_iZip, ha, R.bind_ok, hb, R.bind_ok, hx, hy]
theorem w_sl {lo hi : Option EV} {p q : Option Int} (ha : a ρ c = .ok (x, c1)) (h1 : oE lo ρ c1 = .ok (p, c2)) (h2 : oE hi ρ c2 = .ok (q, c3)) (h : pSl x p q = some z) : eSl a lo hi ρ c = .ok (z, c3) := by
  rw [s_eSl, ha, R.bind_ok, h1, R.bind_ok, h2, R.bind_ok, h, lift_some]
theorem w_oE {i : Int} (ha : a ρ c = .ok (.int i, c1)) : oE (some a) ρ c = .ok (some i, c1) := by rw [s_oE1, ha, R.bind_ok]
theorem w_R3 {i j : Int} (ha : a ρ c = .ok (.int i, c1)) (hb : b ρ c1 = .ok (.int j, c2)) (he : e ρ c2 = .ok (.int (-1), c3)) (hi : okI i = true) (hj : okI j = true) : iR3 a b e ρ c = .ok (downD i (i - j).toNat, c3) := by
  have e0 : iR3 a b e ρ c = (a ρ c).bind fun p => (b ρ p.2).bind fun q => (e ρ q.2).bind fun r => match p.1, q.1, r.1 with
  | .int i, .int j, .int k => if okI i && okI j && decide (k = -1) then .ok (downD i (i - j).toNat, r.2) else .no
  | _, _, _ => .no := rfl
  rw [e0, ha, R.bind_ok, hb, R.bind_ok, he, R.bind_ok]
  show (if okI i && okI j && decide ((-1 : Int) = -1) then R.ok (downD i (i - j).toNat, c3) else .no) = _
  rw [hi, hj, decide_eq_true rfl]
  rfl
theorem w_disp1 {k : D} (hk : a ρ c = .ok (k, c1)) (hv : b ρ c1 = .ok (x, c2)) (h : isKey k = true) : eDisp1 a b ρ c = .ok (.dct [(k, x)], c2) := by
  have e0 : eDisp1 a b ρ c = (a ρ c).bind fun p => (b ρ p.2).bind fun q => if isKey p.1 then .ok (.dct [(p.1, q.1)], q.2) else .no := rfl
  rw [e0, hk, R.bind_ok, hv, R.bind_ok]
  exact if_pos h
theorem key_str {s : List Nat} : isKey (.str s) = true := rfl
theorem key_int {i : Int} : isKey (.int i) = true := rfl
theorem wk_dct {l : List (D × D)} : walk (.dct l) = some (l.map (·.1)) := rfl
theorem w_rem {l : List D} {z : List Nat} {zs ys : List (List Nat)} (hi : ρ[i]? = some (.ow (.lst l))) (ha : a ρ c = .ok (.str z, c1)) (hs : strsD l = some zs) (hr : remL z zs = some ys) : sRem i a ρ c = .ok (.nx, ρ.set i (.ow (.lst (ys.map .str))), c1) := by
  have e0 : sRem i a ρ c = match ρ[i]? with
  | some (.ow (.lst xs)) => (a ρ c).bind fun p => (match p.1 with
    | .str z => (match (strsD xs).bind (remL z) with
      | some zs => .ok (.nx, ρ.set i (.ow (.lst (zs.map .str))), p.2)
      | none => .no)
    | _ => .no)
  | _ => .no := rfl
  rw [e0, hi]
  show (a ρ c).bind _ = _
  rw [ha, R.bind_ok]
  show (match (strsD l).bind (remL z) with
      | some zs => R.ok (Ctl.nx, ρ.set i (.ow (.lst (zs.map .str))), c1)
      | none => .no) = _
  rw [hs, Option.bind_some, hr]
theorem w_upd {kvs more : List (D × D)} (hi : ρ[i]? = some (.ow (.dct kvs))) (ha : a ρ c = .ok (.dct more, c1)) (hl : kvs.length + more.length ≤ line) : sUpd i a ρ c = .ok (.nx, ρ.set i (.ow (.dct (dmerge kvs more))), c1) := by
  have e0 : sUpd i a ρ c = match ρ[i]? with
  | some (.ow (.dct kvs)) => (a ρ c).bind fun p => (match p.1 with
    | .dct more => if kvs.length + more.length ≤ line then .ok (.nx, ρ.set i (.ow (.dct (dmerge kvs more))), p.2) else .no
    | _ => .no)
  | _ => .no := rfl
  rw [e0, hi]
  show (a ρ c).bind _ = _
  rw [ha, R.bind_ok]
  exact if_pos hl
theorem w_DV {kvs : List (D × D)} (ha : a ρ c = .ok (.dct kvs, c1)) : iDV a ρ c = .ok (kvs.map (·.2), c1) := by
  have e0 : iDV a ρ c = (a ρ c).bind fun p => match p.1 with
    | .dct kvs => .ok (kvs.map (·.2), p.2)
    | _ => .no := rfl
  rw [e0, ha, R.bind_ok]
theorem w_DI {kvs : List (D × D)} (ha : a ρ c = .ok (.dct kvs, c1)) : iDI a ρ c = .ok (kvs.map (fun q => .tup [q.1, q.2]), c1) := by
  have e0 : iDI a ρ c = (a ρ c).bind fun p => match p.1 with
    | .dct kvs => .ok (kvs.map (fun q => .tup [q.1, q.2]), p.2)
    | _ => .no := rfl
  rw [e0, ha, R.bind_ok]
theorem w_dc {vs : List Nat} {k : EV} {kvs : List (D × D)} (hi : it ρ c = .ok (ds, c1)) (h : dcL g t k a (wipes vs ρ) ds [] c1 = .ok (kvs, c2)) : eDc vs it g t k a ρ c = .ok (.dct kvs, c2) := by
  have e0 : eDc vs it g t k a ρ c = (it ρ c).bind fun p => ((dcL g t k a (wipes vs ρ) p.1 [] p.2).quiet).bind fun q => .ok (.dct q.1, q.2) := rfl
  rw [e0, hi, R.bind_ok, h]
  rfl
theorem ck_lst {l : List D} : isLst (.lst l) = true := rfl
theorem f_nil : forL g s [] ρ c = .ok (.nx, ρ, c) := rfl
/-! data -/
theorem tr_bl {b : Bool} : truth (.bl b) = some b := rfl
theorem dn_0 {kvs : List (D × D)} : pDNe0 (.dct kvs) = some (.bl (!kvs.isEmpty)) := rfl
theorem de_0 {kvs : List (D × D)} : pDEq0 (.dct kvs) = some (.bl kvs.isEmpty) := rfl
theorem rv_tup {l : List D} : pRevT (.tup l) = some (.tup l.reverse) := rfl
theorem tr_non : truth .non = some false := rfl
theorem tr_int {i : Int} : truth (.int i) = some (decide (i ≠ 0)) := rfl
theorem wk_lst {l : List D} : walk (.lst l) = some l := rfl
theorem wk_tup {l : List D} : walk (.tup l) = some l := rfl
theorem sq_lst {l : List D} : seqI (.lst l) = some l := rfl
theorem sq_tup {l : List D} : seqI (.tup l) = some l := rfl
theorem ln_lst {l : List D} : pLen (.lst l) = some (.int l.length) := rfl
theorem ln_tup {l : List D} : pLen (.tup l) = some (.int l.length) := rfl
theorem ln_dct {l : List (D × D)} : pLen (.dct l) = some (.int l.length) := rfl
theorem ad_int {i j : Int} : pAdd (.int i) (.int j) = some (.int (i + j)) := rfl
theorem sb_int {i j : Int} : pSub (.int i) (.int j) = some (.int (i - j)) := rfl
theorem ng_int {i : Int} : pNeg (.int i) = some (.int (-i)) := rfl
theorem lt_int {i j : Int} : pLt (.int i) (.int j) = some (.bl (decide (i < j))) := rfl
theorem le_int {i j : Int} : pLe (.int i) (.int j) = some (.bl (decide (i ≤ j))) := rfl
theorem gt_int {i j : Int} : pGt (.int i) (.int j) = some (.bl (decide (j < i))) := rfl
theorem ge_int {i j : Int} : pGe (.int i) (.int j) = some (.bl (decide (j ≤ i))) := rfl
theorem lt_txt {i j : List Nat} : pLt (.str i) (.str j) = some (.bl (ltS i j)) := rfl
theorem le_txt {i j : List Nat} : pLe (.str i) (.str j) = some (.bl (!ltS j i)) := rfl
theorem gt_txt {i j : List Nat} : pGt (.str i) (.str j) = some (.bl (ltS j i)) := rfl
theorem nt_bl {b : Bool} : pNot (.bl b) = some (.bl (!b)) := rfl
theorem in_int {i : Int} : pInt (.int i) = some (.int i) := rfl
theorem st_str {s : List Nat} : pStr (.str s) = some (.str s) := rfl
theorem is_bl {a b : Bool} : pIs (.bl a) (.bl b) = some (.bl (a == b)) := rfl
theorem isnot_bl {a b : Bool} : pIsNot (.bl a) (.bl b) = some (.bl (!(a == b))) := rfl
theorem ix_0 {l : List D} : pIx (.tup (x :: l)) (.int 0) = some x := by
  have e : pIx (.tup (x :: l)) (.int 0) = (ixN (x :: l).length 0).bind fun j => (x :: l)[j]? := rfl
  have q : (0 : Int) < ((x :: l).length : Int) := by rw [List.length_cons]; omega
  have h : ixN (x :: l).length 0 = some 0 := by
    unfold ixN
    rw [if_pos (by omega), if_pos q]
    rfl
  rw [e, h]
  rfl
theorem ix_1 {l : List D} : pIx (.tup (x :: y :: l)) (.int 1) = some y := by
  have e : pIx (.tup (x :: y :: l)) (.int 1) = (ixN (x :: y :: l).length 1).bind fun j => (x :: y :: l)[j]? := rfl
  have q : (1 : Int) < ((x :: y :: l).length : Int) := by rw [List.length_cons, List.length_cons]; omega
  have h : ixN (x :: y :: l).length 1 = some 1 := by
    unfold ixN
    rw [if_pos (by omega), if_pos q]
    rfl
  rw [e, h]
  rfl
theorem ck_str {s : List Nat} : isStr (.str s) = true := rfl
theorem ck_dct {l : List (D × D)} : isDct (.dct l) = true := rfl
theorem g_N : gN i ρ d = some (ρ.set i (.sh d)) := rfl
theorem g_T2 : gT [gN i, gN j] ρ (.tup [x, y]) = some ((ρ.set i (.sh x)).set j (.sh y)) := rfl
theorem g_T3 {k : Nat} : gT [gN i, gN j, gN k] ρ (.tup [x, y, z]) = some (((ρ.set i (.sh x)).set j (.sh y)).set k (.sh z)) := rfl
theorem ii_int_non  : pIsi .int .non = some (.bl false) := rfl
theorem ii_int_bl {b : Bool} : pIsi .int (.bl b) = some (.bl true) := rfl
theorem ii_int_int {i : Int} : pIsi .int (.int i) = some (.bl true) := rfl
theorem ii_int_str {s : List Nat} : pIsi .int (.str s) = some (.bl false) := rfl
theorem ii_int_tup {l : List D} : pIsi .int (.tup l) = some (.bl false) := rfl
theorem ii_int_lst {l : List D} : pIsi .int (.lst l) = some (.bl false) := rfl
theorem ii_bool_non  : pIsi .bool .non = some (.bl false) := rfl
theorem ii_bool_bl {b : Bool} : pIsi .bool (.bl b) = some (.bl true) := rfl
theorem ii_bool_int {i : Int} : pIsi .bool (.int i) = some (.bl false) := rfl
theorem ii_bool_str {s : List Nat} : pIsi .bool (.str s) = some (.bl false) := rfl
theorem ii_bool_tup {l : List D} : pIsi .bool (.tup l) = some (.bl false) := rfl
theorem ii_bool_lst {l : List D} : pIsi .bool (.lst l) = some (.bl false) := rfl
theorem ii_str_non  : pIsi .str .non = some (.bl false) := rfl
theorem ii_str_bl {b : Bool} : pIsi .str (.bl b) = some (.bl false) := rfl
theorem ii_str_int {i : Int} : pIsi .str (.int i) = some (.bl false) := rfl
theorem ii_str_str {s : List Nat} : pIsi .str (.str s) = some (.bl true) := rfl
theorem ii_str_tup {l : List D} : pIsi .str (.tup l) = some (.bl false) := rfl
theorem ii_str_lst {l : List D} : pIsi .str (.lst l) = some (.bl false) := rfl
theorem ii_tuple_non  : pIsi .tuple .non = some (.bl false) := rfl
theorem ii_tuple_bl {b : Bool} : pIsi .tuple (.bl b) = some (.bl false) := rfl
theorem ii_tuple_int {i : Int} : pIsi .tuple (.int i) = some (.bl false) := rfl
theorem ii_tuple_str {s : List Nat} : pIsi .tuple (.str s) = some (.bl false) := rfl
theorem ii_tuple_tup {l : List D} : pIsi .tuple (.tup l) = some (.bl true) := rfl
theorem ii_tuple_lst {l : List D} : pIsi .tuple (.lst l) = some (.bl false) := rfl
theorem ii_list_non  : pIsi .list .non = some (.bl false) := rfl
theorem ii_list_bl {b : Bool} : pIsi .list (.bl b) = some (.bl false) := rfl
theorem ii_list_int {i : Int} : pIsi .list (.int i) = some (.bl false) := rfl
theorem ii_list_str {s : List Nat} : pIsi .list (.str s) = some (.bl false) := rfl
theorem ii_list_tup {l : List D} : pIsi .list (.tup l) = some (.bl false) := rfl
theorem ii_list_lst {l : List D} : pIsi .list (.lst l) = some (.bl true) := rfl
theorem ii_dict_non  : pIsi .dict .non = some (.bl false) := rfl
theorem ii_dict_bl {b : Bool} : pIsi .dict (.bl b) = some (.bl false) := rfl
theorem ii_dict_int {i : Int} : pIsi .dict (.int i) = some (.bl false) := rfl
theorem ii_dict_str {s : List Nat} : pIsi .dict (.str s) = some (.bl false) := rfl
theorem ii_dict_tup {l : List D} : pIsi .dict (.tup l) = some (.bl false) := rfl
theorem ii_dict_lst {l : List D} : pIsi .dict (.lst l) = some (.bl false) := rfl
theorem isn_non  : pIs .non .non = some (.bl true) := rfl
theorem inn_non  : pIsNot .non .non = some (.bl false) := rfl
theorem isn_bl {b : Bool} : pIs (.bl b) .non = some (.bl false) := rfl
theorem inn_bl {b : Bool} : pIsNot (.bl b) .non = some (.bl true) := rfl
theorem isn_int {i : Int} : pIs (.int i) .non = some (.bl false) := rfl
theorem inn_int {i : Int} : pIsNot (.int i) .non = some (.bl true) := rfl
theorem isn_str {s : List Nat} : pIs (.str s) .non = some (.bl false) := rfl
theorem inn_str {s : List Nat} : pIsNot (.str s) .non = some (.bl true) := rfl
theorem isn_tup {l : List D} : pIs (.tup l) .non = some (.bl false) := rfl
theorem inn_tup {l : List D} : pIsNot (.tup l) .non = some (.bl true) := rfl
theorem isn_lst {l : List D} : pIs (.lst l) .non = some (.bl false) := rfl
theorem inn_lst {l : List D} : pIsNot (.lst l) .non = some (.bl true) := rfl
theorem isn_dct {l : List (D × D)} : pIs (.dct l) .non = some (.bl false) := rfl
theorem inn_dct {l : List (D × D)} : pIsNot (.dct l) .non = some (.bl true) := rfl
end
end Mi.P
end

section
/-! MiW: plain facts of words, lists of texts, sets, rows in order. -/
namespace Mi.P
def Good (c : Cup) : Prop := ∃ x y : Int, c = some (x, y) ∧ 0 ≤ x ∧ 0 ≤ y ∧ y < 2147483648
theorem ix_of {xs : List D} {r : Int} (h0 : 0 ≤ r) (h1 : r < xs.length) : ∃ d, d ∈ xs ∧ pIx (.lst xs) (.int r) = some d := by
  have hr : r.toNat < xs.length := by omega
  refine ⟨xs[r.toNat], List.getElem_mem _, ?_⟩
  simp [pIx, ixN, h0, h1, List.getElem?_eq_getElem hr]
theorem intsD_length : ∀ (lo : Int) (n : Nat), (intsD lo n).length = n
  | _, 0 => rfl
  | lo, n + 1 => by rw [intsD, List.length_cons, intsD_length]
def letters (l : List Nat) : List D := l.map fun c => .str [c]
theorem strs_letters : ∀ {qs : List D} {l : List Nat}, (∀ q ∈ qs, q ∈ letters l) → ∃ s : List Nat, strsD qs = some (s.map fun c => [c]) ∧ s.length = qs.length ∧ ∀ c ∈ s, c ∈ l
  | [], _, _ => ⟨[], rfl, rfl, fun _ h => by cases h⟩
  | q :: qs, l, h => by
    obtain ⟨s, e, hl, hm⟩ := strs_letters (qs := qs) fun z hz => h z (List.mem_cons_of_mem _ hz)
    obtain ⟨c, hc, rfl⟩ := List.mem_map.mp (h q (List.mem_cons_self ..))
    refine ⟨c :: s, ?_, by simp [hl], fun z hz => ?_⟩
    · show (strsD qs).map ([c] :: ·) = _
      rw [e]
      rfl
    · rcases List.mem_cons.mp hz with e | e
      · rw [e]; exact hc
      · exact hm z e
theorem join_ones : ∀ s : List Nat, joinS [] (s.map fun c => [c]) = s
  | [] => rfl
  | [x] => rfl
  | x :: y :: r => by
    show [x] ++ [] ++ joinS [] ((y :: r).map fun c => [c]) = _
    rw [join_ones (y :: r)]
    rfl
theorem sum_ones : ∀ s : List Nat, ((s.map fun c => [c]).map (·.length)).sum = s.length
  | [] => rfl
  | x :: s => by
    have ih := sum_ones s
    rw [List.map_map] at ih
    simp only [List.map_cons, List.sum_cons, List.length_cons, List.length_nil, List.map_map]
    omega
theorem join_str {qs : List D} {s : List Nat} (e : strsD qs = some (s.map fun c => [c])) (h : s.length ≤ line) : pJoin (.str []) (.lst qs) = some (.str s) := by
  show (strsD qs).bind _ = _
  rw [e]
  show (if _ then _ else _) = _
  rw [sum_ones, if_pos (by simpa using h), join_ones]
theorem gcd_loop : ∀ (fuel a b : Nat) (c : Cup), b < fuel → whL (tE (e2 pGt (eB 1) (eK (.int 0)))) (sPar2 0 false (eV 1) 1 false (e2 pMod (eB 0) (eB 1))) fuel [.sh (.int a), .sh (.int b)] c = .ok (.nx, [.sh (.int (Nat.gcd a b)), .sh (.int 0)], c)
  | 0, _, _, _, h => by omega
  | fuel + 1, a, b, c, h => by
    unfold whL
    by_cases q : 0 < b
    · have hb : (0 : Int) < (b : Int) := by omega
      have ih := gcd_loop fuel b (a % b) c (by have := Nat.mod_lt a q; omega)
      have e : Nat.gcd b (a % b) = Nat.gcd a b := by rw [Nat.gcd_comm a b, Nat.gcd_rec b a]; exact Nat.gcd_comm _ _
      rw [e] at ih
      have em : ((a % b : Nat) : Int) = (a : Int) % (b : Int) := by omega
      rw [em] at ih
      simp [pGt, pMod, truth, q, ih]
    · have hb : b = 0 := by omega
      subst hb
      simp [pGt, truth]
/-- the letters, read by steps -/
def starL (w : List Nat) (s : Nat) : List Nat := (List.range w.length).map fun k => w.getD (k * s % w.length) 0
theorem star_loop {w : List Nat} {s : Nat} {c : Cup} (hw : w ≠ []) (hw2 : w.length ≤ 12) : ∀ (ds : List D) (k : Nat), k + ds.length ≤ 12 → ∀ sl, ∃ sl', forL (gN 4) (sPar2 2 false (e2 pAdd (eB 2) (e2 pIx (eB 0) (eB 3))) 3 false (e2 pMod (e1 pInt (e2 pAdd (eB 3) (eB 1))) (e1 pLen (eB 0)))) ds
    [.sh (.str w), .sh (.int s), .sh (.str ((List.range k).map fun j => w.getD (j * s % w.length) 0)), .sh (.int ((k * s % w.length : Nat))), sl] c =
    .ok (.nx, [.sh (.str w), .sh (.int s), .sh (.str ((List.range (k + ds.length)).map fun j => w.getD (j * s % w.length) 0)), .sh (.int (((k + ds.length) * s % w.length : Nat))), sl'], c)
  | [], k, _, sl => ⟨sl, rfl⟩
  | d :: ds, k, h, sl => by
    have hl : 0 < w.length := List.length_pos_iff.mpr hw
    have hm := Nat.mod_lt (k * s) hl
    obtain ⟨sl', ih⟩ := star_loop (s := s) (c := c) hw hw2 ds (k + 1) (by rw [List.length_cons] at h; omega) (.sh d)
    refine ⟨sl', ?_⟩
    have e1 : k + 1 + ds.length = k + (d :: ds).length := by rw [List.length_cons]; omega
    rw [e1] at ih
    have hix : pIx (.str w) (.int ((k * s % w.length : Nat))) = some (.str [w.getD (k * s % w.length) 0]) := by
      have h1 : (0 : Int) ≤ ((k * s % w.length : Nat) : Int) := by omega
      have h2 : ((k * s % w.length : Nat) : Int) < (w.length : Int) := by omega
      have h3 : w.length ≤ line := by show _ ≤ 16777216; omega
      have h4 : ixN w.length ((k * s % w.length : Nat) : Int) = some (k * s % w.length) := by
        unfold ixN
        rw [if_pos h1, if_pos h2, Int.toNat_natCast]
      show (if w.length ≤ line then (ixN w.length ((k * s % w.length : Nat) : Int)).bind (fun j => (w[j]?).map fun c => D.str [c]) else none) = _
      rw [if_pos h3, h4]
      show (w[k * s % w.length]?).map _ = _
      rw [List.getD_eq_getElem?_getD, List.getElem?_eq_getElem hm]
      rfl
    have hadd : pAdd (.str ((List.range k).map fun j => w.getD (j * s % w.length) 0)) (.str [w.getD (k * s % w.length) 0]) = some (.str ((List.range (k + 1)).map fun j => w.getD (j * s % w.length) 0)) := by
      have h3 : ((List.range k).map fun j => w.getD (j * s % w.length) 0).length + 1 ≤ line := by
        rw [List.length_map, List.length_range]; show _ ≤ 16777216; rw [List.length_cons] at h; omega
      show (if _ then _ else _) = _
      rw [if_pos (by simpa using h3), List.range_succ, List.map_append]
      rfl
    have hmod : pMod (.int (((k * s % w.length : Nat) : Int) + s)) (.int w.length) = some (.int (((k + 1) * s % w.length : Nat))) := by
      show (if _ then _ else _) = _
      rw [if_pos (by omega)]
      have e : (k + 1) * s % w.length = (k * s % w.length + s) % w.length := by rw [Nat.succ_mul, Nat.mod_add_mod]
      rw [e]
      simp
    have h3 : w.length ≤ line := by show _ ≤ 16777216; omega
    unfold forL
    simp only [s_gN, s_par, s_e2, s_e1, s_eB]
    simp only [List.set_cons_succ, List.set_cons_zero, List.getElem?_cons_succ, List.getElem?_cons_zero, R.bind_ok]
    rw [hix]
    simp only [lift_some, R.bind_ok]
    rw [hadd]
    simp only [lift_some, R.bind_ok, pLen, h3, if_true]
    have hai : pAdd (.int ((k * s % w.length : Nat))) (.int s) = some (.int (((k * s % w.length : Nat) : Int) + s)) := rfl
    rw [hai]
    simp only [lift_some, R.bind_ok, pInt]
    rw [hmod]
    simp only [lift_some, R.bind_ok, Bool.false_eq_true, if_false]
    exact ih
theorem isi_str {w : List Nat} : pIsi .str (.str w) = some (.bl true) := rfl
def LETS : List Nat := [97, 98, 99, 100, 101, 102, 103, 104, 105, 106, 107, 108, 109, 110, 111, 112, 113, 114, 115, 116, 117, 118, 119, 120, 121, 122]
theorem in_lets0 : ∀ c ∈ LETS, hasSub [c] LETS = true := by decide +kernel
theorem in_lets (c : Nat) (h : c ∈ LETS) : pIn (.str [c]) (.str LETS) = some (.bl true) := by
  show some (D.bl (hasSub [c] LETS)) = _
  rw [in_lets0 c h]
theorem bools_true : ∀ {ds : List D}, (∀ d ∈ ds, d = .bl true) → toBools ds = some (List.replicate ds.length true)
  | [], _ => rfl
  | d :: ds, h => by
    rw [h d (List.mem_cons_self ..)]
    show (toBools ds).map (true :: ·) = _
    rw [bools_true fun z hz => h z (List.mem_cons_of_mem _ hz)]
    rfl
theorem all_true {ds : List D} (h : ∀ d ∈ ds, d = .bl true) : pAllB (.lst ds) = some (.bl true) := by
  show (toBools ds).map _ = _
  rw [bools_true h]
  simp
/-- a word: 1 to 12 letters -/
structure Word (w : List Nat) : Prop where
  l0 : 1 ≤ w.length
  l1 : w.length ≤ 12
  m : ∀ c ∈ w, c ∈ LETS
theorem Word.ne {w : List Nat} (h : Word w) : w ≠ [] := List.length_pos_iff.mp h.l0
theorem Word.line {w : List Nat} (h : Word w) : w.length ≤ line := by have := h.l1; show _ ≤ 16777216; omega
theorem small_of {i : Int} (h : -18446744073709551616 < i ∧ i < 18446744073709551616) : small i = true := by
  unfold small
  rw [Bool.and_eq_true, decide_eq_true_eq, decide_eq_true_eq]
  exact h
theorem mulN {k s : Nat} (h : k < 1000) : pMul (.int k) (.int s) = some (.int ((k * s : Nat))) := by
  have hs : small (k : Int) = true := small_of (by omega)
  have e : pMul (.int k) (.int s) = if (small (k : Int) || small (s : Int)) = true then some (D.int ((k : Int) * s)) else none := rfl
  rw [e, hs, Bool.true_or, if_pos rfl, Int.natCast_mul]
theorem modN {k n : Nat} (h : 0 < n) : pMod (.int k) (.int n) = some (.int ((k % n : Nat))) := by
  have e : pMod (.int k) (.int n) = if 0 < (n : Int) then some (D.int ((k : Int) % n)) else none := rfl
  rw [e, if_pos (by omega), Int.natCast_emod]
theorem ixS {w : List Nat} {k : Nat} (hl : w.length ≤ line) (h : k < w.length) : pIx (.str w) (.int k) = some (.str [w.getD k 0]) := by
  have e : pIx (.str w) (.int k) = if w.length ≤ line then (ixN w.length (k : Int)).bind (fun j => (w[j]?).map fun c => D.str [c]) else none := rfl
  have h4 : ixN w.length (k : Int) = some k := by
    unfold ixN
    rw [if_pos (by omega), if_pos (by omega), Int.toNat_natCast]
  rw [e, if_pos hl, h4, Option.bind_some, List.getD_eq_getElem?_getD, List.getElem?_eq_getElem h]
  rfl
theorem lenS {w : List Nat} (hl : w.length ≤ line) : pLen (.str w) = some (.int w.length) := by
  have e : pLen (.str w) = if w.length ≤ line then some (.int w.length) else none := rfl
  rw [e, if_pos hl]
def ones (s : List Nat) : List D := s.map fun c => .str [c]
theorem strs_ones : ∀ t : List Nat, strsD (ones t) = some (t.map fun c => [c])
  | [] => rfl
  | x :: t => by
    have e : strsD (ones (x :: t)) = (strsD (ones t)).map ([x] :: ·) := rfl
    rw [e, strs_ones t]
    rfl
theorem join_ones12 {t : List Nat} (h : t.length ≤ 12) : pJoin (.str []) (.lst (ones t)) = some (.str t) := join_str (strs_ones t) (Nat.le_trans h (by decide))
theorem fit12 {l : List D} {c : Cup} (h : l.length ≤ 60) : fit (.ok (l, c)) = .ok (l, c) := fit_of (q := (l, c)) (Nat.le_trans h (by decide))
theorem starL_len (w : List Nat) (s : Nat) : (starL w s).length = w.length := by simp [starL]
theorem ones_len (w : List Nat) : (ones w).length = w.length := by simp [ones]
/-- the comprehension of star_text: e1 holds the word, e2 the step, e3 the length -/
theorem pick_ok {w : List Nat} (h : Word w) {s : Nat} {a : EV} {ρ : Env} {i : Nat} {c : Cup} (ha : ∀ k : Nat, k < w.length → a (ρ.set i (.sh (.int k))) c = .ok (.str [w.getD (k * s % w.length) 0], c)) : lcL (gN i) tT a ρ (intsD 0 w.length) c = .ok (ones (starL w s), c) := by
  have e := lc_all (g := gN i) (a := a) (f := fInt fun i => .str [w.getD (i.toNat * s % w.length) 0]) (ρ := ρ) (c := c) (ds := intsD 0 w.length) fun x hx => by
    obtain ⟨k, hk, rfl⟩ := intsD_mem hx
    rw [Int.zero_add]
    exact ⟨_, rfl, ha k hk⟩
  rw [e, intsD_map (f := fun i => D.str [w.getD (i.toNat * s % w.length) 0]), ones, starL, List.map_map]
  have : ∀ k : Nat, ((0 : Int) + k).toNat = k := fun k => by omega
  simp only [this]
  rfl
/-! star_back: the inverse step. -/
theorem mod_inv {n s t j : Nat} (ht : s * t % n = 1 % n) (hj : j < n) : (j * s % n) * t % n = j := by
  rw [Nat.mod_mul_mod, Nat.mul_assoc, Nat.mul_mod, ht, ← Nat.mul_mod, Nat.mul_one, Nat.mod_eq_of_lt hj]
theorem starL_get {w : List Nat} {s k : Nat} (hk : k < w.length) : (starL w s).getD k 0 = w.getD (k * s % w.length) 0 := by
  rw [List.getD_eq_getElem?_getD, List.getD_eq_getElem?_getD, starL, List.getElem?_map, List.getElem?_range hk]
  have : k * s % w.length < w.length := Nat.mod_lt _ (by omega)
  simp [List.getElem?_eq_getElem this]
theorem starL_star (w : List Nat) (s t : Nat) : starL (starL w s) t = starL w (s * t) := by
  have e : starL (starL w s) t = (List.range w.length).map fun k => (starL w s).getD (k * t % w.length) 0 := by
    conv => lhs; unfold starL
    rw [List.length_map, List.length_range]
    rfl
  rw [e]
  conv => rhs; unfold starL
  apply List.map_congr_left
  intro k hk
  have hk := List.mem_range.mp hk
  have : k * t % w.length < w.length := Nat.mod_lt _ (by omega)
  rw [starL_get this, Nat.mod_mul_mod, Nat.mul_assoc, Nat.mul_comm t s]
theorem starL_mod (w : List Nat) {s t : Nat} (h : s % w.length = t % w.length) : starL w s = starL w t := by
  unfold starL
  apply List.map_congr_left
  intro k _
  rw [Nat.mul_mod k s, h, ← Nat.mul_mod]
theorem starL_one (w : List Nat) : starL w 1 = w := by
  apply List.ext_getElem?
  intro k
  by_cases q : k < w.length
  · have e := starL_get (s := 1) q
    rw [Nat.mul_one, Nat.mod_eq_of_lt q, List.getD_eq_getElem?_getD, List.getD_eq_getElem?_getD, List.getElem?_eq_getElem q, List.getElem?_eq_getElem (by rw [starL_len]; exact q)] at e
    rw [List.getElem?_eq_getElem q, List.getElem?_eq_getElem (by rw [starL_len]; exact q)]
    exact congrArg some e
  · rw [List.getElem?_eq_none (by rw [starL_len]; omega), List.getElem?_eq_none (by omega)]
theorem inv_step : ∀ n : Nat, n < 13 → ∀ s : Nat, s < 13 → 1 ≤ n → Nat.gcd n s = 1 → ∃ t : Nat, t < 13 ∧ 1 ≤ t ∧ Nat.gcd n t = 1 ∧ s * t % n = 1 % n := by decide +kernel
theorem starL_inv {w : List Nat} {s t : Nat} (ht : s * t % w.length = 1 % w.length) : starL (starL w s) t = w := by
  rw [starL_star, starL_mod w ht, starL_one]
theorem word_star {w : List Nat} (h : Word w) (s : Nat) : Word (starL w s) := by
  refine ⟨by rw [starL_len]; exact h.l0, by rw [starL_len]; exact h.l1, fun c hc => ?_⟩
  obtain ⟨k, hk, rfl⟩ := List.mem_map.mp hc
  have hk := List.mem_range.mp hk
  have : k * s % w.length < w.length := Nat.mod_lt _ (by omega)
  apply h.m
  rw [List.getD_eq_getElem?_getD, List.getElem?_eq_getElem this]
  exact List.getElem_mem _
/-- the loop of star_back -/
theorem back_loop {w : List Nat} (h : Word w) {s t : Nat} (ht : s * t % w.length = 1 % w.length) {c : Cup} : ∀ (r : List Nat) (k : Nat) (L : List D) (a b : Sl), k + r.length = w.length → (∀ i, r[i]? = w[k + i]?) → L.length = w.length → (∀ j, j < k → L[j * s % w.length]? = some (.str [w.getD j 0])) → ∃ L' x y, forL (gT [gN 3, gN 4]) (sSet 2 (e2 pMod (e2 pMul (eB 3) (eB 1)) (e1 pLen (eB 0))) (eV 4)) (enumD (k : Int) (ones r)) [.sh (.str w), .sh (.int s), .ow (.lst L), a, b] c = .ok (.nx, [.sh (.str w), .sh (.int s), .ow (.lst L'), x, y], c) ∧ L'.length = w.length ∧ ∀ j, j < w.length → L'[j * s % w.length]? = some (.str [w.getD j 0])
  | [], k, L, a, b, h1, _, h3, h4 => ⟨L, a, b, rfl, h3, fun j hj => h4 j (by simpa using (show j < k by simp at h1; omega))⟩
  | x :: r, k, L, a, b, h1, h2, h3, h4 => by
    rw [List.length_cons] at h1
    have hk : k < w.length := by omega
    have hm : k * s % w.length < w.length := Nat.mod_lt _ (by omega)
    have hx : x = w.getD k 0 := by
      have e := h2 0
      rw [Nat.add_zero, List.getElem?_cons_zero] at e
      rw [List.getD_eq_getElem?_getD, ← e]
      rfl
    obtain ⟨L', p, q, e, hl, hs⟩ := back_loop h ht (c := c) r (k + 1) (L.set (k * s % w.length) (.str [x])) (.sh (.int k)) (.sh (.str [x])) (by omega) (fun i => by have e := h2 (i + 1); rw [List.getElem?_cons_succ] at e; rw [e]; congr 1; omega) (by rw [List.length_set]; exact h3) (fun j hj => by
      rw [List.getElem?_set]
      by_cases q : k * s % w.length = j * s % w.length
      · have := mod_inv ht hk
        rw [q, mod_inv ht (by omega)] at this
        rw [if_pos q, if_pos (by omega), this, hx]
      · rw [if_neg q]
        have : j ≠ k := fun z => q (by rw [z])
        exact h4 j (by omega))
    refine ⟨L', p, q, ?_, hl, hs⟩
    have hset : setD (.lst L) (.int ((k * s % w.length : Nat))) (.str [x]) = some (.lst (L.set (k * s % w.length) (.str [x]))) := by
      have e : setD (.lst L) (.int ((k * s % w.length : Nat))) (.str [x]) = (ixN L.length ((k * s % w.length : Nat) : Int)).map fun j => .lst (L.set j (.str [x])) := rfl
      have h4 : ixN L.length ((k * s % w.length : Nat) : Int) = some (k * s % w.length) := by
        unfold ixN
        rw [if_pos (by omega), if_pos (by omega), Int.toNat_natCast]
      rw [e, h4]
      rfl
    have one : sSet 2 (e2 pMod (e2 pMul (eB 3) (eB 1)) (e1 pLen (eB 0))) (eV 4) [.sh (.str w), .sh (.int s), .ow (.lst L), .sh (.int k), .sh (.str [x])] c = .ok (.nx, [.sh (.str w), .sh (.int s), .ow (.lst (L.set (k * s % w.length) (.str [x]))), .sh (.int k), .sh (.str [x])], c) :=
      v_set rfl (v_V rfl) (v_2 (v_2 (v_B rfl) (v_B rfl) (mulN (by have := h.l1; omega))) (v_1 (v_B rfl) (lenS h.line)) (modN (by omega))) hset
    have he : enumD (k : Int) (ones (x :: r)) = .tup [.int k, .str [x]] :: enumD ((k + 1 : Nat) : Int) (ones r) := rfl
    rw [he]
    exact v_forS rfl one e
def stepsN (n : Nat) : List Nat := ((List.range 12).map (· + 1)).filter fun s => Nat.gcd n s == 1
def intsL (l : List Nat) : List D := l.map fun s => .int (Int.ofNat s)
theorem steps_mem {n s : Nat} : s ∈ stepsN n ↔ 1 ≤ s ∧ s ≤ 12 ∧ Nat.gcd n s = 1 := by
  unfold stepsN
  simp only [List.mem_filter, List.mem_map, List.mem_range, beq_iff_eq]
  constructor
  · rintro ⟨⟨a, h1, rfl⟩, h2⟩
    exact ⟨by omega, by omega, h2⟩
  · rintro ⟨h1, h2, h3⟩
    exact ⟨⟨s - 1, by omega, by omega⟩, h3⟩
theorem steps_ne (n : Nat) : intsL (stepsN n) ≠ [] := by
  have : 1 ∈ stepsN n := steps_mem.mpr ⟨by omega, by omega, Nat.gcd_one_right n⟩
  intro h
  have : stepsN n = [] := List.map_eq_nil_iff.mp h
  simp_all
theorem steps_len (n : Nat) : (intsL (stepsN n)).length ≤ 12 := by
  rw [intsL, List.length_map]
  exact Nat.le_trans (List.length_filter_le _ _) (by simp)
abbrev T := List Nat
def S (l : List T) : List D := l.map .str
theorem S_len (l : List T) : (S l).length = l.length := List.length_map ..
theorem S_plain : ∀ l, plains (S l) = true
  | [] => rfl
  | x :: l => by
    have e : plains (S (x :: l)) = (plain (.str x) && plains (S l)) := rfl
    rw [e, S_plain l]
    rfl
theorem S_dep : ∀ l, deps (S l) ≤ 2
  | [] => by decide
  | x :: l => by
    have ih := S_dep l
    simp only [S, List.map_cons, deps, dep] at *
    omega
theorem S_flats (l : List T) : flats (S l) = true := by
  unfold flats
  rw [S_plain, Bool.true_and, decide_eq_true_eq]
  have := S_dep l
  omega
theorem flat_str (x : T) : flat (.str x) = true := by
  simp [flat, plain, dep]
theorem eqB_str (x y : T) : eqB (.str x) (.str y) = decide (x = y) := by simp [eqB]
theorem anyEq_S (x : T) : ∀ l, anyEq (.str x) (S l) = decide (x ∈ l)
  | [] => by simp [S, anyEq]
  | y :: l => by
    have e : anyEq (.str x) (S (y :: l)) = (eqB (.str y) (.str x) || anyEq (.str x) (S l)) := rfl
    rw [e, anyEq_S x l, eqB_str, ← Bool.decide_or]
    congr 1
    rw [List.mem_cons, @eq_comm _ x y]
theorem in_S (x : T) (l : List T) : pIn (.str x) (.lst (S l)) = some (.bl (decide (x ∈ l))) := by
  have e : pIn (.str x) (.lst (S l)) = if flat (.str x) && flats (S l) then some (.bl (anyEq (.str x) (S l))) else none := rfl
  rw [e, flat_str, S_flats, anyEq_S]
  rfl
theorem lt_trans : ∀ {a b c : T}, ltS a b = true → ltS b c = true → ltS a c = true
  | a, [], _, h, _ => by cases a <;> simp [ltS] at h
  | a, _ :: _, [], _, h => by simp [ltS] at h
  | [], y :: b, z :: c, _, _ => rfl
  | x :: a, y :: b, z :: c, h1, h2 => by
    unfold ltS at h1 h2 ⊢
    split at h1
    · split at h2
      · rw [if_pos (by omega)]
      · split at h2
        · cases h2
        · rw [if_pos (by omega)]
    · split at h1
      · cases h1
      · split at h2
        · rw [if_pos (by omega)]
        · split at h2
          · cases h2
          · rw [if_neg (by omega), if_neg (by omega)]
            exact lt_trans h1 h2
theorem lt_tri : ∀ {a b : T}, ltS a b = false → b ≠ a → ltS b a = true
  | [], [], _, h => absurd rfl h
  | [], _ :: _, h, _ => by simp [ltS] at h
  | _ :: _, [], _, _ => rfl
  | x :: a, y :: b, h, h2 => by
    unfold ltS at h ⊢
    by_cases q : x < y
    · rw [if_pos q] at h; cases h
    · rw [if_neg q] at h
      by_cases q2 : y < x
      · rw [if_pos q2]
      · rw [if_neg q2] at h
        rw [if_neg q2, if_neg q]
        exact lt_tri h fun e => h2 (by rw [e, show y = x by omega])
def onceL : List T → List T
  | [] => []
  | x :: xs => x :: (onceL xs).filter fun y => !decide (x = y)
def insL (x : T) : List T → List T
  | [] => [x]
  | y :: ys => if ltS y x then y :: insL x ys else x :: y :: ys
def sortL : List T → List T
  | [] => []
  | x :: xs => insL x (sortL xs)
theorem once_S : ∀ l, once (S l) = S (onceL l)
  | [] => rfl
  | x :: l => by
    have e : once (S (x :: l)) = .str x :: (once (S l)).filter fun y => !eqB (.str x) y := rfl
    rw [e, once_S l, S, List.filter_map]
    have : ((fun y => !eqB (D.str x) y) ∘ D.str) = fun y => !decide (x = y) := by
      funext y
      simp [eqB_str]
    rw [this]
    rfl
theorem ins_S (x : T) : ∀ l, ins (.str x) (S l) = S (insL x l)
  | [] => rfl
  | y :: l => by
    have e : ins (.str x) (S (y :: l)) = if ltB (.str y) (.str x) then .str y :: ins (.str x) (S l) else .str x :: .str y :: S l := rfl
    have e2 : ltB (.str y) (.str x) = ltS y x := by simp [ltB]
    rw [e, e2, ins_S x l, insL]
    cases ltS y x <;> rfl
theorem sort_S : ∀ l, isort (S l) = S (sortL l)
  | [] => rfl
  | x :: l => by
    have e : isort (S (x :: l)) = ins (.str x) (isort (S l)) := rfl
    rw [e, sort_S l, ins_S]
    rfl
theorem once_mem {x : T} : ∀ {l : List T}, x ∈ onceL l ↔ x ∈ l
  | [] => Iff.rfl
  | y :: l => by
    rw [onceL, List.mem_cons, List.mem_filter, once_mem, List.mem_cons]
    by_cases q : x = y
    · simp [q]
    · simp [q, Ne.symm q]
theorem once_nodup : ∀ l : List T, (onceL l).Nodup
  | [] => List.nodup_nil
  | x :: l => by
    rw [onceL, List.nodup_cons]
    exact ⟨by simp, (once_nodup l).filter _⟩
theorem once_len : ∀ l : List T, (onceL l).length ≤ l.length
  | [] => Nat.le_refl _
  | x :: l => by
    have := once_len l
    have := List.length_filter_le (fun y => !decide (x = y)) (onceL l)
    simp only [onceL, List.length_cons]
    omega
theorem ins_mem {x y : T} : ∀ {l : List T}, x ∈ insL y l ↔ x = y ∨ x ∈ l
  | [] => by simp [insL]
  | z :: l => by
    rw [insL]
    split
    · rw [List.mem_cons, ins_mem, List.mem_cons]
      constructor <;> rintro (h | h | h) <;> simp [h]
    · simp
theorem ins_len (y : T) : ∀ l : List T, (insL y l).length = l.length + 1
  | [] => rfl
  | z :: l => by
    rw [insL]
    split
    · rw [List.length_cons, ins_len, List.length_cons]
    · rfl
theorem sort_mem {x : T} : ∀ {l : List T}, x ∈ sortL l ↔ x ∈ l
  | [] => Iff.rfl
  | y :: l => by rw [sortL, ins_mem, sort_mem, List.mem_cons]
theorem sort_len : ∀ l : List T, (sortL l).length = l.length
  | [] => rfl
  | y :: l => by rw [sortL, ins_len, sort_len, List.length_cons]
def Rise (l : List T) : Prop := l.Pairwise fun a b => ltS a b = true
theorem ins_rise {x : T} : ∀ {l : List T}, Rise l → x ∉ l → Rise (insL x l)
  | [], _, _ => List.pairwise_singleton _ _
  | y :: l, h, hx => by
    obtain ⟨h1, h2⟩ := List.pairwise_cons.mp h
    rw [insL]
    split
    · rename_i q
      refine List.pairwise_cons.mpr ⟨fun z hz => ?_, ins_rise h2 fun hz => hx (List.mem_cons_of_mem _ hz)⟩
      rcases ins_mem.mp hz with e | e
      · rw [e]; exact q
      · exact h1 z e
    · rename_i q
      have q2 : ltS x y = true := lt_tri (by simpa using q) fun e => hx (by rw [e]; exact List.mem_cons_self ..)
      refine List.pairwise_cons.mpr ⟨fun z hz => ?_, h⟩
      rcases List.mem_cons.mp hz with e | e
      · rw [e]; exact q2
      · exact lt_trans q2 (h1 z e)
theorem sort_rise : ∀ {l : List T}, l.Nodup → Rise (sortL l)
  | [], _ => List.Pairwise.nil
  | x :: l, h => by
    obtain ⟨h1, h2⟩ := List.nodup_cons.mp h
    exact ins_rise (sort_rise h2) fun z => h1 (sort_mem.mp z)
theorem uni_S (l : List T) : uni (S l) = true := by
  unfold uni
  have : (S l).all isStr = true := by
    rw [List.all_eq_true]
    intro x hx
    obtain ⟨y, _, rfl⟩ := List.mem_map.mp hx
    rfl
  rw [this, Bool.true_or]
/-- the set of texts, in order -/
theorem set_S {l : List T} (h : l.length ≤ 4000) : ∃ l', pSetS (.lst (S l)) = some (.lst (S l')) ∧ Rise l' ∧ (∀ x, x ∈ l' ↔ x ∈ l) ∧ l'.length ≤ l.length := by
  refine ⟨sortL (onceL l), ?_, sort_rise (once_nodup l), fun x => by rw [sort_mem, once_mem], by rw [sort_len]; exact once_len l⟩
  have e : pSetS (.lst (S l)) = if uni (S l) && decide ((S l).length ≤ 4000) then some (.lst (isort (once (S l)))) else none := rfl
  rw [e, uni_S, S_len, decide_eq_true h, once_S, sort_S]
  rfl
theorem eq_str (a : T) : pEq (.str a) (.str a) = some (.bl true) := by
  have e : pEq (.str a) (.str a) = if flat (.str a) && flat (.str a) then some (.bl (eqB (.str a) (.str a))) else none := rfl
  rw [e, flat_str, eqB_str, decide_eq_true rfl]
  rfl
theorem v_or0 {t u : TV} {ρ : Env} {c c1 : Cup} {q : R (Bool × Cup)} (ht : t ρ c = .ok (false, c1)) (hu : u ρ c1 = q) : tOr t u ρ c = q := by rw [s_tOr, ht, R.bind_ok]; exact hu
theorem v_nt {t : TV} {ρ : Env} {c c1 : Cup} (ha : t ρ c = .ok (true, c1)) : tNot t ρ c = .ok (false, c1) := by rw [s_tNot, ha, R.bind_ok]; rfl
theorem v_nf {t : TV} {ρ : Env} {c c1 : Cup} (ha : t ρ c = .ok (false, c1)) : tNot t ρ c = .ok (true, c1) := by rw [s_tNot, ha, R.bind_ok]; rfl
theorem ixT {xs : List D} {k : Nat} (h : k < xs.length) : pIx (.tup xs) (.int k) = some (xs[k]) := by
  have e : pIx (.tup xs) (.int k) = (ixN xs.length (k : Int)).bind fun j => xs[j]? := rfl
  have h4 : ixN xs.length (k : Int) = some k := by
    unfold ixN
    rw [if_pos (by omega), if_pos (by omega), Int.toNat_natCast]
  rw [e, h4, Option.bind_some, List.getElem?_eq_getElem h]
theorem dput_keys {kvs : List (D × D)} {ks : List T} {s : T} {v : D} (h : kvs.map (·.1) = S ks) : ∃ ks', (dput kvs (.str s) v).map (·.1) = S ks' ∧ (∀ x ∈ ks', x = s ∨ x ∈ ks) ∧ ks'.length ≤ ks.length + 1 := by
  unfold dput
  split
  · refine ⟨ks, ?_, fun x hx => .inr hx, by omega⟩
    rw [List.map_map, ← h]
    apply List.map_congr_left
    intro p _
    show (if _ then _ else _ : D × D).1 = _
    split <;> rfl
  · refine ⟨ks ++ [s], ?_, fun x hx => ?_, by simp⟩
    · rw [List.map_append, h, S, S, List.map_append]; rfl
    · rcases List.mem_append.mp hx with e | e
      · exact .inr e
      · exact .inl (List.mem_singleton.mp e)
theorem alike_S : ∀ l : List T, allAlike (S l) = true
  | [] => rfl
  | x :: l => by
    have e : allAlike (S (x :: l)) = (alike (.str x) (.str x) && (S l).all (fun y => alike (.str x) y && alike y (.str x)) && allAlike (S l)) := rfl
    have e2 : ∀ y : T, alike (.str x) (.str y) = true := fun y => by simp [alike]
    have e3 : ∀ y : T, alike (.str y) (.str x) = true := fun y => by simp [alike]
    have e4 : (S l).all (fun y => alike (.str x) y && alike y (.str x)) = true := by
      rw [List.all_eq_true]
      intro y hy
      obtain ⟨z, _, rfl⟩ := List.mem_map.mp hy
      rw [e2, e3]
      rfl
    rw [e, e2, e4, alike_S l]
    rfl
theorem noTup_S (l : List T) : (S l).all noTup = true := by
  rw [List.all_eq_true]
  intro y hy
  obtain ⟨z, _, rfl⟩ := List.mem_map.mp hy
  rfl
theorem sorted_S {x : D} {l : List T} (h : items x = some (S l)) (hl : l.length ≤ 4000) : pSorted x = some (.lst (S (sortL l))) := by
  have e : pSorted x = (items x).bind fun xs => if flats xs && allAlike xs && (xs.all noTup || xs.all isTup1) && decide (xs.length ≤ line) then some (.lst (isort xs)) else none := rfl
  have hq : (S l).length ≤ line := by rw [S_len]; exact Nat.le_trans hl (by decide)
  rw [e, h, Option.bind_some, S_flats, alike_S, noTup_S, decide_eq_true hq, sort_S]
  rfl
theorem tuple_S {l : List T} (hl : l.length ≤ 4000) : pTuple (.lst (S l)) = some (.tup (S l)) := by
  have e : pTuple (.lst (S l)) = if (S l).length ≤ line then some (.tup (S l)) else none := rfl
  rw [e, if_pos (by rw [S_len]; exact Nat.le_trans hl (by decide))]
theorem v_chn {f g : D → D → Option D} {a b e : EV} {ρ : Env} {c c1 c2 c3 : Cup} {x y z r : D} (ha : a ρ c = .ok (x, c1)) (hb : b ρ c1 = .ok (y, c2)) (hf : f x y = some (.bl true)) (he : e ρ c2 = .ok (z, c3)) (hg : g y z = some r) : eChn f g a b e ρ c = .ok (r, c3) := by
  rw [s_eChn, ha, R.bind_ok, hb, R.bind_ok, hf]
  show (e ρ c2).bind _ = _
  rw [he, R.bind_ok, hg, lift_some]
theorem le_true {i j : Int} (h : i ≤ j) : pLe (.int i) (.int j) = some (.bl true) := by
  have e : pLe (.int i) (.int j) = some (.bl (decide (i ≤ j))) := rfl
  rw [e, decide_eq_true h]
theorem zip_rise : ∀ {ws : List T}, Rise ws → ∀ d ∈ zipD (S ws) (S ws.tail), ∃ a b, d = .tup [.str a, .str b] ∧ ltS a b = true
  | [], _, d, h => by cases h
  | [_], _, d, h => by cases h
  | x :: y :: r, h, d, hd => by
    obtain ⟨h1, h2⟩ := List.pairwise_cons.mp h
    rcases List.mem_cons.mp (show d ∈ .tup [.str x, .str y] :: zipD (S (y :: r)) (S r) from hd) with e | e
    · exact ⟨x, y, e, h1 y (List.mem_cons_self ..)⟩
    · exact zip_rise h2 d e
theorem cut_tail (xs : List D) : cut xs (some 1) none = xs.tail := by
  cases xs with
  | nil => rfl
  | cons x xs =>
    have e : sIx (x :: xs).length 1 = 1 := by
      unfold sIx
      rw [List.length_cons]
      split <;> omega
    have e2 : cut (x :: xs) (some 1) none = ((x :: xs).drop (sIx (x :: xs).length 1)).take ((x :: xs).length - sIx (x :: xs).length 1) := rfl
    rw [e2, e, List.length_cons, Nat.add_sub_cancel, List.drop_one, List.tail_cons, List.take_length]
theorem zip_len : ∀ (a b : List D), (zipD a b).length ≤ a.length
  | [], _ => by simp [zipD]
  | x :: a, [] => by simp [zipD]
  | x :: a, y :: b => by
    have := zip_len a b
    simp only [zipD, List.length_cons]
    omega
theorem v_zip {a b : EV} {ρ : Env} {c c1 c2 : Cup} {x y : D} {xs ys : List D} (ha : a ρ c = .ok (x, c1)) (hb : b ρ c1 = .ok (y, c2)) (hx : seqI x = some xs) (hy : seqI y = some ys) : iZip a b ρ c = .ok (zipD xs ys, c2) := by
  rw [s_iZip, ha, R.bind_ok, hb, R.bind_ok, hx, hy]
theorem v_sl {a : EV} {lo hi : Option EV} {ρ : Env} {c c1 c2 c3 : Cup} {x z : D} {p q : Option Int} (ha : a ρ c = .ok (x, c1)) (h1 : oE lo ρ c1 = .ok (p, c2)) (h2 : oE hi ρ c2 = .ok (q, c3)) (h : pSl x p q = some z) : eSl a lo hi ρ c = .ok (z, c3) := by
  rw [s_eSl, ha, R.bind_ok, h1, R.bind_ok, h2, R.bind_ok, h, lift_some]
theorem intsD_eq {lo : Int} : ∀ {n : Nat}, intsD lo n = (List.range n).map fun k : Nat => .int (lo + (k : Int)) := by
  intro n
  induction n generalizing lo with
  | zero => rfl
  | succ n ih =>
    show D.int lo :: intsD (lo + 1) n = _
    rw [ih, List.range_succ_eq_map, List.map_cons, List.map_map]
    congr 1
    · simp
    · apply List.map_congr_left
      intro k _
      show D.int (lo + 1 + k) = D.int (lo + ((k + 1 : Nat) : Int))
      congr 1
      omega
def stepsB (n : Nat) : List Nat := ((List.range n).map (· + 1)).filter fun s => decide (Nat.gcd n s = 1)
theorem eq_int (i j : Int) : pEq (.int i) (.int j) = some (.bl (decide (i = j))) := by simp [pEq, flat, plain, dep, eqB]
theorem step_low : ∀ n : Nat, n < 13 → ∀ s : Nat, s < 13 → 1 ≤ n ∧ Nat.gcd n s = 1 → ∃ s' : Nat, s' < 13 ∧ (1 ≤ s' ∧ s' ≤ n ∧ Nat.gcd n s' = 1 ∧ s' % n = s % n) := by decide +kernel
theorem stepsB_mem {n s : Nat} : s ∈ stepsB n ↔ 1 ≤ s ∧ s ≤ n ∧ Nat.gcd n s = 1 := by
  unfold stepsB
  simp only [List.mem_filter, List.mem_map, List.mem_range, decide_eq_true_eq]
  constructor
  · rintro ⟨⟨a, h1, rfl⟩, h2⟩
    exact ⟨by omega, by omega, h2⟩
  · rintro ⟨h1, h2, h3⟩
    exact ⟨⟨s - 1, by omega, by omega⟩, h3⟩
theorem stars_same {w : T} (h : Word w) (x : T) : x ∈ (stepsB w.length).map (starL w) ↔ x ∈ (stepsN w.length).map (starL w) := by
  have l0 := h.l0
  have l1 := h.l1
  constructor
  · intro hx
    obtain ⟨s, hs, rfl⟩ := List.mem_map.mp hx
    obtain ⟨a, b, g⟩ := stepsB_mem.mp hs
    exact List.mem_map.mpr ⟨s, steps_mem.mpr ⟨a, by omega, g⟩, rfl⟩
  · intro hx
    obtain ⟨s, hs, rfl⟩ := List.mem_map.mp hx
    obtain ⟨a, b, g⟩ := steps_mem.mp hs
    obtain ⟨s', _, q1, q2, q3, q4⟩ := step_low w.length (by omega) s (by omega) ⟨l0, g⟩
    exact List.mem_map.mpr ⟨s', stepsB_mem.mpr ⟨q1, q2, q3⟩, starL_mod w q4⟩
theorem filter_S {ws : List T} {p : T → Bool} : (S ws).filter (fun | .str x => p x | _ => false) = S (ws.filter p) := by
  rw [S, S, List.filter_map]
  rfl
/-- the words that are among the stars -/
theorem pick_S {ws stars : List T} {i j : Nat} {ρ : Env} {c : Cup} {a : EV} (ha : ∀ x, a (ρ.set i (.sh (.str x))) c = .ok (.lst (S stars), c)) (hi : i < ρ.length) : lcL (gN i) (tE (e2 pIn (eB i) a)) (eV i) ρ (S ws) c = .ok (S (ws.filter fun x => decide (x ∈ stars)), c) := by
  have e := lc_map (g := gN i) (t := tE (e2 pIn (eB i) a)) (a := eV i) (f := id) (p := fun | .str x => decide (x ∈ stars) | _ => false) (ρ := ρ) (c := c) (ds := S ws) fun x hx => by
    obtain ⟨y, _, rfl⟩ := List.mem_map.mp hx
    have g := List.getElem?_set_self (l := ρ) (a := Sl.sh (.str y)) hi
    exact ⟨_, rfl, v_tE (v_2 (v_B g) (ha y) (in_S y stars)) rfl, fun _ => v_V g⟩
  rw [e, List.map_id, filter_S]
theorem v_oE {a : EV} {ρ : Env} {c c1 : Cup} {i : Int} (ha : a ρ c = .ok (.int i, c1)) : oE (some a) ρ c = .ok (some i, c1) := by rw [s_oE1, ha, R.bind_ok]
theorem cut_S (l : List T) (lo hi : Option Int) : ∃ l', cut (S l) lo hi = S l' ∧ (∀ x ∈ l', x ∈ l) ∧ l'.length ≤ l.length := by
  refine ⟨(l.drop ((lo.map (sIx (S l).length)).getD 0)).take ((hi.map (sIx (S l).length)).getD (S l).length - (lo.map (sIx (S l).length)).getD 0), ?_, fun x hx => List.mem_of_mem_drop (List.mem_of_mem_take hx), ?_⟩
  · rw [S, S, List.map_take, List.map_drop]
    rfl
  · rw [List.length_take, List.length_drop]
    omega
theorem cat_S {a b : List T} (h : a.length + b.length ≤ 4000) : pAdd (.lst (S a)) (.lst (S b)) = some (.lst (S (a ++ b))) := by
  have e : pAdd (.lst (S a)) (.lst (S b)) = if (S a).length + (S b).length ≤ line then some (.lst (S a ++ S b)) else none := rfl
  rw [e, S_len, S_len, if_pos (Nat.le_trans h (by decide)), S, S, S, List.map_append]
theorem list_S {l : List T} (h : l.length ≤ 4000) : pList (.tup (S l)) = some (.lst (S l)) := by
  have e : pList (.tup (S l)) = if (S l).length ≤ line then some (.lst (S l)) else none := rfl
  rw [e, if_pos (by rw [S_len]; exact Nat.le_trans h (by decide))]
theorem rev_str {w : T} (h : w.length ≤ line) : pRev (.str w) = some (.str w.reverse) := by
  have e : pRev (.str w) = if w.length ≤ line then some (.str w.reverse) else none := rfl
  rw [e, if_pos h]
theorem word_rev {w : T} (h : Word w) : Word w.reverse := ⟨by rw [List.length_reverse]; exact h.l0, by rw [List.length_reverse]; exact h.l1, fun c hc => h.m c (List.mem_reverse.mp hc)⟩
theorem ne_str (a : T) : pNe (.str a) (.str a) = some (.bl false) := by
  have e : pNe (.str a) (.str a) = if flat (.str a) && flat (.str a) then some (.bl (!eqB (.str a) (.str a))) else none := rfl
  rw [e, flat_str, eqB_str, decide_eq_true rfl]
  rfl
def ABC : T := [97, 98, 99, 100, 101, 102, 103, 104, 105, 106, 107, 108]
theorem abc_fin : ∀ n : Nat, n < 13 → 2 ≤ n → ((ABC.take n).length = n ∧ Nat.gcd n (n - 1) = 1 ∧ starL (ABC.take n) (n - 1) = (ABC.take n).take 1 ++ ((ABC.take n).drop 1).reverse) ∧ ∀ x ∈ ABC.take n, x ∈ LETS := by decide +kernel
theorem star_a : starL [97] 12 = [97] := by decide +kernel
theorem word_a : Word [97] := ⟨by decide, by decide, by decide⟩
theorem cut_to (w : T) (k : Nat) : cut w none (some (k : Int)) = w.take k := by
  have e : sIx w.length (k : Int) = min k w.length := by
    unfold sIx
    rw [if_pos (by omega), Int.toNat_natCast]
  have e2 : cut w none (some (k : Int)) = (w.drop 0).take (sIx w.length (k : Int) - 0) := rfl
  rw [e2, e, List.drop_zero, Nat.sub_zero]
  by_cases q : k ≤ w.length
  · rw [Nat.min_eq_left q]
  · rw [Nat.min_eq_right (by omega), List.take_length, List.take_of_length_le (by omega)]
theorem cut_one (w : T) : cut w (some 1) none = w.drop 1 := by
  cases w with
  | nil => rfl
  | cons x xs =>
    have e : sIx (x :: xs).length 1 = 1 := by
      unfold sIx
      rw [List.length_cons]
      split <;> omega
    have e2 : cut (x :: xs) (some 1) none = ((x :: xs).drop (sIx (x :: xs).length 1)).take ((x :: xs).length - sIx (x :: xs).length 1) := rfl
    rw [e2, e, List.length_cons, Nat.add_sub_cancel, List.drop_one, List.tail_cons, List.take_length]
theorem sl_str {w : T} {lo hi : Option Int} (h : w.length ≤ line) : pSl (.str w) lo hi = some (.str (cut w lo hi)) := by
  have e : pSl (.str w) lo hi = if w.length ≤ line then some (.str (cut w lo hi)) else none := rfl
  rw [e, if_pos h]
theorem add_str {a b : T} (h : a.length + b.length ≤ 4000) : pAdd (.str a) (.str b) = some (.str (a ++ b)) := by
  have e : pAdd (.str a) (.str b) = if a.length + b.length ≤ line then some (.str (a ++ b)) else none := rfl
  rw [e, if_pos (Nat.le_trans h (by decide))]
theorem v_eIf1 {t : TV} {a b : EV} {ρ : Env} {c c1 : Cup} {q : R (D × Cup)} (ht : t ρ c = .ok (true, c1)) (ha : a ρ c1 = q) : eIf t a b ρ c = q := by rw [s_eIf, ht, R.bind_ok]; exact ha
theorem v_eIf0 {t : TV} {a b : EV} {ρ : Env} {c c1 : Cup} {q : R (D × Cup)} (ht : t ρ c = .ok (false, c1)) (hb : b ρ c1 = q) : eIf t a b ρ c = q := by rw [s_eIf, ht, R.bind_ok]; exact hb
theorem pow18 : pPow (.int 10) (.int 18) = some (.int 1000000000000000000) := by
  have e : pPow (.int 10) (.int 18) = if 0 ≤ (18 : Int) ∧ (18 : Int) ≤ 1000000 ∧ (10 : Int).natAbs < 2 ^ 64 then some (.int ((10 : Int) ^ (18 : Int).toNat)) else none := rfl
  rw [e, if_pos (by decide)]
  rfl
theorem v_mkO {ps n : Nat} {s : SV} {e : EV} {ds : List D} {c c1 c2 : Cup} {ρ1 : Env} {d : D} (hl : ds.length = ps) (h : s (start n ds) c = .ok (.nx, ρ1, c1)) (he : e ρ1 c1 = .ok (d, c2)) : mkO ps n s e ds c = .ok (d, c2) := by
  have e0 : mkO ps n s e ds c = if ds.length = ps then (s (start n ds) c).bind fun p => (match p.1 with
    | .nx => e p.2.1 p.2.2
    | _ => .no) else .no := rfl
  rw [e0, if_pos hl, h, R.bind_ok]
  exact he
end Mi.P
end

section
namespace Mi.P
/-! MiY: letters of words; sets of letters. -/
theorem lt_irrefl : ∀ a : T, ltS a a = false
  | [] => rfl
  | x :: a => by
    unfold ltS
    rw [if_neg (by omega), if_neg (by omega)]
    exact lt_irrefl a
/-- two rising lists with the same members -/
theorem rise_uniq : ∀ {a b : List T}, Rise a → Rise b → (∀ x, x ∈ a ↔ x ∈ b) → a = b
  | [], [], _, _, _ => rfl
  | [], y :: b, _, _, h => by have := (h y).mpr (List.mem_cons_self ..); cases this
  | x :: a, [], _, _, h => by have := (h x).mp (List.mem_cons_self ..); cases this
  | x :: a, y :: b, ha, hb, h => by
    obtain ⟨a1, a2⟩ := List.pairwise_cons.mp ha
    obtain ⟨b1, b2⟩ := List.pairwise_cons.mp hb
    have e : x = y := by
      rcases List.mem_cons.mp ((h x).mp (List.mem_cons_self ..)) with e | e
      · exact e
      · rcases List.mem_cons.mp ((h y).mpr (List.mem_cons_self ..)) with e' | e'
        · exact e'.symm
        · have := lt_trans (b1 x e) (a1 y e')
          rw [lt_irrefl] at this
          cases this
    subst e
    have nx : ∀ {l : List T}, (∀ z ∈ l, ltS x z = true) → x ∉ l := fun q hx => by
      have := q x hx
      rw [lt_irrefl] at this
      cases this
    congr 1
    refine rise_uniq a2 b2 fun z => ⟨fun hz => ?_, fun hz => ?_⟩
    · rcases List.mem_cons.mp ((h z).mp (List.mem_cons_of_mem _ hz)) with e | e
      · exact absurd (e ▸ hz) (nx a1)
      · exact e
    · rcases List.mem_cons.mp ((h z).mpr (List.mem_cons_of_mem _ hz)) with e | e
      · exact absurd (e ▸ hz) (nx b1)
      · exact e
theorem rise_filter {a : List T} {p : T → Bool} (h : Rise a) : Rise (a.filter p) := List.Pairwise.filter _ h
theorem rise_nodup {a : List T} (h : Rise a) : a.Nodup := List.Pairwise.imp (fun {x y} q e => by rw [e, lt_irrefl] at q; cases q) h
/-- one letter in a text -/
theorem has_one (x : Nat) : ∀ s : T, hasSub [x] s = decide (x ∈ s)
  | [] => by simp [hasSub, isPre]
  | y :: s => by
    have e : hasSub [x] (y :: s) = ((decide (x = y) && isPre [] s) || hasSub [x] s) := rfl
    have e2 : isPre [] s = true := by cases s <;> rfl
    rw [e, e2, Bool.and_true, has_one x s, ← Bool.decide_or]
    congr 1
    rw [List.mem_cons]
theorem in_str (x : Nat) (s : T) : pIn (.str [x]) (.str s) = some (.bl (decide (x ∈ s))) := by
  have e : pIn (.str [x]) (.str s) = some (.bl (hasSub [x] s)) := rfl
  rw [e, has_one]
def one1 (s : T) : List T := s.map fun c => [c]
theorem ones_S (s : T) : ones s = S (one1 s) := by rw [ones, S, one1, List.map_map]; rfl
theorem mem_one1 {x : Nat} {s : T} : [x] ∈ one1 s ↔ x ∈ s := by
  unfold one1
  rw [List.mem_map]
  exact ⟨fun ⟨y, h, e⟩ => by cases e; exact h, fun h => ⟨x, h, rfl⟩⟩
theorem in_tupS (x : T) (l : List T) : pIn (.str x) (.tup (S l)) = some (.bl (decide (x ∈ l))) := by
  have e : pIn (.str x) (.tup (S l)) = if flat (.str x) && flats (S l) then some (.bl (anyEq (.str x) (S l))) else none := rfl
  rw [e, flat_str, S_flats, anyEq_S]
  rfl
/-- d holds the letters ls -/
def Has (d : D) (ls : T) : Prop := ∀ x : Nat, pIn (.str [x]) d = some (.bl (decide (x ∈ ls)))
theorem has_str (s : T) : Has (.str s) s := fun x => in_str x s
theorem has_tup (s : T) : Has (.tup (ones s)) s := fun x => by
  rw [ones_S, in_tupS]
  congr 2
  apply decide_eq_decide.mpr
  exact mem_one1
theorem notIn_of' {x d : D} {b : Bool} (h : pIn x d = some (.bl b)) : pNotIn x d = some (.bl (!b)) := by
  unfold pNotIn
  rw [h]
/-- the letters of a text, each once, in order -/
def setL (s : T) : T := (sortL (onceL (one1 s))).flatten
theorem singles : ∀ {l : List T}, (∀ x ∈ l, ∃ c, x = [c]) → one1 l.flatten = l
  | [], _ => rfl
  | x :: l, h => by
    obtain ⟨c, rfl⟩ := h x (List.mem_cons_self ..)
    have ih := singles (l := l) fun y hy => h y (List.mem_cons_of_mem _ hy)
    show [c] :: one1 l.flatten = _
    rw [ih]
theorem setL_one1 (s : T) : one1 (setL s) = sortL (onceL (one1 s)) := singles fun x hx => by
  obtain ⟨c, _, rfl⟩ := List.mem_map.mp (once_mem.mp (sort_mem.mp hx))
  exact ⟨c, rfl⟩
theorem setL_rise (s : T) : Rise (one1 (setL s)) := by
  rw [setL_one1]
  exact sort_rise (once_nodup _)
theorem setL_mem {s : T} {x : Nat} : x ∈ setL s ↔ x ∈ s := by
  rw [← mem_one1, setL_one1, sort_mem, once_mem, mem_one1]
theorem setL_len (s : T) : (setL s).length ≤ s.length := by
  have e : (one1 (setL s)).length = (sortL (onceL (one1 s))).length := by rw [setL_one1]
  rw [sort_len] at e
  have := once_len (one1 s)
  simp only [one1, List.length_map] at *
  omega
theorem set_str {s : T} (h : s.length ≤ 4000) : pSetS (.str s) = some (.lst (ones (setL s))) := by
  have e : pSetS (.str s) = if uni (ones s) && decide ((ones s).length ≤ 4000) then some (.lst (isort (once (ones s)))) else none := rfl
  rw [e, ones_len, decide_eq_true h, ones_S, uni_S, once_S, sort_S, ← setL_one1, ← ones_S]
  rfl
theorem set_ones {s : T} (h : s.length ≤ 4000) : pSetS (.lst (ones s)) = some (.lst (ones (setL s))) := by
  have e : pSetS (.lst (ones s)) = if uni (ones s) && decide ((ones s).length ≤ 4000) then some (.lst (isort (once (ones s)))) else none := rfl
  rw [e, ones_len, decide_eq_true h, ones_S, uni_S, once_S, sort_S, ← setL_one1, ← ones_S]
  rfl
theorem join_on {t : T} (h : t.length ≤ 4000) : pJoin (.str []) (.lst (ones t)) = some (.str t) := join_str (strs_ones t) (Nat.le_trans h (by decide))
theorem strs_S : ∀ l : List T, strsD (S l) = some l
  | [] => rfl
  | x :: l => by
    have e : strsD (S (x :: l)) = (strsD (S l)).map (x :: ·) := rfl
    rw [e, strs_S l]
    rfl
theorem join_flat : ∀ l : List T, joinS [] l = l.flatten
  | [] => rfl
  | [x] => by simp [joinS]
  | x :: y :: r => by
    show x ++ [] ++ joinS [] (y :: r) = _
    rw [join_flat (y :: r)]
    simp
def pS (p : T → Bool) : D → Bool
  | .str w => p w
  | _ => false
def fS (f : T → D) : D → D
  | .str w => f w
  | _ => .non
/-- [w for w in ws if p(w)] -/
theorem keep_S {ws : List T} {i : Nat} {t : TV} {ρ : Env} {c : Cup} {p : T → Bool} (hi : i < ρ.length) (h : ∀ w ∈ ws, t (ρ.set i (.sh (.str w))) c = .ok (p w, c)) : lcL (gN i) t (eV i) ρ (S ws) c = .ok (S (ws.filter p), c) := by
  have e := lc_map (g := gN i) (t := t) (a := eV i) (f := id) (p := pS p) (ρ := ρ) (c := c) (ds := S ws) fun x hx => by
    obtain ⟨y, hy, rfl⟩ := List.mem_map.mp hx
    exact ⟨_, rfl, h y hy, fun _ => v_V (List.getElem?_set_self (l := ρ) (a := Sl.sh (.str y)) hi)⟩
  rw [e, List.map_id, S, S, List.filter_map]
  rfl
/-- [f(w) for w in ws] -/
theorem map_S {ws : List T} {i : Nat} {a : EV} {ρ : Env} {c : Cup} {f : T → D} (h : ∀ w ∈ ws, a (ρ.set i (.sh (.str w))) c = .ok (f w, c)) : lcL (gN i) tT a ρ (S ws) c = .ok (ws.map f, c) := by
  have e := lc_all (g := gN i) (a := a) (f := fS f) (ρ := ρ) (c := c) (ds := S ws) fun x hx => by
    obtain ⟨y, hy, rfl⟩ := List.mem_map.mp hx
    exact ⟨_, rfl, h y hy⟩
  rw [e, S, List.map_map]
  rfl
/-- [f(w) for w in ws if p(w)] -/
theorem some_S {ws : List T} {i : Nat} {t : TV} {a : EV} {ρ : Env} {c : Cup} {p : T → Bool} {f : T → D} (h : ∀ w ∈ ws, t (ρ.set i (.sh (.str w))) c = .ok (p w, c)) (h2 : ∀ w ∈ ws, p w = true → a (ρ.set i (.sh (.str w))) c = .ok (f w, c)) : lcL (gN i) t a ρ (S ws) c = .ok ((ws.filter p).map f, c) := by
  have e := lc_map (g := gN i) (t := t) (a := a) (f := fS f) (p := pS p) (ρ := ρ) (c := c) (ds := S ws) fun x hx => by
    obtain ⟨y, hy, rfl⟩ := List.mem_map.mp hx
    exact ⟨_, rfl, h y hy, fun q => h2 y hy q⟩
  rw [e, S, List.filter_map, List.map_map]
  rfl
/-! comprehensions over texts, numbers -/
def pO (p : Nat → Bool) : D → Bool
  | .str [x] => p x
  | _ => false
def fO (f : Nat → D) : D → D
  | .str [x] => f x
  | _ => .non
theorem ones_filter (w : T) (p : Nat → Bool) : (ones w).filter (pO p) = ones (w.filter p) := by
  rw [ones, ones, List.filter_map]
  rfl
theorem ones_map (w : T) (f : Nat → D) : (ones w).map (fO f) = w.map f := by
  rw [ones, List.map_map]
  rfl
theorem some_ones {w : T} {i : Nat} {t : TV} {a : EV} {ρ : Env} {c : Cup} {p : Nat → Bool} {f : Nat → D} (h : ∀ x ∈ w, t (ρ.set i (.sh (.str [x]))) c = .ok (p x, c)) (h2 : ∀ x ∈ w, p x = true → a (ρ.set i (.sh (.str [x]))) c = .ok (f x, c)) : lcL (gN i) t a ρ (ones w) c = .ok ((w.filter p).map f, c) := by
  have e := lc_map (g := gN i) (t := t) (a := a) (f := fO f) (p := pO p) (ρ := ρ) (c := c) (ds := ones w) fun x hx => by
    obtain ⟨y, hy, rfl⟩ := List.mem_map.mp hx
    exact ⟨_, rfl, h y hy, fun q => h2 y hy q⟩
  rw [e, ones_filter, ones_map]
theorem map_ones {w : T} {i : Nat} {a : EV} {ρ : Env} {c : Cup} {f : Nat → D} (h : ∀ x ∈ w, a (ρ.set i (.sh (.str [x]))) c = .ok (f x, c)) : lcL (gN i) tT a ρ (ones w) c = .ok (w.map f, c) := by
  have e := lc_all (g := gN i) (a := a) (f := fO f) (ρ := ρ) (c := c) (ds := ones w) fun x hx => by
    obtain ⟨y, hy, rfl⟩ := List.mem_map.mp hx
    exact ⟨_, rfl, h y hy⟩
  rw [e, ones_map]
theorem keep_ones {w : T} {i : Nat} {t : TV} {ρ : Env} {c : Cup} {p : Nat → Bool} (hi : i < ρ.length) (h : ∀ x ∈ w, t (ρ.set i (.sh (.str [x]))) c = .ok (p x, c)) : lcL (gN i) t (eV i) ρ (ones w) c = .ok (ones (w.filter p), c) := by
  have e := some_ones (w := w) (i := i) (t := t) (a := eV i) (ρ := ρ) (c := c) (p := p) (f := fun x => .str [x]) h fun x hx _ => v_V (List.getElem?_set_self (l := ρ) (a := Sl.sh (.str [x])) hi)
  rw [e]
  rfl
theorem map_range {n : Nat} {i : Nat} {a : EV} {ρ : Env} {c : Cup} {f : Nat → D} (h : ∀ k : Nat, k < n → a (ρ.set i (.sh (.int (k : Int)))) c = .ok (f k, c)) : lcL (gN i) tT a ρ (intsD 0 n) c = .ok ((List.range n).map f, c) := by
  have e := lc_all (g := gN i) (a := a) (f := fInt fun j => f j.toNat) (ρ := ρ) (c := c) (ds := intsD 0 n) fun x hx => by
    obtain ⟨k, hk, rfl⟩ := intsD_mem hx
    rw [Int.zero_add]
    exact ⟨_, rfl, h k hk⟩
  rw [e, intsD_map (f := fun j => f j.toNat)]
  have e2 : (fun k : Nat => f ((0 : Int) + (k : Int)).toNat) = f := by
    funext k
    rw [Int.zero_add, Int.toNat_natCast]
  rw [e2]
theorem toB_map {α : Type} (p : α → Bool) : ∀ l : List α, toBools (l.map fun x => D.bl (p x)) = some (l.map p)
  | [] => rfl
  | x :: l => by
    have e : toBools ((x :: l).map fun x => D.bl (p x)) = (toBools (l.map fun x => D.bl (p x))).map (p x :: ·) := rfl
    rw [e, toB_map p l]
    rfl
theorem all_map {α : Type} (p : α → Bool) (l : List α) : pAllB (.lst (l.map fun x => D.bl (p x))) = some (.bl (l.all p)) := by
  have e : pAllB (.lst (l.map fun x => D.bl (p x))) = (toBools (l.map fun x => D.bl (p x))).map fun bs => .bl (bs.all id) := rfl
  rw [e, toB_map, Option.map_some, List.all_map]
  rfl
theorem any_map {α : Type} (p : α → Bool) (l : List α) : pAnyB (.lst (l.map fun x => D.bl (p x))) = some (.bl (l.any p)) := by
  have e : pAnyB (.lst (l.map fun x => D.bl (p x))) = (toBools (l.map fun x => D.bl (p x))).map fun bs => .bl (bs.any id) := rfl
  rw [e, toB_map, Option.map_some, List.any_map]
  rfl
theorem eq_str' (a b : T) : pEq (.str a) (.str b) = some (.bl (decide (a = b))) := by
  have e : pEq (.str a) (.str b) = if flat (.str a) && flat (.str b) then some (.bl (eqB (.str a) (.str b))) else none := rfl
  rw [e, flat_str, flat_str, eqB_str]
  rfl
theorem ne_str' (a b : T) : pNe (.str a) (.str b) = some (.bl (!decide (a = b))) := by
  have e : pNe (.str a) (.str b) = if flat (.str a) && flat (.str b) then some (.bl (!eqB (.str a) (.str b))) else none := rfl
  rw [e, flat_str, flat_str, eqB_str]
  rfl
theorem ne_int (i j : Int) : pNe (.int i) (.int j) = some (.bl (!decide (i = j))) := by simp [pNe, flat, plain, dep, eqB]
/-- neighbours rise -/
def adj : List T → Bool
  | x :: y :: r => ltS x y && adj (y :: r)
  | _ => true
theorem adj_rise : ∀ {l : List T}, adj l = true ↔ Rise l
  | [] => ⟨fun _ => List.Pairwise.nil, fun _ => rfl⟩
  | [x] => ⟨fun _ => List.pairwise_singleton _ _, fun _ => rfl⟩
  | x :: y :: r => by
    rw [adj, Bool.and_eq_true, adj_rise]
    constructor
    · rintro ⟨h1, h2⟩
      refine List.pairwise_cons.mpr ⟨fun z hz => ?_, h2⟩
      rcases List.mem_cons.mp hz with e | e
      · rw [e]; exact h1
      · exact lt_trans h1 ((List.pairwise_cons.mp h2).1 z e)
    · intro h
      obtain ⟨h1, h2⟩ := List.pairwise_cons.mp h
      exact ⟨h1 y (List.mem_cons_self ..), h2⟩
def fLt : D → D
  | .tup [.str a, .str b] => .bl (ltS a b)
  | _ => .non
theorem zip_adj : ∀ l : List T, ((zipD (S l) (S l.tail)).map fLt) = (zipD (S l) (S l.tail)).map fLt ∧ toBools ((zipD (S l) (S l.tail)).map fLt) = some ((l.zip l.tail).map fun p => ltS p.1 p.2) ∧ ((l.zip l.tail).map fun p => ltS p.1 p.2).all id = adj l
  | [] => ⟨rfl, rfl, rfl⟩
  | [x] => ⟨rfl, rfl, rfl⟩
  | x :: y :: r => by
    obtain ⟨_, h1, h2⟩ := zip_adj (y :: r)
    refine ⟨rfl, ?_, ?_⟩
    · show (toBools ((zipD (S (y :: r)) (S r)).map fLt)).map (ltS x y :: ·) = _
      have e : (y :: r).tail = r := rfl
      rw [e] at h1
      rw [h1]
      rfl
    · show (ltS x y && ((((y :: r).zip r).map fun p => ltS p.1 p.2).all id)) = _
      rw [adj, ← h2]
      rfl
/-- the pairs of neighbours, compared -/
theorem pairs_lt {l : List T} {i j : Nat} {a : EV} {ρ : Env} {c : Cup} (h : ∀ x y : T, a ((ρ.set i (.sh (.str x))).set j (.sh (.str y))) c = .ok (.bl (ltS x y), c)) : lcL (gT [gN i, gN j]) tT a ρ (zipD (S l) (S l.tail)) c = .ok ((zipD (S l) (S l.tail)).map fLt, c) := by
  have hm : ∀ {l : List T} {d : D}, d ∈ zipD (S l) (S l.tail) → ∃ x y, d = .tup [.str x, .str y] := fun {l d} hd => by
    have go : ∀ {a b : List T}, d ∈ zipD (S a) (S b) → ∃ x y, d = .tup [.str x, .str y] := fun {a} => by
      induction a with
      | nil => intro b h; cases h
      | cons x a ih =>
        intro b h
        cases b with
        | nil => cases h
        | cons y b =>
          rcases List.mem_cons.mp (show d ∈ .tup [.str x, .str y] :: zipD (S a) (S b) from h) with e | e
          · exact ⟨x, y, e⟩
          · exact ih e
    exact go hd
  exact lc_all fun d hd => by
    obtain ⟨x, y, rfl⟩ := hm hd
    exact ⟨_, rfl, h x y⟩
theorem all_pairs (l : List T) : pAllB (.lst ((zipD (S l) (S l.tail)).map fLt)) = some (.bl (adj l)) := by
  have e : pAllB (.lst ((zipD (S l) (S l.tail)).map fLt)) = (toBools ((zipD (S l) (S l.tail)).map fLt)).map fun bs => .bl (bs.all id) := rfl
  rw [e, (zip_adj l).2.1, Option.map_some, (zip_adj l).2.2]
theorem zipS_len (l : List T) : ((zipD (S l) (S l.tail)).map fLt).length ≤ l.length := by
  rw [List.length_map]
  exact Nat.le_trans (zip_len _ _) (by rw [S_len]; exact Nat.le_refl _)
theorem sq_str {s : T} : seqI (.str s) = some (ones s) := rfl
theorem wk_str {s : T} : walk (.str s) = some (ones s) := rfl
theorem ln_str {s : T} (h : s.length ≤ 4000) : pLen (.str s) = some (.int s.length) := lenS (Nat.le_trans h (by decide))
/-- a text is in order just where it is its own set -/
theorem set_self {s : T} : Rise (one1 s) ↔ s = setL s := by
  constructor
  · intro h
    have e := rise_uniq h (setL_rise s) fun x => by
      unfold one1
      rw [List.mem_map, List.mem_map]
      exact ⟨fun ⟨y, h, e⟩ => ⟨y, setL_mem.mpr h, e⟩, fun ⟨y, h, e⟩ => ⟨y, setL_mem.mp h, e⟩⟩
    have e2 := congrArg List.flatten e
    have f : ∀ t : T, (one1 t).flatten = t := fun t => by
      induction t with
      | nil => rfl
      | cons x t ih =>
        show [x] ++ (one1 t).flatten = _
        rw [ih]
        rfl
    rwa [f, f] at e2
  · intro h
    rw [h]
    exact setL_rise s
theorem len4 {n : Nat} (h : n ≤ 4000) : n ≤ line := Nat.le_trans h (by decide)
theorem join4 {s : T} (h : s.length ≤ 4000) : pJoin (.str []) (.lst (ones s)) = some (.str s) := join_on h
theorem tup4 {l : List D} (h : l.length ≤ 4000) : pTuple (.lst l) = some (.tup l) := by
  have e : pTuple (.lst l) = if l.length ≤ line then some (.tup l) else none := rfl
  rw [e, if_pos (Nat.le_trans h (by decide))]
theorem tupT {l : List D} (h : l.length ≤ 4000) : pTuple (.tup l) = some (.tup l) := by
  have e : pTuple (.tup l) = if l.length ≤ line then some (.tup l) else none := rfl
  rw [e, if_pos (Nat.le_trans h (by decide))]
theorem lst4 {l : List D} (h : l.length ≤ 4000) : pList (.lst l) = some (.lst l) := by
  have e : pList (.lst l) = if l.length ≤ line then some (.lst l) else none := rfl
  rw [e, if_pos (Nat.le_trans h (by decide))]
theorem lstT {l : List D} (h : l.length ≤ 4000) : pList (.tup l) = some (.lst l) := by
  have e : pList (.tup l) = if l.length ≤ line then some (.lst l) else none := rfl
  rw [e, if_pos (Nat.le_trans h (by decide))]
theorem lstS {s : T} (h : s.length ≤ 4000) : pList (.str s) = some (.lst (ones s)) := by
  have e : pList (.str s) = if (ones s).length ≤ line then some (.lst (ones s)) else none := rfl
  rw [e, if_pos (by rw [ones_len]; exact Nat.le_trans h (by decide))]
theorem cut_k {α : Type} (w : List α) (k : Nat) : cut w none (some (k : Int)) = w.take k := by
  have e : sIx w.length (k : Int) = min k w.length := by
    unfold sIx
    rw [if_pos (by omega), Int.toNat_natCast]
  have e2 : cut w none (some (k : Int)) = (w.drop 0).take (sIx w.length (k : Int) - 0) := rfl
  rw [e2, e, List.drop_zero, Nat.sub_zero]
  by_cases q : k ≤ w.length
  · rw [Nat.min_eq_left q]
  · rw [Nat.min_eq_right (by omega), List.take_length, List.take_of_length_le (by omega)]
theorem take_tup (l : List D) (k : Nat) : pSl (.tup l) none (some (k : Int)) = some (.tup (l.take k)) := by
  have e : pSl (.tup l) none (some (k : Int)) = some (.tup (cut l none (some (k : Int)))) := rfl
  rw [e, cut_k]
theorem one1_flat (t : T) : (one1 t).flatten = t := by
  induction t with
  | nil => rfl
  | cons x t ih =>
    show [x] ++ (one1 t).flatten = _
    rw [ih]
    rfl
theorem one1_inj {s t : T} (h : one1 s = one1 t) : s = t := by
  have e := congrArg List.flatten h
  rwa [one1_flat, one1_flat] at e
theorem rise_ext {s t : T} (h1 : Rise (one1 s)) (h2 : Rise (one1 t)) (h : ∀ x, x ∈ s ↔ x ∈ t) : s = t := by
  apply one1_inj
  refine rise_uniq h1 h2 fun x => ?_
  unfold one1
  rw [List.mem_map, List.mem_map]
  exact ⟨fun ⟨y, q, e⟩ => ⟨y, (h y).mp q, e⟩, fun ⟨y, q, e⟩ => ⟨y, (h y).mpr q, e⟩⟩
theorem rise_one_filter {s : T} (h : Rise (one1 s)) (p : Nat → Bool) : Rise (one1 (s.filter p)) := List.Pairwise.sublist (List.Sublist.map _ List.filter_sublist) h
theorem plains_of : ∀ {l : List D}, (∀ d ∈ l, plain d = true) → plains l = true
  | [], _ => rfl
  | d :: l, h => by
    show (plain d && plains l) = true
    rw [h d (List.mem_cons_self ..), plains_of fun x hx => h x (List.mem_cons_of_mem _ hx)]
    rfl
theorem deps_of {k : Nat} : ∀ {l : List D}, (∀ d ∈ l, dep d ≤ k) → deps l ≤ k
  | [], _ => Nat.zero_le _
  | d :: l, h => by
    show max (dep d) (deps l) ≤ k
    exact Nat.max_le.mpr ⟨h d (List.mem_cons_self ..), deps_of fun x hx => h x (List.mem_cons_of_mem _ hx)⟩
theorem flats_of {l : List D} (h : ∀ d ∈ l, plain d = true ∧ dep d ≤ 50) : flats l = true := by
  unfold flats
  rw [plains_of fun d hd => (h d hd).1, Bool.true_and, decide_eq_true_eq]
  have := deps_of fun d hd => (h d hd).2
  omega
theorem flat_lst {l : List D} (h : ∀ d ∈ l, plain d = true ∧ dep d ≤ 50) : flat (.lst l) = true := by
  have h1 : plain (.lst l) = plains l := by rw [plain]
  have h3 : dep (.lst l) = deps l + 1 := by rw [dep]
  unfold flat
  rw [h1, plains_of fun d hd => (h d hd).1, Bool.true_and, decide_eq_true_eq, h3]
  have := deps_of fun d hd => (h d hd).2
  omega
theorem eq_nil_of {l : List D} (h : ∀ d ∈ l, plain d = true ∧ dep d ≤ 50) : pEq (.lst l) (.lst []) = some (.bl (decide (l = []))) := by
  have e : pEq (.lst l) (.lst []) = if flat (.lst l) && flat (.lst []) then some (.bl (eqB (.lst l) (.lst []))) else none := rfl
  have hf2 : flat (.lst []) = true := by decide +kernel
  rw [e, flat_lst h, hf2]
  cases l with
  | nil => simp [eqB, eqBs]
  | cons x l => simp [eqB, eqBs]
theorem allAlike_of : ∀ {l : List D}, (∀ x ∈ l, ∀ y ∈ l, Mi.alike x y = true) → allAlike l = true
  | [], _ => rfl
  | x :: l, h => by
    have e : allAlike (x :: l) = (alike x x && l.all (fun y => alike x y && alike y x) && allAlike l) := rfl
    have hx := List.mem_cons_self (a := x) (l := l)
    have e4 : l.all (fun y => alike x y && alike y x) = true := by
      rw [List.all_eq_true]
      intro y hy
      have hy := List.mem_cons_of_mem x hy
      rw [h x hx y hy, h y hy x hx]
      rfl
    rw [e, h x hx x hx, e4, allAlike_of fun y hy z hz => h y (List.mem_cons_of_mem _ hy) z (List.mem_cons_of_mem _ hz)]
    rfl
theorem rise_lt {s : T} (h : Rise (one1 s)) : s.Pairwise (· < ·) := by
  have := List.pairwise_map.mp h
  refine List.Pairwise.imp (fun {a b} q => ?_) this
  have e : ltS [a] [b] = if a < b then true else if b < a then false else false := rfl
  rw [e] at q
  by_cases z : a < b
  · exact z
  · rw [if_neg z] at q
    by_cases z2 : b < a
    · rw [if_pos z2] at q; cases q
    · rw [if_neg z2] at q; cases q
theorem set_S' {l : List T} (h : l.length ≤ 4000) : pSetS (.lst (S l)) = some (.lst (S (sortL (onceL l)))) := by
  have e : pSetS (.lst (S l)) = if uni (S l) && decide ((S l).length ≤ 4000) then some (.lst (isort (once (S l)))) else none := rfl
  rw [e, uni_S, S_len, decide_eq_true h, once_S, sort_S]
  rfl
theorem map_str {ws : List T} {f : T → T} : (ws.map fun w => D.str (f w)) = S (ws.map f) := by
  rw [S, List.map_map]
  rfl
theorem len_S {l : List T} : pLen (.lst (S l)) = some (.int (l.length : Int)) := by rw [← S_len]; rfl
theorem len_tS {l : List T} : pLen (.tup (S l)) = some (.int (l.length : Int)) := by rw [← S_len]; rfl
theorem len_ones {l : T} : pLen (.lst (ones l)) = some (.int (l.length : Int)) := by rw [← ones_len]; rfl
theorem len_tones {l : T} : pLen (.tup (ones l)) = some (.int (l.length : Int)) := by rw [← ones_len]; rfl
theorem len_map {α : Type} {f : α → D} {l : List α} : pLen (.lst (l.map f)) = some (.int (l.length : Int)) := by
  have e : pLen (.lst (l.map f)) = some (.int ((l.map f).length : Int)) := rfl
  rw [e, List.length_map]
theorem len_tmap {α : Type} {f : α → D} {l : List α} : pLen (.tup (l.map f)) = some (.int (l.length : Int)) := by
  have e : pLen (.tup (l.map f)) = some (.int ((l.map f).length : Int)) := rfl
  rw [e, List.length_map]
theorem map_SS {ws : List T} {i : Nat} {a : EV} {ρ : Env} {c : Cup} {f : T → T} (h : ∀ w ∈ ws, a (ρ.set i (.sh (.str w))) c = .ok (.str (f w), c)) : lcL (gN i) tT a ρ (S ws) c = .ok (S (ws.map f), c) := by
  rw [← map_str]
  exact map_S h
theorem Smap_len {ws : List T} {f : T → T} (h : ws.length ≤ 4000) : (S (ws.map f)).length ≤ line := by rw [S_len, List.length_map]; exact len4 h
theorem v_Lc2 {vs vs1 : List Nat} {it it1 : IV} {g g1 : TG} {t t1 : TV} {e : EV} {ρ : Env} {c c1 c2 : Cup} {ds qs : List D} (hi : it ρ c = .ok (ds, c1)) (hl : lcL2 g t vs1 it1 g1 t1 e (wipes vs ρ) ds c1 = .ok (qs, c2)) (hn : qs.length ≤ line) : eLc2 vs it g t vs1 it1 g1 t1 e ρ c = .ok (.lst qs, c2) := by
  have e0 : eLc2 vs it g t vs1 it1 g1 t1 e ρ c = (it ρ c).bind fun p => ((fit (lcL2 g t vs1 it1 g1 t1 e (wipes vs ρ) p.1 p.2)).quiet).bind fun q => .ok (.lst q.1, q.2) := rfl
  rw [e0, hi, R.bind_ok, hl, fit_of (q := (qs, c2)) hn, s_quiet, R.bind_ok]
theorem lc2_S {vs1 : List Nat} {it1 : IV} {g1 : TG} {t t1 : TV} {e : EV} {ρ : Env} {c : Cup} {i : Nat} {f : T → List D} {ds : T → List D} : ∀ {rows : List T}, (∀ q ∈ rows, t (ρ.set i (.sh (.str q))) c = .ok (true, c) ∧ it1 (ρ.set i (.sh (.str q))) c = .ok (ds q, c) ∧ lcL g1 t1 e (wipes vs1 (ρ.set i (.sh (.str q)))) (ds q) c = .ok (f q, c)) → lcL2 (gN i) t vs1 it1 g1 t1 e ρ (S rows) c = .ok (rows.flatMap f, c)
  | [], _ => rfl
  | q :: rows, h => by
    obtain ⟨h1, h2, h3⟩ := h q (List.mem_cons_self ..)
    have ih := lc2_S (f := f) (ds := ds) (rows := rows) fun z hz => h z (List.mem_cons_of_mem _ hz)
    show lcL2 (gN i) t vs1 it1 g1 t1 e ρ (.str q :: S rows) c = _
    unfold lcL2
    show (t (ρ.set i (.sh (.str q))) c).bind _ = _
    rw [h1, R.bind_ok, if_pos rfl, h2, R.bind_ok, h3, R.bind_ok, ih, R.bind_ok, List.flatMap_cons]
/-- a comprehension over things of any kind -/
theorem lc_any {α : Type} {g : TG} {t : TV} {a : EV} {ρ : Env} {c : Cup} {m : α → D} {p : α → Bool} {f : α → D} : ∀ {l : List α}, (∀ x ∈ l, ∃ ρ', g ρ (m x) = some ρ' ∧ t ρ' c = .ok (p x, c) ∧ (p x = true → a ρ' c = .ok (f x, c))) → lcL g t a ρ (l.map m) c = .ok ((l.filter p).map f, c)
  | [], _ => rfl
  | x :: l, h => by
    obtain ⟨ρ', h1, h2, h3⟩ := h x (List.mem_cons_self ..)
    have ih := lc_any (g := g) (t := t) (a := a) (ρ := ρ) (c := c) (m := m) (p := p) (f := f) (l := l) fun z hz => h z (List.mem_cons_of_mem _ hz)
    have e0 : lcL g t a ρ ((x :: l).map m) c = match g ρ (m x) with
      | none => .no
      | some ρ' => (t ρ' c).bind fun p => if p.1 then (a ρ' p.2).bind fun q => (lcL g t a ρ (l.map m) q.2).bind fun r => .ok (q.1 :: r.1, r.2) else lcL g t a ρ (l.map m) p.2 := rfl
    rw [e0, h1]
    show (t ρ' c).bind _ = _
    rw [h2, R.bind_ok]
    by_cases q : p x = true
    · show (if p x = true then _ else _) = _
      rw [if_pos q, h3 q, R.bind_ok, ih, R.bind_ok, List.filter_cons_of_pos q]
      rfl
    · show (if p x = true then _ else _) = _
      rw [if_neg q, ih, List.filter_cons_of_neg q]
theorem lc_each {α : Type} {g : TG} {a : EV} {ρ : Env} {c : Cup} {m : α → D} {f : α → D} {l : List α} (h : ∀ x ∈ l, ∃ ρ', g ρ (m x) = some ρ' ∧ a ρ' c = .ok (f x, c)) : lcL g tT a ρ (l.map m) c = .ok (l.map f, c) := by
  have e := lc_any (g := g) (t := tT) (a := a) (ρ := ρ) (c := c) (m := m) (p := fun _ => true) (f := f) (l := l) fun x hx => by
    obtain ⟨ρ', h1, h2⟩ := h x hx
    exact ⟨ρ', h1, rfl, fun _ => h2⟩
  rw [e, List.filter_eq_self.mpr fun _ _ => rfl]
theorem lc_keep {α : Type} {i : Nat} {t : TV} {ρ : Env} {c : Cup} {m : α → D} {p : α → Bool} {l : List α} (hi : i < ρ.length) (h : ∀ x ∈ l, t (ρ.set i (.sh (m x))) c = .ok (p x, c)) : lcL (gN i) t (eV i) ρ (l.map m) c = .ok ((l.filter p).map m, c) := lc_any fun x hx => ⟨_, rfl, h x hx, fun _ => v_V (List.getElem?_set_self hi)⟩
theorem count_one1 (x : Nat) : ∀ l : T, (one1 l).count [x] = l.count x
  | [] => rfl
  | y :: l => by
    show ([y] :: one1 l).count [x] = _
    rw [List.count_cons, List.count_cons, count_one1 x l]
    congr 1
    by_cases e : y = x
    · subst e; rw [if_pos (beq_iff_eq.mpr rfl), if_pos (beq_iff_eq.mpr rfl)]
    · rw [if_neg fun q => e (List.cons.inj (beq_iff_eq.mp q)).1, if_neg fun q => e (beq_iff_eq.mp q)]
theorem lcount_ones (x : Nat) (l : T) : pLCount (.lst (ones l)) (.str [x]) = some (.int ((l.count x : Nat) : Int)) := by
  have e : pLCount (.lst (ones l)) (.str [x]) = (strsD (ones l)).map fun zs => .int ((zs.count [x] : Nat) : Int) := rfl
  have e2 : strsD (ones l) = some (one1 l) := strs_ones l
  rw [e, e2, ← count_one1 x l]
  rfl
theorem count_str {s : T} {z : Nat} : pCount (.str s) (.str [z]) = some (.int ((s.count z : Nat) : Int)) := rfl
theorem cut_from {α : Type} (w : List α) (k : Nat) : cut w (some (k : Int)) none = w.drop k := by
  have e : sIx w.length (k : Int) = min k w.length := by
    unfold sIx
    rw [if_pos (by omega), Int.toNat_natCast]
  have e2 : cut w (some (k : Int)) none = (w.drop (sIx w.length (k : Int))).take (w.length - sIx w.length (k : Int)) := rfl
  rw [e2, e]
  by_cases q : k ≤ w.length
  · rw [Nat.min_eq_left q, List.take_of_length_le (by rw [List.length_drop]; exact Nat.le_refl _)]
  · rw [Nat.min_eq_right (by omega), Nat.sub_self, List.take_zero, List.drop_eq_nil_of_le (by omega)]
theorem cat_lst {a b : List D} (h : a.length + b.length ≤ 4000) : pAdd (.lst a) (.lst b) = some (.lst (a ++ b)) := if_pos (len4 h)
theorem cat_tup {a b : List D} (h : a.length + b.length ≤ 4000) : pAdd (.tup a) (.tup b) = some (.tup (a ++ b)) := if_pos (len4 h)
theorem take_lst (l : List D) (k : Nat) : pSl (.lst l) none (some (k : Int)) = some (.lst (l.take k)) := by
  have e : pSl (.lst l) none (some (k : Int)) = some (.lst (cut l none (some (k : Int)))) := rfl
  rw [e, cut_k]
theorem drop_lst (l : List D) (k : Nat) : pSl (.lst l) (some (k : Int)) none = some (.lst (l.drop k)) := by
  have e : pSl (.lst l) (some (k : Int)) none = some (.lst (cut l (some (k : Int)) none)) := rfl
  rw [e, cut_from]
theorem ones_take (row : T) (k : Nat) : (ones row).take k = ones (row.take k) := by rw [ones, ones, List.map_take]
theorem ones_drop (w : T) (k : Nat) : (ones w).drop k = ones (w.drop k) := by rw [ones, ones, List.map_drop]
theorem ones_app (a b : T) : ones a ++ ones b = ones (a ++ b) := by rw [ones, ones, ones, List.map_append]
end Mi.P
end

section
/-! MiNs: plain facts of lists of whole numbers. -/
namespace Mi.P
def N (l : List Nat) : List D := l.map fun k : Nat => .int (k : Int)
theorem N_len (l : List Nat) : (N l).length = l.length := by rw [N, List.length_map]
theorem len_N {l : List Nat} : pLen (.lst (N l)) = some (.int (l.length : Int)) := by rw [← N_len]; rfl
theorem N_cons (x : Nat) (l : List Nat) : N (x :: l) = .int (x : Int) :: N l := rfl
theorem N_app (a b : List Nat) : N (a ++ b) = N a ++ N b := by rw [N, N, N, List.map_append]
theorem N_rev (l : List Nat) : (N l).reverse = N l.reverse := by rw [N, N, List.map_reverse]
def insN (x : Nat) : List Nat → List Nat
  | [] => [x]
  | y :: ys => if y < x then y :: insN x ys else x :: y :: ys
def sortN : List Nat → List Nat
  | [] => []
  | x :: xs => insN x (sortN xs)
theorem ins_N (x : Nat) : ∀ l : List Nat, ins (.int (x : Int)) (N l) = N (insN x l)
  | [] => rfl
  | y :: l => by
    have e : ins (.int (x : Int)) (N (y :: l)) = if ltB (.int (y : Int)) (.int (x : Int)) = true then .int (y : Int) :: ins (.int (x : Int)) (N l) else .int (x : Int) :: N (y :: l) := rfl
    have e2 : ltB (.int (y : Int)) (.int (x : Int)) = decide ((y : Int) < (x : Int)) := by rw [ltB]
    rw [e, e2, ins_N x l, insN]
    by_cases q : y < x
    · rw [if_pos q, if_pos (decide_eq_true (by omega))]; rfl
    · rw [if_neg q, if_neg (by rw [decide_eq_true_eq]; omega)]; rfl
theorem sort_N : ∀ l : List Nat, isort (N l) = N (sortN l)
  | [] => rfl
  | x :: l => by
    show ins (.int (x : Int)) (isort (N l)) = _
    rw [sort_N l, ins_N]
    rfl
theorem insN_perm (x : Nat) : ∀ l : List Nat, (insN x l).Perm (x :: l)
  | [] => List.Perm.refl _
  | y :: l => by
    unfold insN
    split
    · exact ((insN_perm x l).cons y).trans (List.Perm.swap ..)
    · exact List.Perm.refl _
theorem sortN_perm : ∀ l : List Nat, (sortN l).Perm l
  | [] => List.Perm.refl _
  | x :: l => (insN_perm x _).trans ((sortN_perm l).cons x)
theorem insN_asc {x : Nat} : ∀ {l : List Nat}, l.Pairwise (· ≤ ·) → (insN x l).Pairwise (· ≤ ·)
  | [], _ => List.pairwise_singleton _ _
  | y :: l, h => by
    unfold insN
    have h' := List.pairwise_cons.mp h
    split
    · rename_i q
      refine List.pairwise_cons.mpr ⟨fun z hz => ?_, insN_asc h'.2⟩
      rcases List.mem_cons.mp ((insN_perm x l).mem_iff.mp hz) with e | e
      · omega
      · exact h'.1 z e
    · rename_i q
      refine List.pairwise_cons.mpr ⟨fun z hz => ?_, h⟩
      rcases List.mem_cons.mp hz with e | e
      · omega
      · have := h'.1 z e; omega
theorem sortN_asc : ∀ l : List Nat, (sortN l).Pairwise (· ≤ ·)
  | [] => List.Pairwise.nil
  | x :: l => insN_asc (sortN_asc l)
theorem insN_end {x : Nat} : ∀ {l : List Nat}, l.Pairwise (· ≤ ·) → (∀ y ∈ l, y ≤ x) → insN x l = l ++ [x]
  | [], _, _ => rfl
  | y :: l, h, hx => by
    have h' := List.pairwise_cons.mp h
    unfold insN
    split
    · rw [insN_end h'.2 fun z hz => hx z (List.mem_cons_of_mem _ hz)]; rfl
    · rename_i q
      have hy : y = x := by have := hx y (List.mem_cons_self ..); omega
      subst hy
      have hr : l = List.replicate l.length y := List.eq_replicate_iff.mpr ⟨rfl, fun z hz => by
        have h1 := h'.1 z hz
        have h2 := hx z (List.mem_cons_of_mem _ hz)
        omega⟩
      rw [hr]
      show List.replicate (l.length + 2) y = List.replicate (l.length + 1) y ++ List.replicate 1 y
      rw [List.replicate_append_replicate]
theorem sortN_desc : ∀ {l : List Nat}, l.Pairwise (· ≥ ·) → sortN l = l.reverse
  | [], _ => rfl
  | x :: l, h => by
    have h' := List.pairwise_cons.mp h
    show insN x (sortN l) = _
    rw [sortN_desc h'.2, insN_end (List.pairwise_reverse.mpr h'.2) (fun y hy => h'.1 y (List.mem_reverse.mp hy)), List.reverse_cons]
theorem desc_iff (l : List Nat) : l = (sortN l).reverse ↔ l.Pairwise (· ≥ ·) := by
  constructor
  · intro h
    rw [h]
    exact List.pairwise_reverse.mpr (sortN_asc l)
  · intro h
    rw [sortN_desc h, List.reverse_reverse]
def adjG : List Nat → Bool
  | a :: b :: r => decide (b ≤ a) && adjG (b :: r)
  | _ => true
theorem adjG_iff : ∀ l : List Nat, adjG l = true ↔ l.Pairwise (· ≥ ·)
  | [] => ⟨fun _ => List.Pairwise.nil, fun _ => rfl⟩
  | [x] => ⟨fun _ => List.pairwise_singleton _ _, fun _ => rfl⟩
  | a :: b :: r => by
    show (decide (b ≤ a) && adjG (b :: r)) = true ↔ _
    rw [Bool.and_eq_true, decide_eq_true_eq, adjG_iff (b :: r), List.pairwise_cons (a := a)]
    constructor
    · rintro ⟨h1, h2⟩
      refine ⟨fun z hz => ?_, h2⟩
      rcases List.mem_cons.mp hz with e | e
      · omega
      · have := (List.pairwise_cons.mp h2).1 z e; omega
    · rintro ⟨h1, h2⟩
      exact ⟨h1 b (List.mem_cons_self ..), h2⟩
def pairsG : List Nat → List Bool
  | a :: b :: r => decide (b ≤ a) :: pairsG (b :: r)
  | _ => []
theorem pairsG_all : ∀ l : List Nat, (pairsG l).all id = adjG l
  | [] => rfl
  | [x] => rfl
  | a :: b :: r => by
    show (decide (b ≤ a) && (pairsG (b :: r)).all id) = _
    rw [pairsG_all (b :: r)]
    rfl
theorem pairsG_len : ∀ l : List Nat, (pairsG l).length ≤ l.length
  | [] => Nat.le_refl _
  | [x] => Nat.zero_le _
  | a :: b :: r => by
    show (pairsG (b :: r)).length + 1 ≤ _
    have := pairsG_len (b :: r)
    rw [List.length_cons]
    omega
theorem pairs_ge {i j : Nat} {a : EV} {ρ : Env} {c : Cup} (h : ∀ x y : Nat, a ((ρ.set i (.sh (.int (x : Int)))).set j (.sh (.int (y : Int)))) c = .ok (.bl (decide ((y : Int) ≤ (x : Int))), c)) : ∀ l : List Nat, lcL (gT [gN i, gN j]) tT a ρ (zipD (N l) (N l.tail)) c = .ok ((pairsG l).map .bl, c)
  | [] => rfl
  | [x] => rfl
  | x :: y :: r => by
    have ih := pairs_ge h (y :: r)
    have e : zipD (N (x :: y :: r)) (N (x :: y :: r).tail) = .tup [.int (x : Int), .int (y : Int)] :: zipD (N (y :: r)) (N (y :: r).tail) := rfl
    rw [e]
    unfold lcL
    show (tT ((ρ.set i (.sh (.int (x : Int)))).set j (.sh (.int (y : Int)))) c).bind _ = _
    rw [s_tT, R.bind_ok]
    show (a ((ρ.set i (.sh (.int (x : Int)))).set j (.sh (.int (y : Int)))) c).bind _ = _
    rw [h, R.bind_ok, ih, R.bind_ok]
    have : decide ((y : Int) ≤ (x : Int)) = decide (y ≤ x) := decide_eq_decide.mpr (by omega)
    rw [this]
    rfl
theorem toB_bl : ∀ l : List Bool, toBools (l.map .bl) = some l
  | [] => rfl
  | b :: l => by
    show (toBools (l.map .bl)).map (b :: ·) = _
    rw [toB_bl l]
    rfl
theorem all_ge (l : List Nat) : pAllB (.lst ((pairsG l).map .bl)) = some (.bl (adjG l)) := by
  show (toBools ((pairsG l).map .bl)).map _ = _
  rw [toB_bl, Option.map_some, pairsG_all]
theorem N_plainD {l : List Nat} : ∀ d ∈ N l, plain d = true ∧ dep d ≤ 50 := fun d hd => by
  obtain ⟨x, _, rfl⟩ := List.mem_map.mp hd
  exact ⟨by simp [plain], by simp [dep]⟩
theorem alike_N : ∀ l : List Nat, allAlike (N l) = true := fun l => allAlike_of fun x hx y hy => by
  obtain ⟨a, _, rfl⟩ := List.mem_map.mp hx
  obtain ⟨b, _, rfl⟩ := List.mem_map.mp hy
  rw [alike]
theorem noTup_N (l : List Nat) : (N l).all noTup = true := by
  rw [List.all_eq_true]
  intro d hd
  obtain ⟨x, _, rfl⟩ := List.mem_map.mp hd
  rfl
theorem sorted_N {l : List Nat} (h : l.length ≤ 4000) : pSorted (.lst (N l)) = some (.lst (N (sortN l))) := by
  have e : pSorted (.lst (N l)) = if flats (N l) && allAlike (N l) && ((N l).all noTup || (N l).all isTup1) && decide ((N l).length ≤ line) then some (.lst (isort (N l))) else none := rfl
  rw [e, flats_of N_plainD, alike_N, noTup_N, N_len, decide_eq_true (len4 h), sort_N]
  rfl
theorem eqBs_N : ∀ a b : List Nat, eqBs (N a) (N b) = decide (a = b)
  | [], [] => by simp [N, eqBs]
  | [], y :: b => by simp [N, eqBs]
  | x :: a, [] => by simp [N, eqBs]
  | x :: a, y :: b => by
    have e : eqBs (N (x :: a)) (N (y :: b)) = (eqB (.int (x : Int)) (.int (y : Int)) && eqBs (N a) (N b)) := by
      show eqBs (D.int (x : Int) :: N a) (D.int (y : Int) :: N b) = _
      rw [eqBs]
    have e2 : eqB (.int (x : Int)) (.int (y : Int)) = decide (x = y) := by rw [eqB]; exact decide_eq_decide.mpr (by omega)
    rw [e, e2, eqBs_N a b, ← Bool.decide_and]
    apply decide_eq_decide.mpr
    simp
theorem eq_N (a b : List Nat) : pEq (.lst (N a)) (.lst (N b)) = some (.bl (decide (a = b))) := by
  have e : pEq (.lst (N a)) (.lst (N b)) = if flat (.lst (N a)) && flat (.lst (N b)) then some (.bl (eqB (.lst (N a)) (.lst (N b)))) else none := rfl
  have e2 : eqB (.lst (N a)) (.lst (N b)) = eqBs (N a) (N b) := by rw [eqB]
  rw [e, flat_lst N_plainD, flat_lst N_plainD, e2, eqBs_N]
  rfl
theorem ixN_0 {x : Nat} {l : List Nat} : pIx (.lst (N (x :: l))) (.int 0) = some (.int (x : Int)) := by
  have e : pIx (.lst (N (x :: l))) (.int 0) = (ixN (N (x :: l)).length 0).bind fun j => (N (x :: l))[j]? := rfl
  have h : ixN (N (x :: l)).length 0 = some 0 := by
    unfold ixN
    rw [N_len, if_pos (by omega), if_pos (by rw [List.length_cons]; omega)]
    rfl
  rw [e, h]
  rfl
theorem ixN_l {l : List Nat} (h : l ≠ []) : pIx (.lst (N l)) (.int (-1)) = some (.int ((l.getLast h : Nat) : Int)) := by
  have e : pIx (.lst (N l)) (.int (-1)) = (ixN (N l).length (-1)).bind fun j => (N l)[j]? := rfl
  have hl : 0 < l.length := List.length_pos_iff.mpr h
  have h : ixN (N l).length (-1) = some (l.length - 1) := by
    unfold ixN
    rw [N_len, if_neg (by omega), if_pos (by omega)]
    congr 1
    omega
  rw [e, h]
  show (N l)[l.length - 1]? = _
  rw [N, List.getElem?_map, List.getElem?_eq_getElem (by omega), List.getLast_eq_getElem]
  rfl
/-! each number once -/
def onceN : List Nat → List Nat
  | [] => []
  | x :: xs => x :: (onceN xs).filter fun y => !decide (x = y)
theorem once_N : ∀ l : List Nat, once (N l) = N (onceN l)
  | [] => rfl
  | x :: l => by
    show .int (x : Int) :: (once (N l)).filter (fun y => !eqB (.int (x : Int)) y) = _
    rw [once_N l, onceN, N_cons]
    congr 1
    rw [N, N, List.filter_map]
    congr 1
    apply List.filter_congr
    intro y _
    show (!eqB (.int (x : Int)) (.int (y : Int))) = _
    rw [eqB]
    congr 1
    exact decide_eq_decide.mpr (by omega)
theorem onceN_mem {x : Nat} : ∀ {l : List Nat}, x ∈ onceN l ↔ x ∈ l
  | [] => Iff.rfl
  | y :: l => by
    rw [onceN, List.mem_cons, List.mem_cons, List.mem_filter, onceN_mem]
    constructor
    · rintro (h | h)
      · exact .inl h
      · exact .inr h.1
    · rintro (h | h)
      · exact .inl h
      · by_cases q : x = y
        · exact .inl q
        · exact .inr ⟨h, by simpa using fun e => q e.symm⟩
theorem onceN_nodup : ∀ l : List Nat, (onceN l).Nodup
  | [] => List.nodup_nil
  | x :: l => by
    rw [onceN, List.nodup_cons]
    exact ⟨fun h => by simpa using (List.mem_filter.mp h).2, List.Pairwise.filter _ (onceN_nodup l)⟩
theorem onceN_len : ∀ l : List Nat, (onceN l).length ≤ l.length
  | [] => Nat.le_refl _
  | x :: l => by
    rw [onceN, List.length_cons, List.length_cons]
    have := List.length_filter_le (fun y => !decide (x = y)) (onceN l)
    have := onceN_len l
    omega
theorem uni_N (l : List Nat) : uni (N l) = true := by
  have h : (N l).all isInt = true := by
    rw [List.all_eq_true]
    intro d hd
    obtain ⟨x, _, rfl⟩ := List.mem_map.mp hd
    rfl
  unfold uni
  rw [h, Bool.or_true]
theorem set_N {l : List Nat} (h : l.length ≤ 4000) : pSetS (.lst (N l)) = some (.lst (N (sortN (onceN l)))) := by
  have e : pSetS (.lst (N l)) = if uni (N l) && decide ((N l).length ≤ 4000) then some (.lst (isort (once (N l)))) else none := rfl
  rw [e, uni_N, N_len, decide_eq_true h, once_N, sort_N]
  rfl
theorem setN_N {l : List Nat} (h : l.length ≤ 4000) : pSetN (.lst (N l)) = some (.int ((onceN l).length : Int)) := by
  have e : pSetN (.lst (N l)) = if uni (N l) && decide ((N l).length ≤ 4000) then some (.int ((once (N l)).length : Int)) else none := rfl
  rw [e, uni_N, N_len, decide_eq_true h, once_N, N_len]
  rfl
theorem ints_N : ∀ l : List Nat, toInts (N l) = some (l.map fun k : Nat => (k : Int))
  | [] => rfl
  | x :: l => by
    show (toInts (N l)).map ((x : Int) :: ·) = _
    rw [ints_N l]
    rfl
theorem count_cast (x : Nat) : ∀ l : List Nat, (l.map fun k : Nat => (k : Int)).count (x : Int) = l.count x
  | [] => rfl
  | y :: l => by
    rw [List.map_cons, List.count_cons, List.count_cons, count_cast x l]
    congr 1
    by_cases q : y = x
    · subst q; rw [if_pos (beq_iff_eq.mpr rfl), if_pos (beq_iff_eq.mpr rfl)]
    · rw [if_neg (by rw [beq_iff_eq]; omega), if_neg (by rw [beq_iff_eq]; exact q)]
theorem lcount_N (x : Nat) (l : List Nat) : pLCount (.lst (N l)) (.int (x : Int)) = some (.int ((l.count x : Nat) : Int)) := by
  have e : pLCount (.lst (N l)) (.int (x : Int)) = (toInts (N l)).map fun ns => .int ((ns.count (x : Int) : Nat) : Int) := rfl
  rw [e, ints_N, ← count_cast x l]
  rfl
theorem sum_cast : ∀ l : List Nat, (l.map fun k : Nat => (k : Int)).sum = ((l.sum : Nat) : Int)
  | [] => rfl
  | x :: l => by rw [List.map_cons, List.sum_cons, List.sum_cons, sum_cast l]; omega
theorem sum_N (l : List Nat) : pSum (.lst (N l)) = some (.int ((l.sum : Nat) : Int)) := by
  have e : pSum (.lst (N l)) = (toInts (N l)).map fun ns => .int ns.sum := rfl
  rw [e, ints_N, Option.map_some, sum_cast]
/-- a sum over all, told by the kinds -/
theorem sum_kinds (f : Nat → Nat) : ∀ (l K : List Nat), K.Nodup → (∀ x ∈ l, x ∈ K) → (l.map f).sum = (K.map fun k => l.count k * f k).sum
  | [], K, _, _ => by
    have : ∀ K : List Nat, (K.map fun k => ([] : List Nat).count k * f k).sum = 0 := fun K => by
      induction K with
      | nil => rfl
      | cons k K ih => rw [List.map_cons, List.sum_cons, ih, List.count_nil, Nat.zero_mul]
    rw [this]
    rfl
  | x :: l, K, hK, h => by
    have ih := sum_kinds f l K hK fun z hz => h z (List.mem_cons_of_mem _ hz)
    have step : ∀ K : List Nat, K.Nodup → (K.map fun k => (x :: l).count k * f k).sum = (K.map fun k => l.count k * f k).sum + if x ∈ K then f x else 0 := fun K => by
      induction K with
      | nil => intro _; rfl
      | cons k K ih =>
        intro hk
        have hk' := List.nodup_cons.mp hk
        rw [List.map_cons, List.sum_cons, List.map_cons, List.sum_cons, ih hk'.2, List.count_cons]
        by_cases q : x = k
        · subst q
          rw [if_pos (beq_iff_eq.mpr rfl), if_neg hk'.1, if_pos (List.mem_cons_self ..), Nat.add_mul, Nat.one_mul]
          omega
        · rw [if_neg (by rw [beq_iff_eq]; exact q), Nat.add_zero]
          by_cases z : x ∈ K
          · rw [if_pos z, if_pos (List.mem_cons_of_mem _ z)]; omega
          · rw [if_neg z, if_neg fun w => (List.mem_cons.mp w).elim q z]; omega
    rw [step K hK, if_pos (h x (List.mem_cons_self ..)), List.map_cons, List.sum_cons, ih]
    omega
end Mi.P
end

section
namespace Mi.P
theorem roll_ok {c : Cup} (h : Good c) {many : Int} (h0 : 0 < many) (h1 : many < 1073741824) : ∃ r c', m_Lroll [.cup, .int many] c = .ok (.int r, c') ∧ 0 ≤ r ∧ r < many ∧ Good c' := by
  obtain ⟨x, y, rfl, hx, hy, hy2⟩ := h
  by_cases q : 0 < x
  · refine ⟨x % many, some (x / many, y), ?_, Int.emod_nonneg _ (by omega), Int.emod_lt_of_pos _ h0, ⟨_, _, rfl, Int.ediv_nonneg hx (by omega), hy, hy2⟩⟩
    simp [m_Lroll, truth, pGt, pMod, pInt, pDiv, cupSet, q, h0, h1]
  · have y1 := Int.emod_nonneg (y * 30865 + 8399) (b := 2147482951) (by decide)
    have y2 := Int.emod_lt_of_pos (y * 30865 + 8399) (b := 2147482951) (by decide)
    generalize hz : (y * 30865 + 8399) % 2147482951 = z at y1 y2
    refine ⟨((z * (z + 369)) % 2147483059 / 989) % many, some (x, z), ?_, Int.emod_nonneg _ (Int.ne_of_gt h0), Int.emod_lt_of_pos _ h0, ⟨_, _, rfl, hx, y1, by omega⟩⟩
    have a1 : -18446744073709551616 < z := by omega
    have a2 : z < 18446744073709551616 := by omega
    simp [m_Lroll, truth, pGt, pMod, pInt, pDiv, pMul, pAdd, small, cupSet, q, h0, hz, a1, a2]
theorem some_ok {c : Cup} (h : Good c) {xs : List D} (h0 : xs ≠ []) (h1 : xs.length < 1000000) : ∃ d c', m_Lsome [.cup, .lst xs] c = .ok (d, c') ∧ d ∈ xs ∧ Good c' := by
  have hl : 0 < xs.length := List.length_pos_iff.mpr h0
  obtain ⟨r, c', e, r0, r1, g⟩ := roll_ok h (many := xs.length) (by omega) (by omega)
  obtain ⟨d, hd, e2⟩ := ix_of r0 r1
  exact ⟨d, c', by simp [m_Lsome, pLen, e, e2], hd, g⟩
/-- letters drawn one behind the other -/
theorem draw_ok {xs : List D} (h0 : xs ≠ []) (h1 : xs.length < 1000000) {a : EV} {ρ : Env} {i : Nat} (ha : ∀ d c, a (ρ.set i (.sh d)) c = m_Lsome [.cup, .lst xs] c) : ∀ (ds : List D) {c : Cup}, Good c → ∃ qs c', lcL (gN i) tT a ρ ds c = .ok (qs, c') ∧ qs.length = ds.length ∧ (∀ q ∈ qs, q ∈ xs) ∧ Good c'
  | [], c, h => ⟨[], c, rfl, rfl, (fun _ h => by cases h), h⟩
  | d :: ds, c, h => by
    obtain ⟨q, c1, e1, hq, g1⟩ := some_ok h h0 h1
    obtain ⟨qs, c2, e2, hl, hm, g2⟩ := draw_ok h0 h1 ha ds g1
    refine ⟨q :: qs, c2, ?_, by simp [hl], fun z hz => ?_, g2⟩
    · simp [lcL, ha, e1, e2]
    · rcases List.mem_cons.mp hz with e | e
      · rw [e]; exact hq
      · exact hm z e
theorem word_ok {c : Cup} (h : Good c) {size : Int} (h0 : 0 < size) (h1 : size < 1000) {l : List Nat} (hl : l ≠ []) (hl2 : l.length < 1000) : ∃ s c', m_Lword [.cup, .int size, .lst (letters l)] c = .ok (.str s, c') ∧ 1 ≤ s.length ∧ (s.length : Int) ≤ size ∧ (∀ x ∈ s, x ∈ l) ∧ Good c' := by
  obtain ⟨r, c1, e1, r0, r1, g1⟩ := roll_ok h h0 (by omega)
  have hne : letters l ≠ [] := by simpa [letters] using hl
  obtain ⟨qs, c2, e2, hq, hm, g2⟩ := draw_ok (a := eCall m_Lsome [eV 0, eV 2]) (ρ := [.sh .cup, .sh (.int size), .sh (.lst (letters l)), .un]) (i := 3) hne (by simp [letters]; omega) (fun d c => by simp) (intsD 0 (1 + r).toNat) g1
  rw [intsD_length] at hq
  obtain ⟨s, e3, hs, hsm⟩ := strs_letters hm
  refine ⟨s, c2, ?_, by omega, by omega, hsm, g2⟩
  have ok : okI (1 + r) = true := okI_of (by omega)
  have hf : fit (.ok (qs, c2)) = .ok (qs, c2) := fit_of (by show qs.length ≤ 16777216; omega)
  have hj := join_str e3 (by show s.length ≤ 16777216; omega)
  simp [m_Lword, e1, pAdd, ok, e2, hf, isStr, hj]
theorem fits_ok {w : List Nat} (h : Word w) {c : Cup} : m_fits_word [.str w] c = .ok (.bl true, c) := by
  have e := lc_all (g := gN 1) (a := e2 pIn (eB 1) (eK (.str LETS))) (f := fun _ => .bl true) (ρ := [.sh (.str w), .un]) (c := c) (ds := w.map fun c => D.str [c]) fun x hx => by
    obtain ⟨z, hz, rfl⟩ := List.mem_map.mp hx
    exact ⟨_, rfl, by simp [in_lets z (h.m z hz)]⟩
  have h1 : (1 : Int) ≤ w.length := by have := h.l0; omega
  have h2 : (w.length : Int) ≤ 12 := by have := h.l1; omega
  have hf : ∀ q : List D, q.length ≤ 12 → fit (.ok (q, c)) = .ok (q, c) := fun q hq => fit_of (by show q.length ≤ 16777216; omega)
  have ha := all_true (ds := (w.map fun c => D.str [c]).map fun _ => D.bl true) fun d hd => by
    obtain ⟨_, _, rfl⟩ := List.mem_map.mp hd
    rfl
  have hf2 := hf ((w.map fun c => D.str [c]).map fun _ => D.bl true) (by simpa using h.l1)
  simp only [LETS] at e
  simp only [m_fits_word, s_mkF]
  simp [isi_str, truth, pLen, h.line, pLe, h1, h2, walk, items]
  rw [e, hf2]
  simp only [s_quiet, R.bind_ok]
  rw [ha]
  rfl
theorem need_ok {w : List Nat} (h : Word w) {c : Cup} : m_need_word [.str w] c = .ok (.non, c) := by
  simp [m_need_word, fits_ok h, truth]
theorem same_str (n : Nat) (a : T) {c : Cup} : m_Lsame (n + 1) [.str a, .str a] c = .ok (.bl true, c) :=
  v_fun rfl (v_seq (v_if0 (v_tE (v_1 (v_B rfl) (z := .bl false) rfl) (v := false) rfl) v_skip)
    (v_seq (v_if0 (v_tE (v_2 (v_B rfl) v_K (z := .bl false) rfl) (v := false) rfl) v_skip)
    (v_seq (v_if0 (v_tE (v_1 (v_B rfl) (z := .bl false) rfl) (v := false) rfl) v_skip)
    (v_seq (v_if0 (v_tE (v_1 (v_B rfl) (z := .bl false) rfl) (v := false) rfl) v_skip)
    (v_ret (v_and1 (v_1 (v_B rfl) (z := .bl true) rfl) rfl (v_2 (v_1 (v_B rfl) rfl) (v_B rfl) (eq_str a))))))))
theorem same_tup {n : Nat} {xs : List D} {c : Cup} (hl : xs.length ≤ 60) (h : ∀ x ∈ xs, m_Lsame n [x, x] c = .ok (.bl true, c)) : m_Lsame (n + 1) [.tup xs, .tup xs] c = .ok (.bl true, c) := by
  have e := lc_all (g := gN 2) (a := eCall (m_Lsame n) [e2 pIx (eB 0) (eB 2), e2 pIx (eB 1) (eB 2)]) (f := fun _ => .bl true) (ρ := [.sh (.tup xs), .sh (.tup xs), .un]) (c := c) (ds := intsD 0 xs.length) fun x hx => by
    obtain ⟨k, hk, rfl⟩ := intsD_mem hx
    rw [Int.zero_add]
    exact ⟨_, rfl, v_call (v_s1 (v_2 (v_B rfl) (v_B rfl) (ixT hk)) (v_s1 (v_2 (v_B rfl) (v_B rfl) (ixT hk)) v_s0)) (h _ (List.getElem_mem _))⟩
  have ok : okI (xs.length : Int) = true := okI_of (by omega)
  have ha := all_true (ds := (intsD 0 xs.length).map fun _ => D.bl true) fun d hd => by
    obtain ⟨_, _, rfl⟩ := List.mem_map.mp hd
    rfl
  have hne : pNe (.int xs.length) (.int xs.length) = some (.bl false) := by simp [pNe, flat, plain, dep, eqB]
  have hlen : pLen (.tup xs) = some (.int xs.length) := rfl
  refine v_fun rfl (v_seqR (v_if1 (v_tE (v_1 (v_B rfl) (z := .bl true) rfl) (v := true) rfl) (v_seq (v_if0 (v_or0 (v_nt (v_tE (v_1 (v_B rfl) (z := .bl true) rfl) (v := true) rfl)) (v_tE (v_2 (v_1 (v_B rfl) hlen) (v_1 (v_B rfl) hlen) hne) (v := false) rfl)) v_skip) (v_ret (v_1 (v_Lc (v_R1 (v_1 (v_B rfl) hlen) ok) (?_ : lcL _ _ _ _ _ _ = .ok ((intsD 0 xs.length).map fun _ => D.bl true, c)) ?_) ha)))))
  · rw [Int.toNat_natCast]; exact e
  · rw [List.length_map, intsD_length]; exact Nat.le_trans hl (by decide)
theorem same_strs {n : Nat} {l : List T} {c : Cup} (hl : l.length ≤ 60) : m_Lsame (n + 2) [.tup (S l), .tup (S l)] c = .ok (.bl true, c) :=
  same_tup (by rw [S_len]; exact hl) fun x hx => by
    obtain ⟨y, _, rfl⟩ := List.mem_map.mp hx
    exact same_str n y
theorem cup_ok {ns : List Int} (hl : ns.length ≤ 63) : ∃ x y : Int, m_Lcup [.scr ns] none = .ok (.lst [.int x, .int y], none) ∧ 0 ≤ x ∧ 0 ≤ y ∧ y < 2147483648 := by
  have hL : pList (.scr ns) = some (.lst (ns.map .int)) := by
    have e : pList (.scr ns) = if (ns.map D.int).length ≤ line then some (.lst (ns.map .int)) else none := rfl
    rw [e, if_pos (Nat.le_trans (by rw [List.length_map]; exact hl : _ ≤ 63) (by decide))]
  have hA : pAdd (.lst (ns.map .int)) (.lst [.int 0]) = some (.lst (ns.map D.int ++ [D.int 0])) := by
    have e : pAdd (.lst (ns.map .int)) (.lst [.int 0]) = if (ns.map D.int).length + [D.int 0].length ≤ line then some (.lst (ns.map D.int ++ [D.int 0])) else none := rfl
    rw [e, if_pos (Nat.le_trans (by rw [List.length_map, List.length_singleton]; omega : _ ≤ 64) (by decide))]
  obtain ⟨d, hI⟩ : ∃ d : Int, pIx (.lst (ns.map D.int ++ [D.int 0])) (.int 0) = some (.int d) := by
    cases ns with
    | nil => exact ⟨0, rfl⟩
    | cons n r =>
      refine ⟨n, ?_⟩
      have e : pIx (.lst ((n :: r).map D.int ++ [D.int 0])) (.int 0) = (ixN ((n :: r).map D.int ++ [D.int 0]).length 0).bind fun j => ((n :: r).map D.int ++ [D.int 0])[j]? := rfl
      have h4 : ixN ((n :: r).map D.int ++ [D.int 0]).length 0 = some 0 := by
        unfold ixN
        rw [if_pos (by omega), if_pos (by rw [List.length_append, List.length_singleton]; omega)]
        rfl
      rw [e, h4]
      rfl
  have hB : pAbs (.int d) = some (.int (if d < 0 then -d else d)) := rfl
  have hv : 0 ≤ (if d < 0 then -d else d) := by split <;> omega
  generalize (if d < 0 then -d else d) = v at hB hv
  have y1 := Int.emod_nonneg (v * 515 + 4635) (b := 2077513177) (by decide)
  have y2 := Int.emod_lt_of_pos (v * 515 + 4635) (b := 2077513177) (by decide)
  have hm : pMul (.int v) (.int 515) = some (.int (v * 515)) := by
    have e : pMul (.int v) (.int 515) = if (small v || small 515) = true then some (.int (v * 515)) else none := rfl
    rw [e, small_of (i := 515) (by decide), Bool.or_true, if_pos rfl]
  have hmo : pMod (.int (v * 515 + 4635)) (.int 2077513177) = some (.int ((v * 515 + 4635) % 2077513177)) := by
    have e : pMod (.int (v * 515 + 4635)) (.int 2077513177) = if 0 < (2077513177 : Int) then some (.int ((v * 515 + 4635) % 2077513177)) else none := rfl
    rw [e, if_pos (by decide)]
  have hdi : pDiv (.int v) (.int 1409) = some (.int (v / 1409)) := by
    have e : pDiv (.int v) (.int 1409) = if 0 < (1409 : Int) ∧ (1409 : Int) < 1073741824 then some (.int (v / 1409)) else none := rfl
    rw [e, if_pos (by decide)]
  have had : ∀ a b : Int, pAdd (.int a) (.int b) = some (.int (a + b)) := fun _ _ => rfl
  have hge : pGe (.int v) (.int 1000000000000000000) = some (.bl (decide (1000000000000000000 ≤ v))) := rfl
  have hi : ∀ a : Int, pInt (.int a) = some (.int a) := fun _ => rfl
  have body : ∀ x : Int, (eIf (tE (e2 pGe (eB 1) (e2 pPow (eK (.int 10)) (eK (.int 18))))) (e2 pDiv (eB 1) (eK (.int 1409))) (eK (.int 0))) [.sh (.scr ns), .sh (.int v)] none = .ok (.int x, none) → m_Lcup [.scr ns] none = .ok (.lst [.int x, .int ((v * 515 + 4635) % 2077513177 + 255)], none) := fun x hx =>
    v_mkO rfl (v_asg (v_1 (v_2 (v_2 (v_1 (v_B rfl) hL) (v_lst (v_s1 v_K v_s0)) hA) v_K hI) hB) rfl) (v_lst (v_s1 hx (v_s1 (v_2 (v_2 (v_1 (v_2 (v_2 (v_B rfl) v_K hm) v_K (had _ _)) (hi _)) v_K hmo) v_K (had _ _)) v_s0)))
  by_cases q : 1000000000000000000 ≤ v
  · rw [decide_eq_true q] at hge
    exact ⟨v / 1409, _, body _ (v_eIf1 (v_tE (v_2 (v_B rfl) (v_2 v_K v_K pow18) hge) rfl) (v_2 (v_B rfl) v_K hdi)), Int.ediv_nonneg hv (by decide), by omega, by omega⟩
  · rw [decide_eq_false q] at hge
    exact ⟨0, _, body _ (v_eIf0 (v_tE (v_2 (v_B rfl) (v_2 v_K v_K pow18) hge) rfl) v_K), by decide, by omega, by omega⟩
end Mi.P
end

section
namespace Mi.P
local macro_rules | `(tactic| infer_instance) => `(tactic| first
  | with_reducible exact v_K
  | ((with_reducible apply v_V); rfl)
  | ((with_reducible apply v_B); rfl)
  | ((with_reducible apply v_O); rfl)
  | (with_reducible apply v_s0)
  | (with_reducible apply v_s1)
  | (with_reducible apply v_1)
  | (with_reducible apply v_2)
  | (with_reducible apply v_tup)
  | (with_reducible apply v_lst)
  | (with_reducible apply v_call)
  | (with_reducible apply v_M)
  | (with_reducible apply v_Lc)
  | (with_reducible apply v_iE)
  | (with_reducible apply v_R1)
  | (with_reducible apply v_R2)
  | (with_reducible apply w_R3)
  | (with_reducible apply v_tE)
  | (with_reducible apply v_tN)
  | (with_reducible apply w_if)
  | (with_reducible apply w_seq)
  | (with_reducible apply v_exp)
  | (with_reducible apply v_ret)
  | (with_reducible apply v_asg)
  | (with_reducible apply v_own)
  | (with_reducible apply v_for)
  | (with_reducible apply v_enum)
  | (with_reducible apply w_DV)
  | (with_reducible apply w_DI)
  | (with_reducible apply w_zip)
  | (with_reducible apply w_sl)
  | (with_reducible apply w_sl3)
  | (with_reducible apply w_oE)
  | (with_reducible apply w_and)
  | (with_reducible apply w_or)
  | (with_reducible apply w_tAnd)
  | (with_reducible apply w_tOr)
  | (with_reducible apply w_eIf)
  | (with_reducible apply w_chn)
  | (with_reducible apply w_chnT)
  | (with_reducible apply w_par)
  | (with_reducible apply w_par3)
  | (with_reducible apply w_kill)
  | (with_reducible apply w_disp1)
  | (with_reducible apply w_dc)
  | ((with_reducible apply w_rem); rfl)
  | ((with_reducible apply w_pop); rfl)
  | ((with_reducible apply w_upd); rfl)
  | (with_reducible apply w_M3)
  | (with_reducible apply br_t)
  | (with_reducible apply br_f)
  | (with_reducible apply br_nf)
  | (with_reducible apply br_nt)
  | (with_reducible apply nxt_n)
  | (with_reducible apply nxt_r)
  | (with_reducible apply v_frz)
  | ((with_reducible apply w_app); rfl)
  | ((with_reducible apply v_set); rfl)
  | ((with_reducible apply w_aug); rfl)
  | ((with_reducible apply w_ext); rfl)
  | with_reducible exact v_skip
  | with_reducible exact s_tT
  | with_reducible exact s_oE0
  | with_reducible exact s_eDct
  | with_reducible exact f_nil
  | with_reducible exact v_lc0
  | with_reducible exact tr_bl
  | with_reducible exact tr_int
  | with_reducible exact tr_non
  | with_reducible exact rv_tup
  | with_reducible exact dn_0
  | with_reducible exact de_0
  | with_reducible exact wk_lst
  | with_reducible exact wk_tup
  | with_reducible exact sq_lst
  | with_reducible exact sq_tup
  | with_reducible exact len_S
  | with_reducible exact len_tS
  | with_reducible exact len_ones
  | with_reducible exact len_tones
  | with_reducible exact len_map
  | with_reducible exact len_tmap
  | with_reducible exact ln_lst
  | with_reducible exact ln_tup
  | with_reducible exact ln_dct
  | with_reducible exact ad_int
  | with_reducible exact sb_int
  | with_reducible exact ng_int
  | with_reducible exact lt_int
  | with_reducible exact le_int
  | with_reducible exact gt_int
  | with_reducible exact ge_int
  | with_reducible exact lt_txt
  | with_reducible exact le_txt
  | with_reducible exact gt_txt
  | with_reducible exact nt_bl
  | with_reducible exact in_int
  | with_reducible exact st_str
  | with_reducible exact is_bl
  | with_reducible exact isnot_bl
  | with_reducible exact ix_0
  | with_reducible exact ix_1
  | with_reducible exact ck_str
  | with_reducible exact ck_lst
  | with_reducible exact key_str
  | with_reducible exact key_int
  | with_reducible exact wk_dct
  | with_reducible exact ck_dct
  | with_reducible exact g_N
  | with_reducible exact g_T2
  | with_reducible exact g_T3
  | with_reducible exact ii_int_non
  | with_reducible exact ii_int_bl
  | with_reducible exact ii_int_int
  | with_reducible exact ii_int_str
  | with_reducible exact ii_int_tup
  | with_reducible exact ii_int_lst
  | with_reducible exact ii_bool_non
  | with_reducible exact ii_bool_bl
  | with_reducible exact ii_bool_int
  | with_reducible exact ii_bool_str
  | with_reducible exact ii_bool_tup
  | with_reducible exact ii_bool_lst
  | with_reducible exact ii_str_non
  | with_reducible exact ii_str_bl
  | with_reducible exact ii_str_int
  | with_reducible exact ii_str_str
  | with_reducible exact ii_str_tup
  | with_reducible exact ii_str_lst
  | with_reducible exact ii_tuple_non
  | with_reducible exact ii_tuple_bl
  | with_reducible exact ii_tuple_int
  | with_reducible exact ii_tuple_str
  | with_reducible exact ii_tuple_tup
  | with_reducible exact ii_tuple_lst
  | with_reducible exact ii_list_non
  | with_reducible exact ii_list_bl
  | with_reducible exact ii_list_int
  | with_reducible exact ii_list_str
  | with_reducible exact ii_list_tup
  | with_reducible exact ii_list_lst
  | with_reducible exact ii_dict_non
  | with_reducible exact ii_dict_bl
  | with_reducible exact ii_dict_int
  | with_reducible exact ii_dict_str
  | with_reducible exact ii_dict_tup
  | with_reducible exact ii_dict_lst
  | with_reducible exact isn_non
  | with_reducible exact inn_non
  | with_reducible exact isn_bl
  | with_reducible exact inn_bl
  | with_reducible exact isn_int
  | with_reducible exact inn_int
  | with_reducible exact isn_str
  | with_reducible exact inn_str
  | with_reducible exact isn_tup
  | with_reducible exact inn_tup
  | with_reducible exact isn_lst
  | with_reducible exact inn_lst
  | with_reducible exact isn_dct
  | with_reducible exact inn_dct
  | (with_reducible exact ok_rfl))
theorem letters_left {w ls : T} {d : D} (h : Has d ls) {i : Nat} {ρ : Env} {c : Cup} {a : EV} (ha : ∀ x, a (ρ.set i (.sh (.str [x]))) c = .ok (d, c)) (hi : i < ρ.length) : lcL (gN i) (tE (e2 pNotIn (eB i) a)) (eV i) ρ (ones w) c = .ok (ones (w.filter fun x => !decide (x ∈ ls)), c) := by
  have e := lc_map (g := gN i) (t := tE (e2 pNotIn (eB i) a)) (a := eV i) (f := id) (p := fun | .str [x] => !decide (x ∈ ls) | _ => false) (ρ := ρ) (c := c) (ds := ones w) fun x hx => by
    obtain ⟨y, _, rfl⟩ := List.mem_map.mp hx
    have g := List.getElem?_set_self (l := ρ) (a := Sl.sh (.str [y])) hi
    exact ⟨_, rfl, v_tE (v_2 (v_B g) (ha y) (notIn_of' (h y))) rfl, fun _ => v_V g⟩
  rw [e, List.map_id, ones, ones, List.filter_map]
  rfl
theorem eq_nil (l : T) : pEq (.lst (ones l)) (.lst []) = some (.bl (decide (l = []))) := by
  have hf : flat (.lst (ones l)) = true := by
    unfold flat
    rw [ones_S]
    have h1 : plain (.lst (S (one1 l))) = plains (S (one1 l)) := by rw [plain]
    have h2 := S_dep (one1 l)
    have h3 : dep (.lst (S (one1 l))) = deps (S (one1 l)) + 1 := by rw [dep]
    rw [h1, S_plain, Bool.true_and, decide_eq_true_eq, h3]
    omega
  have hf2 : flat (.lst []) = true := by decide +kernel
  have e : pEq (.lst (ones l)) (.lst []) = if flat (.lst (ones l)) && flat (.lst []) then some (.bl (eqB (.lst (ones l)) (.lst []))) else none := rfl
  rw [e, hf, hf2]
  cases l with
  | nil => simp [ones, eqB, eqBs]
  | cons x l => simp [ones, eqB, eqBs]
theorem all_left (w ls : T) : decide ((w.filter fun x => !decide (x ∈ ls)) = []) = w.all fun x => decide (x ∈ ls) := by
  rw [Bool.eq_iff_iff, decide_eq_true_eq, List.filter_eq_nil_iff, List.all_eq_true]
  constructor
  · intro h x hx
    have := h x hx
    simpa using this
  · intro h x hx
    have := h x hx
    simpa using this
theorem S_line {l : List T} (h : l.length ≤ 4000) : (S l).length ≤ line := by rw [S_len]; exact Nat.le_trans h (by decide)
theorem ones_line {l : T} (h : l.length ≤ 4000) : (ones l).length ≤ line := by rw [ones_len]; exact Nat.le_trans h (by decide)
theorem same_tupB {n : Nat} {xs : List D} {c : Cup} (hl : xs.length ≤ 4000) (h : ∀ x ∈ xs, m_Lsame n [x, x] c = .ok (.bl true, c)) : m_Lsame (n + 1) [.tup xs, .tup xs] c = .ok (.bl true, c) := by
  have e := lc_all (g := gN 2) (a := eCall (m_Lsame n) [e2 pIx (eB 0) (eB 2), e2 pIx (eB 1) (eB 2)]) (f := fun _ => .bl true) (ρ := [.sh (.tup xs), .sh (.tup xs), .un]) (c := c) (ds := intsD 0 xs.length) fun x hx => by
    obtain ⟨k, hk, rfl⟩ := intsD_mem hx
    rw [Int.zero_add]
    exact ⟨_, rfl, v_call (v_s1 (v_2 (v_B rfl) (v_B rfl) (ixT hk)) (v_s1 (v_2 (v_B rfl) (v_B rfl) (ixT hk)) v_s0)) (h _ (List.getElem_mem _))⟩
  have ok : okI (xs.length : Int) = true := okI_of (by omega)
  have ha := all_true (ds := (intsD 0 xs.length).map fun _ => D.bl true) fun d hd => by
    obtain ⟨_, _, rfl⟩ := List.mem_map.mp hd
    rfl
  have hne : pNe (.int xs.length) (.int xs.length) = some (.bl false) := by simp [pNe, flat, plain, dep, eqB]
  have hlen : pLen (.tup xs) = some (.int xs.length) := rfl
  refine v_fun rfl (v_seqR (v_if1 (v_tE (v_1 (v_B rfl) (z := .bl true) rfl) (v := true) rfl) (v_seq (v_if0 (v_or0 (v_nt (v_tE (v_1 (v_B rfl) (z := .bl true) rfl) (v := true) rfl)) (v_tE (v_2 (v_1 (v_B rfl) hlen) (v_1 (v_B rfl) hlen) hne) (v := false) rfl)) v_skip) (v_ret (v_1 (v_Lc (v_R1 (v_1 (v_B rfl) hlen) ok) (?_ : lcL _ _ _ _ _ _ = .ok ((intsD 0 xs.length).map fun _ => D.bl true, c)) ?_) ha)))))
  · rw [Int.toNat_natCast]; exact e
  · rw [List.length_map, intsD_length]; exact Nat.le_trans hl (by decide)
theorem same_non (n : Nat) {c : Cup} : m_Lsame (n + 1) [.non, .non] c = .ok (.bl true, c) := by
  unfold m_Lsame
  apply w_fun rfl
  · repeat infer_instance
  · rfl
theorem same_int (n : Nat) (i : Int) {c : Cup} : m_Lsame (n + 1) [.int i, .int i] c = .ok (.bl true, c) := by
  unfold m_Lsame
  apply w_fun rfl
  · repeat infer_instance
    exact eq_int i i
    repeat infer_instance
  · rw [decide_eq_true rfl]; rfl
theorem same_bl (n : Nat) (b : Bool) {c : Cup} : m_Lsame (n + 1) [.bl b, .bl b] c = .ok (.bl true, c) := by
  cases b
  all_goals
    unfold m_Lsame
    apply w_fun rfl
    · repeat infer_instance
    · rfl
/-- letters: rising ones -/
structure Lets (s : T) : Prop where
  r : Rise (one1 s)
  m : ∀ x ∈ s, x ∈ LETS
  l : s.length ≤ 30
theorem S_one1 (s : T) : ones s = S (one1 s) := ones_S s
def inL (s : T) : Bool := s.all fun x => decide (x ∈ LETS)
/-- a list of words -/
structure Ws (ws : List T) : Prop where
  r : Rise ws
  m : ∀ w ∈ ws, Word w
  l : ws.length ≤ 60
/-! dicts whose keys are texts -/
theorem keys_cons {p : D × D} {r : List (D × D)} {ks : List T} (h : (p :: r).map (·.1) = S ks) : ∃ a b q, p = (.str a, b) ∧ ks = a :: q ∧ r.map (·.1) = S q := by
  cases ks with
  | nil => cases h
  | cons a q =>
    have e : p.1 :: r.map (·.1) = .str a :: S q := h
    injection e with e1 e2
    exact ⟨a, p.2, q, by rw [← e1], rfl, e2⟩
theorem dget_cons (a k : T) (b : D) (r : List (D × D)) : dget ((.str a, b) :: r) (.str k) = if a = k then some b else dget r (.str k) := by
  have e : dget ((.str a, b) :: r) (.str k) = if eqB (.str a) (.str k) = true then some b else dget r (.str k) := rfl
  rw [e, eqB_str]
  by_cases q : a = k
  · rw [if_pos q, if_pos (decide_eq_true q)]
  · rw [if_neg q, if_neg (by rw [decide_eq_true_eq]; exact q)]
theorem any_key (s : T) : ∀ {kvs : List (D × D)} {ks : List T}, kvs.map (·.1) = S ks → (kvs.any fun p => eqB p.1 (.str s)) = decide (s ∈ ks)
  | [], ks, h => by
    cases ks with
    | nil => rfl
    | cons => cases h
  | p :: r, ks, h => by
    obtain ⟨a, b, q, rfl, rfl, hr⟩ := keys_cons h
    rw [List.any_cons, any_key s hr, eqB_str, ← Bool.decide_or]
    apply decide_eq_decide.mpr
    rw [List.mem_cons]
    exact ⟨fun z => z.imp (fun e => e.symm) id, fun z => z.imp (fun e => e.symm) id⟩
theorem dget_put_map (s t : T) (v : D) : ∀ {kvs : List (D × D)} {ks : List T}, kvs.map (·.1) = S ks → dget (kvs.map fun p => if eqB p.1 (.str s) = true then (p.1, v) else p) (.str t) = if s = t then (if s ∈ ks then some v else none) else dget kvs (.str t)
  | [], ks, h => by
    cases ks with
    | nil => simp [dget]
    | cons => cases h
  | p :: r, ks, h => by
    obtain ⟨a, b, q, rfl, rfl, hr⟩ := keys_cons h
    have ih := dget_put_map s t v hr
    rw [List.map_cons]
    by_cases e : a = s
    · subst e
      have e1 : (if eqB ((D.str a, b) : D × D).1 (.str a) = true then (((D.str a, b) : D × D).1, v) else ((D.str a, b) : D × D)) = (D.str a, v) := if_pos (by show eqB (.str a) (.str a) = true; rw [eqB_str]; exact decide_eq_true rfl)
      rw [e1, dget_cons, dget_cons, ih]
      by_cases z : a = t
      · rw [if_pos z, if_pos z, if_pos (List.mem_cons_self ..)]
      · rw [if_neg z, if_neg z, if_neg z, if_neg z]
    · have e1 : (if eqB ((D.str a, b) : D × D).1 (.str s) = true then (((D.str a, b) : D × D).1, v) else ((D.str a, b) : D × D)) = (D.str a, b) := if_neg (by show ¬eqB (.str a) (.str s) = true; rw [eqB_str, decide_eq_true_eq]; exact e)
      rw [e1, dget_cons, dget_cons, ih]
      by_cases z : s = t
      · rw [if_pos z, if_pos z, if_neg (fun w => e (w.trans z.symm))]
        by_cases m : s ∈ q
        · rw [if_pos m, if_pos (List.mem_cons_of_mem _ m)]
        · rw [if_neg m, if_neg (fun w => (List.mem_cons.mp w).elim (fun w => e w.symm) m)]
      · rw [if_neg z, if_neg z]
theorem dget_app (s t : T) (v : D) : ∀ {kvs : List (D × D)} {ks : List T}, kvs.map (·.1) = S ks → s ∉ ks → dget (kvs ++ [(.str s, v)]) (.str t) = if s = t then some v else dget kvs (.str t)
  | [], ks, h, _ => by
    show dget [(.str s, v)] (.str t) = _
    rw [dget_cons]
  | p :: r, ks, h, hs => by
    obtain ⟨a, b, q, rfl, rfl, hr⟩ := keys_cons h
    have ih := dget_app s t v hr fun m => hs (List.mem_cons_of_mem _ m)
    show dget ((.str a, b) :: (r ++ [(.str s, v)])) (.str t) = _
    rw [dget_cons, dget_cons, ih]
    by_cases e : a = t
    · rw [if_pos e, if_pos e, if_neg fun w => hs (by rw [w, ← e]; exact List.mem_cons_self ..)]
    · rw [if_neg e, if_neg e]
theorem dget_put {kvs : List (D × D)} {ks : List T} (h : kvs.map (·.1) = S ks) (s t : T) (v : D) : dget (dput kvs (.str s) v) (.str t) = if s = t then some v else dget kvs (.str t) := by
  unfold dput
  rw [any_key s h]
  by_cases q : s ∈ ks
  · rw [if_pos (decide_eq_true q), dget_put_map s t v h, if_pos q]
  · rw [if_neg (by rw [decide_eq_true_eq]; exact q), dget_app s t v h q]
theorem put_keys {kvs : List (D × D)} {ks : List T} (h : kvs.map (·.1) = S ks) (hn : ks.Nodup) (s : T) (v : D) : ∃ ks', (dput kvs (.str s) v).map (·.1) = S ks' ∧ ks'.Nodup ∧ (∀ x, x ∈ ks' ↔ x = s ∨ x ∈ ks) ∧ ks'.length ≤ ks.length + 1 := by
  unfold dput
  rw [any_key s h]
  by_cases q : s ∈ ks
  · rw [if_pos (decide_eq_true q)]
    refine ⟨ks, ?_, hn, fun x => ⟨.inr, fun e => e.elim (fun e => e ▸ q) id⟩, by omega⟩
    rw [List.map_map, ← h]
    apply List.map_congr_left
    intro p _
    show (if _ then _ else _ : D × D).1 = _
    split <;> rfl
  · rw [if_neg (by rw [decide_eq_true_eq]; exact q)]
    refine ⟨ks ++ [s], ?_, ?_, fun x => ?_, by simp⟩
    · rw [List.map_append, h, S, S, List.map_append]; rfl
    · rw [List.nodup_append]
      exact ⟨hn, by simp, fun x hx y hy e => q (by rw [List.mem_singleton.mp hy] at e; rw [← e]; exact hx)⟩
    · rw [List.mem_append, List.mem_singleton, or_comm]
theorem dget_has {k : T} : ∀ {kvs : List (D × D)} {ks : List T}, kvs.map (·.1) = S ks → k ∈ ks → ∃ v, dget kvs (.str k) = some v
  | [], ks, h, hk => by
    cases ks with
    | nil => cases hk
    | cons => cases h
  | p :: r, ks, h, hk => by
    obtain ⟨a, b, q, rfl, rfl, hr⟩ := keys_cons h
    rw [dget_cons]
    by_cases e : a = k
    · exact ⟨b, if_pos e⟩
    · rw [if_neg e]
      exact dget_has hr ((List.mem_cons.mp hk).elim (fun z => absurd z.symm e) id)
theorem set_dict {kvs : List (D × D)} {ks : List T} (h : kvs.map (·.1) = S ks) (hl : ks.length ≤ 4000) (s : T) (v : D) : setD (.dct kvs) (.str s) v = some (.dct (dput kvs (.str s) v)) := by
  have hk : kvs.length < line := by
    have : (kvs.map (·.1)).length = ks.length := by rw [h, S_len]
    rw [List.length_map] at this
    exact Nat.lt_of_le_of_lt (show kvs.length ≤ 4000 by omega) (by decide)
  have e : setD (.dct kvs) (.str s) v = if isKey (.str s) && decide (kvs.length < line) then some (.dct (dput kvs (.str s) v)) else none := rfl
  rw [e, decide_eq_true hk]
  rfl
theorem get_dict (kvs : List (D × D)) (k : T) (z : D) : pGet (.dct kvs) (.str k) z = some ((dget kvs (.str k)).getD z) := rfl
theorem ix_dict {kvs : List (D × D)} {k : T} {v : D} (h : dget kvs (.str k) = some v) : pIx (.dct kvs) (.str k) = some v := h
theorem cat_tupS {a b : List T} (h : a.length + b.length ≤ 4000) : pAdd (.tup (S a)) (.tup (S b)) = some (.tup (S (a ++ b))) := by
  have e : pAdd (.tup (S a)) (.tup (S b)) = if (S a).length + (S b).length ≤ line then some (.tup (S a ++ S b)) else none := rfl
  rw [e, S_len, S_len, if_pos (Nat.le_trans h (by decide)), S, S, S, List.map_append]
def lastS (a : Sl) (l : List D) : Sl := l.foldl (fun _ d => .sh d) a
/-! like with like -/
mutual
def sim : Nat → D → Bool
  | _, .non => true
  | _, .bl _ => true
  | _, .int _ => true
  | _, .str _ => true
  | 0, _ => false
  | n + 1, .tup xs => decide (xs.length ≤ 4000) && sims n xs
  | _, _ => false
def sims : Nat → List D → Bool
  | _, [] => true
  | n, x :: xs => sim n x && sims n xs
end
theorem sims_mem {n : Nat} : ∀ {xs : List D}, sims n xs = true → ∀ x ∈ xs, sim n x = true
  | y :: ys, h, x, hx => by
    have h' : (sim n y && sims n ys) = true := by rwa [sims] at h
    rw [Bool.and_eq_true] at h'
    rcases List.mem_cons.mp hx with e | e
    · rw [e]; exact h'.1
    · exact sims_mem h'.2 x e
theorem sims_of {n : Nat} : ∀ {xs : List D}, (∀ x ∈ xs, sim n x = true) → sims n xs = true
  | [], _ => by rw [sims]
  | y :: ys, h => by
    rw [sims, h y (List.mem_cons_self ..), sims_of fun x hx => h x (List.mem_cons_of_mem _ hx)]
    rfl
theorem sim_tup {n : Nat} {xs : List D} (hl : xs.length ≤ 4000) (h : ∀ x ∈ xs, sim n x = true) : sim (n + 1) (.tup xs) = true := by
  rw [sim, decide_eq_true hl, sims_of h]
  rfl
theorem same_sim : ∀ (n : Nat) (d : D), sim n d = true → ∀ {c : Cup}, m_Lsame (n + 1) [d, d] c = .ok (.bl true, c)
  | n, .non, _, _ => same_non n
  | n, .bl b, _, _ => same_bl n b
  | n, .int i, _, _ => same_int n i
  | n, .str s, _, _ => same_str n s
  | 0, .tup xs, h, _ => by simp [sim] at h
  | n + 1, .tup xs, h, _ => by
    have h' : (decide (xs.length ≤ 4000) && sims n xs) = true := by rwa [sim] at h
    rw [Bool.and_eq_true, decide_eq_true_eq] at h'
    exact same_tupB h'.1 fun x hx => same_sim n x (sims_mem h'.2 x hx)
  | n, .lst xs, h, _ => by cases n <;> simp [sim] at h
  | n, .dct xs, h, _ => by cases n <;> simp [sim] at h
  | n, .fn xs, h, _ => by cases n <;> simp [sim] at h
  | n, .cup, h, _ => by cases n <;> simp [sim] at h
  | n, .scr xs, h, _ => by cases n <;> simp [sim] at h
theorem sim_S {n : Nat} {l : List T} (h : l.length ≤ 60) : sim (n + 1) (.tup (S l)) = true := sim_tup (by rw [S_len]; omega) fun x hx => by
  obtain ⟨y, _, rfl⟩ := List.mem_map.mp hx
  cases n <;> rw [sim]
theorem sim_str {n : Nat} {s : T} : sim n (.str s) = true := by cases n <;> rw [sim]
theorem sim_int {n : Nat} {s : Int} : sim n (.int s) = true := by cases n <;> rw [sim]
theorem sim_bl {n : Nat} {s : Bool} : sim n (.bl s) = true := by cases n <;> rw [sim]
theorem sim_non {n : Nat} : sim n .non = true := by cases n <;> rw [sim]
/-! draws, whatever stands around -/
theorem draws_ok {xs : List D} (h0 : xs ≠ []) (h1 : xs.length < 1000000) : ∀ (ds : List D) {c : Cup}, Good c → ∃ qs c', (∀ {a : EV} {ρ : Env} {i : Nat}, (∀ d c, a (ρ.set i (.sh d)) c = m_Lsome [.cup, .lst xs] c) → lcL (gN i) tT a ρ ds c = .ok (qs, c')) ∧ qs.length = ds.length ∧ (∀ q ∈ qs, q ∈ xs) ∧ Good c'
  | [], c, h => ⟨[], c, fun _ => rfl, rfl, (fun _ h => by cases h), h⟩
  | d :: ds, c, h => by
    obtain ⟨q, c1, e1, hq, g1⟩ := some_ok h h0 h1
    obtain ⟨qs, c2, e2, hl, hm, g2⟩ := draws_ok h0 h1 ds g1
    refine ⟨q :: qs, c2, fun {a ρ i} ha => ?_, by simp [hl], fun z hz => ?_, g2⟩
    · unfold lcL
      show (tT (ρ.set i (.sh d)) c).bind _ = _
      rw [s_tT, R.bind_ok]
      show (a (ρ.set i (.sh d)) c).bind _ = _
      rw [ha, e1, R.bind_ok, e2 ha, R.bind_ok]
    · rcases List.mem_cons.mp hz with e | e
      · rw [e]; exact hq
      · exact hm z e
/-- items kept by a toss of two -/
theorem toss_ok : ∀ (w : T) {c : Cup}, Good c → ∃ t c', (∀ {b : EV} {tt : TV} {ρ : Env} {i : Nat}, (∀ d c r c1, m_Lroll [.cup, .int 2] c = .ok (.int r, c1) → tt (ρ.set i (.sh d)) c = .ok (decide (r = 0), c1)) → (∀ d c, b (ρ.set i (.sh d)) c = .ok (d, c)) → lcL (gN i) tt b ρ (ones w) c = .ok (ones t, c')) ∧ t.length ≤ w.length ∧ (∀ x ∈ t, x ∈ w) ∧ Good c'
  | [], c, h => ⟨[], c, fun _ _ => rfl, Nat.le_refl _, (fun _ h => by cases h), h⟩
  | x :: w, c, h => by
    obtain ⟨r, c1, e1, _, _, g1⟩ := roll_ok h (many := 2) (by omega) (by omega)
    obtain ⟨t, c2, e2, hl, hm, g2⟩ := toss_ok w g1
    by_cases q : r = 0
    · refine ⟨x :: t, c2, fun {b tt ρ i} h1 h2 => ?_, by simp only [List.length_cons]; omega, fun z hz => ?_, g2⟩
      · show lcL (gN i) tt b ρ (.str [x] :: ones w) c = .ok (.str [x] :: ones t, c2)
        unfold lcL
        show (tt (ρ.set i (.sh (.str [x]))) c).bind _ = _
        rw [h1 _ _ _ _ e1, R.bind_ok, if_pos (decide_eq_true q), h2, R.bind_ok, e2 h1 h2, R.bind_ok]
      · rcases List.mem_cons.mp hz with e | e
        · rw [e]; exact List.mem_cons_self ..
        · exact List.mem_cons_of_mem _ (hm z e)
    · refine ⟨t, c2, fun {b tt ρ i} h1 h2 => ?_, Nat.le_succ_of_le hl, fun z hz => List.mem_cons_of_mem _ (hm z hz), g2⟩
      show lcL (gN i) tt b ρ (.str [x] :: ones w) c = .ok (ones t, c2)
      unfold lcL
      show (tt (ρ.set i (.sh (.str [x]))) c).bind _ = _
      rw [h1 _ _ _ _ e1, R.bind_ok, if_neg (by rw [decide_eq_true_eq]; exact q), e2 h1 h2]
/-- texts of one letter among drawn ones -/
theorem ones_of : ∀ {qs : List D} {l : T}, (∀ q ∈ qs, q ∈ ones l) → ∃ s : T, qs = ones s ∧ ∀ x ∈ s, x ∈ l
  | [], _, _ => ⟨[], rfl, fun _ h => by cases h⟩
  | q :: qs, l, h => by
    obtain ⟨s, e, hs⟩ := ones_of (qs := qs) fun z hz => h z (List.mem_cons_of_mem _ hz)
    obtain ⟨x, hx, rfl⟩ := List.mem_map.mp (h q (List.mem_cons_self ..))
    refine ⟨x :: s, by rw [e]; rfl, fun z hz => ?_⟩
    rcases List.mem_cons.mp hz with e | e
    · rw [e]; exact hx
    · exact hs z e
theorem sim2 {n : Nat} {a b : D} (h1 : sim n a = true) (h2 : sim n b = true) : sim (n + 1) (.tup [a, b]) = true := sim_tup (show 2 ≤ 4000 by decide) fun d hd => by
  simp only [List.mem_cons, List.not_mem_nil, or_false] at hd
  rcases hd with rfl | rfl <;> assumption
theorem sim4 {n : Nat} {a b e f : D} (h1 : sim n a = true) (h2 : sim n b = true) (h3 : sim n e = true) (h4 : sim n f = true) : sim (n + 1) (.tup [a, b, e, f]) = true := sim_tup (show 4 ≤ 4000 by decide) fun d hd => by
  simp only [List.mem_cons, List.not_mem_nil, or_false] at hd
  rcases hd with rfl | rfl | rfl | rfl <;> assumption
theorem one_of {d : D} {l : T} (h : d ∈ ones l) : ∃ x, d = .str [x] ∧ x ∈ l := by
  obtain ⟨x, hx, rfl⟩ := List.mem_map.mp h
  exact ⟨x, rfl, hx⟩
theorem letters_ones (l : T) : letters l = ones l := rfl
theorem flat_ones (a : T) : flat (.lst (ones a)) = true := flat_lst fun d hd => by
  obtain ⟨x, _, rfl⟩ := List.mem_map.mp hd
  exact ⟨by simp [plain], by simp [dep]⟩
theorem eqBs_ones : ∀ a b : T, eqBs (ones a) (ones b) = decide (a = b)
  | [], [] => by simp [ones, eqBs]
  | [], y :: b => by simp [ones, eqBs]
  | x :: a, [] => by simp [ones, eqBs]
  | x :: a, y :: b => by
    have e : eqBs (ones (x :: a)) (ones (y :: b)) = (eqB (.str [x]) (.str [y]) && eqBs (ones a) (ones b)) := by
      show eqBs (D.str [x] :: ones a) (D.str [y] :: ones b) = _
      rw [eqBs]
    rw [e, eqB_str, eqBs_ones a b, ← Bool.decide_and]
    apply decide_eq_decide.mpr
    simp
theorem eq_ones (a b : T) : pEq (.lst (ones a)) (.lst (ones b)) = some (.bl (decide (a = b))) := by
  have e : pEq (.lst (ones a)) (.lst (ones b)) = if flat (.lst (ones a)) && flat (.lst (ones b)) then some (.bl (eqB (.lst (ones a)) (.lst (ones b)))) else none := rfl
  have e2 : eqB (.lst (ones a)) (.lst (ones b)) = eqBs (ones a) (ones b) := by rw [eqB]
  rw [e, flat_ones, flat_ones, e2, eqBs_ones]
  rfl
theorem sim3 {n : Nat} {a b e : D} (h1 : sim n a = true) (h2 : sim n b = true) (h3 : sim n e = true) : sim (n + 1) (.tup [a, b, e]) = true := sim_tup (show 3 ≤ 4000 by decide) fun d hd => by
  simp only [List.mem_cons, List.not_mem_nil, or_false] at hd
  rcases hd with rfl | rfl | rfl <;> assumption
/-! dicts whose keys are texts, once more -/
structure Ks (kvs : List (D × D)) (ks : List T) : Prop where
  k : kvs.map (·.1) = S ks
  n : ks.Nodup
theorem Ks.nil : Ks [] [] := ⟨rfl, List.nodup_nil⟩
theorem Ks.put {kvs : List (D × D)} {ks : List T} (h : Ks kvs ks) (s : T) (v : D) : ∃ ks', Ks (dput kvs (.str s) v) ks' ∧ (∀ x, x ∈ ks' ↔ x = s ∨ x ∈ ks) ∧ ks'.length ≤ ks.length + 1 := by
  obtain ⟨ks', h1, h2, h3, h4⟩ := put_keys h.k h.n s v
  exact ⟨ks', ⟨h1, h2⟩, h3, h4⟩
theorem Ks.len {kvs : List (D × D)} {ks : List T} (h : Ks kvs ks) : kvs.length = ks.length := by
  have := congrArg List.length h.k
  rwa [List.length_map, S_len] at this
theorem dget_none : ∀ {kvs : List (D × D)} {ks : List T} {t : T}, kvs.map (·.1) = S ks → t ∉ ks → dget kvs (.str t) = none
  | [], _, _, _, _ => rfl
  | p :: r, ks, t, hk, hq => by
    obtain ⟨a, b, s, rfl, rfl, hr⟩ := keys_cons hk
    rw [dget_cons, if_neg fun e => hq (by rw [e]; exact List.mem_cons_self ..)]
    exact dget_none hr fun z => hq (List.mem_cons_of_mem _ z)
theorem in_K {kvs : List (D × D)} {ks : List T} (h : Ks kvs ks) (t : T) : pIn (.str t) (.dct kvs) = some (.bl (decide (t ∈ ks))) := by
  have e : pIn (.str t) (.dct kvs) = some (.bl (dget kvs (.str t)).isSome) := rfl
  rw [e]
  congr 2
  by_cases q : t ∈ ks
  · obtain ⟨v, hv⟩ := dget_has h.k q
    rw [hv, decide_eq_true q]
    rfl
  · rw [decide_eq_false q, dget_none h.k q]
    rfl
theorem Ks.merge : ∀ {more : List (D × D)} {ms : List T} {kvs : List (D × D)} {ks : List T}, more.map (·.1) = S ms → Ks kvs ks → ∃ ks', Ks (dmerge kvs more) ks' ∧ (∀ x, x ∈ ks' ↔ x ∈ ks ∨ x ∈ ms) ∧ ks'.length ≤ ks.length + ms.length
  | [], ms, kvs, ks, hm, h => by
    cases ms with
    | nil => exact ⟨ks, h, fun x => ⟨.inl, fun q => q.elim id fun z => by cases z⟩, Nat.le_refl _⟩
    | cons => cases hm
  | p :: more, ms, kvs, ks, hm, h => by
    obtain ⟨a, b, q, rfl, rfl, hr⟩ := keys_cons hm
    obtain ⟨k1, p1, p2, p3⟩ := h.put a b
    obtain ⟨k2, q1, q2, q3⟩ := Ks.merge (more := more) hr p1
    refine ⟨k2, q1, fun x => ?_, by rw [List.length_cons]; omega⟩
    rw [q2, p2, List.mem_cons]
    constructor
    · rintro ((h | h) | h)
      · exact .inr (.inl h)
      · exact .inl h
      · exact .inr (.inr h)
    · rintro (h | h | h)
      · exact .inl (.inr h)
      · exact .inl (.inl h)
      · exact .inr h
theorem upd_len {kvs more : List (D × D)} {ks ms : List T} (h : Ks kvs ks) (h2 : Ks more ms) (hl : ks.length + ms.length ≤ 4000) : kvs.length + more.length ≤ line := by
  rw [h.len, h2.len]
  exact len4 hl
theorem sorted_K {kvs : List (D × D)} {ks : List T} (h : Ks kvs ks) (hl : ks.length ≤ 4000) : pSorted (.dct kvs) = some (.lst (S (sortL ks))) := sorted_S (x := .dct kvs) (l := ks) (congrArg some h.k) hl
/-- {f(w): v for w in ws if p(w)} -/
theorem dc_set {i : Nat} {t : TV} {k e : EV} {ρ : Env} {c : Cup} {p : T → Bool} {f : T → T} {v : D} : ∀ {ws : List T}, (∀ w ∈ ws, t (ρ.set i (.sh (.str w))) c = .ok (p w, c)) → (∀ w ∈ ws, p w = true → k (ρ.set i (.sh (.str w))) c = .ok (.str (f w), c)) → (∀ w ∈ ws, e (ρ.set i (.sh (.str w))) c = .ok (v, c)) → ∀ {acc : List (D × D)} {ks : List T}, Ks acc ks → ks.length + ws.length ≤ 4000 → ∃ kvs' ks', dcL (gN i) t k e ρ (S ws) acc c = .ok (kvs', c) ∧ Ks kvs' ks' ∧ (∀ z, z ∈ ks' ↔ z ∈ ks ∨ ∃ w ∈ ws, p w = true ∧ z = f w) ∧ ks'.length ≤ ks.length + ws.length
  | [], _, _, _, acc, ks, h, _ => ⟨acc, ks, rfl, h, fun z => ⟨.inl, fun q => q.elim id fun ⟨_, h, _⟩ => by cases h⟩, Nat.le_refl _⟩
  | w :: ws, ht, hk, hv, acc, ks, h, hl => by
    rw [List.length_cons] at hl
    have e0 : dcL (gN i) t k e ρ (S (w :: ws)) acc c = (t (ρ.set i (.sh (.str w))) c).bind fun p => if p.1 then (k (ρ.set i (.sh (.str w))) p.2).bind fun a => (e (ρ.set i (.sh (.str w))) a.2).bind fun b => if isKey a.1 && decide (acc.length < line) then dcL (gN i) t k e ρ (S ws) (dput acc a.1 b.1) b.2 else .no
      else dcL (gN i) t k e ρ (S ws) acc p.2 := rfl
    have ht' := fun z hz => ht z (List.mem_cons_of_mem _ hz)
    have hk' := fun z hz => hk z (List.mem_cons_of_mem _ hz)
    have hv' := fun z hz => hv z (List.mem_cons_of_mem _ hz)
    rw [e0, ht w (List.mem_cons_self ..), R.bind_ok]
    by_cases q : p w = true
    · obtain ⟨k1, p1, p2, p3⟩ := h.put (f w) v
      obtain ⟨kvs', ks', r1, r2, r3, r4⟩ := dc_set ht' hk' hv' p1 (by omega)
      refine ⟨kvs', ks', ?_, r2, fun z => ?_, by rw [List.length_cons]; omega⟩
      · show (if p w = true then _ else _) = _
        rw [if_pos q, hk w (List.mem_cons_self ..) q, R.bind_ok, hv w (List.mem_cons_self ..), R.bind_ok]
        have hk : acc.length < line := by rw [h.len]; exact Nat.lt_of_le_of_lt (show ks.length ≤ 4000 by omega) (by decide)
        show (if isKey (.str (f w)) && decide (acc.length < line) then dcL (gN i) t k e ρ (S ws) (dput acc (.str (f w)) v) c else .no) = _
        rw [decide_eq_true hk]
        exact r1
      · rw [r3, p2]
        constructor
        · rintro ((h | h) | ⟨y, hy, h⟩)
          · exact .inr ⟨w, List.mem_cons_self .., q, h⟩
          · exact .inl h
          · exact .inr ⟨y, List.mem_cons_of_mem _ hy, h⟩
        · rintro (h | ⟨y, hy, h1, h2⟩)
          · exact .inl (.inr h)
          · rcases List.mem_cons.mp hy with rfl | hy
            · exact .inl (.inl h2)
            · exact .inr ⟨y, hy, h1, h2⟩
    · obtain ⟨kvs', ks', r1, r2, r3, r4⟩ := dc_set ht' hk' hv' h (by omega)
      refine ⟨kvs', ks', ?_, r2, fun z => ?_, by rw [List.length_cons]; omega⟩
      · show (if p w = true then _ else _) = _
        rw [if_neg q]
        exact r1
      · rw [r3]
        constructor
        · rintro (h | ⟨y, hy, h⟩)
          · exact .inl h
          · exact .inr ⟨y, List.mem_cons_of_mem _ hy, h⟩
        · rintro (h | ⟨y, hy, h1, h2⟩)
          · exact .inl h
          · rcases List.mem_cons.mp hy with rfl | hy
            · exact absurd h1 q
            · exact .inr ⟨y, hy, h1, h2⟩
theorem nil_of {l : List D} (h : ∀ d ∈ l, plain d = true ∧ dep d ≤ 50) (b : Bool) : pNe (if b then .tup l else .lst l) (if b then .tup [] else .lst []) = some (.bl (!decide (l = []))) := by
  have h1 : plain (.tup l) = plains l := by rw [plain]
  have h3 : dep (.tup l) = deps l + 1 := by rw [dep]
  have hft : flat (.tup l) = true := by
    unfold flat
    rw [h1, plains_of fun d hd => (h d hd).1, Bool.true_and, decide_eq_true_eq, h3]
    have := deps_of fun d hd => (h d hd).2
    omega
  have hf2 : flat (.lst []) = true := by decide +kernel
  have hf3 : flat (.tup []) = true := by decide +kernel
  cases b with
  | true =>
    show pNe (.tup l) (.tup []) = _
    have e : pNe (.tup l) (.tup []) = if flat (.tup l) && flat (.tup []) then some (.bl (!eqB (.tup l) (.tup []))) else none := rfl
    rw [e, hft, hf3]
    cases l with
    | nil => simp [eqB, eqBs]
    | cons x l => simp [eqB, eqBs]
  | false =>
    show pNe (.lst l) (.lst []) = _
    have e : pNe (.lst l) (.lst []) = if flat (.lst l) && flat (.lst []) then some (.bl (!eqB (.lst l) (.lst []))) else none := rfl
    rw [e, flat_lst h, hf2]
    cases l with
    | nil => simp [eqB, eqBs]
    | cons x l => simp [eqB, eqBs]
theorem S_plainD {l : List T} : ∀ d ∈ S l, plain d = true ∧ dep d ≤ 50 := fun d hd => by
  obtain ⟨x, _, rfl⟩ := List.mem_map.mp hd
  exact ⟨by simp [plain], by simp [dep]⟩
theorem ne_nilT {l : List T} : pNe (.tup (S l)) (.tup []) = some (.bl (!decide (l = []))) := by
  have e := nil_of (l := S l) S_plainD true
  rw [show decide (S l = []) = decide (l = []) from decide_eq_decide.mpr List.map_eq_nil_iff] at e
  exact e
theorem ne_nilS {l : List T} : pNe (.lst (S l)) (.lst []) = some (.bl (!decide (l = []))) := by
  have e := nil_of (l := S l) S_plainD false
  rw [show decide (S l = []) = decide (l = []) from decide_eq_decide.mpr List.map_eq_nil_iff] at e
  exact e
theorem eq_nilS (l : List T) : pEq (.lst (S l)) (.lst []) = some (.bl (decide (l = []))) := by
  rw [eq_nil_of S_plainD]
  congr 2
  exact decide_eq_decide.mpr List.map_eq_nil_iff
end Mi.P
end

section
namespace Mi.P
local macro_rules | `(tactic| infer_instance) => `(tactic| first
  | with_reducible exact v_K
  | ((with_reducible apply v_V); rfl)
  | ((with_reducible apply v_B); rfl)
  | ((with_reducible apply v_O); rfl)
  | (with_reducible apply v_s0)
  | (with_reducible apply v_s1)
  | (with_reducible apply v_1)
  | (with_reducible apply v_2)
  | (with_reducible apply v_tup)
  | (with_reducible apply v_lst)
  | (with_reducible apply v_call)
  | (with_reducible apply v_M)
  | (with_reducible apply v_Lc)
  | (with_reducible apply v_iE)
  | (with_reducible apply v_R1)
  | (with_reducible apply v_R2)
  | (with_reducible apply w_R3)
  | (with_reducible apply v_tE)
  | (with_reducible apply v_tN)
  | (with_reducible apply w_if)
  | (with_reducible apply w_seq)
  | (with_reducible apply v_exp)
  | (with_reducible apply v_ret)
  | (with_reducible apply v_asg)
  | (with_reducible apply v_own)
  | (with_reducible apply v_for)
  | (with_reducible apply v_enum)
  | (with_reducible apply w_DV)
  | (with_reducible apply w_DI)
  | (with_reducible apply w_zip)
  | (with_reducible apply w_sl)
  | (with_reducible apply w_sl3)
  | (with_reducible apply w_oE)
  | (with_reducible apply w_and)
  | (with_reducible apply w_or)
  | (with_reducible apply w_tAnd)
  | (with_reducible apply w_tOr)
  | (with_reducible apply w_eIf)
  | (with_reducible apply w_chn)
  | (with_reducible apply w_chnT)
  | (with_reducible apply w_par)
  | (with_reducible apply w_par3)
  | (with_reducible apply w_kill)
  | (with_reducible apply w_disp1)
  | (with_reducible apply w_dc)
  | ((with_reducible apply w_rem); rfl)
  | ((with_reducible apply w_pop); rfl)
  | ((with_reducible apply w_upd); rfl)
  | (with_reducible apply w_M3)
  | (with_reducible apply br_t)
  | (with_reducible apply br_f)
  | (with_reducible apply br_nf)
  | (with_reducible apply br_nt)
  | (with_reducible apply nxt_n)
  | (with_reducible apply nxt_r)
  | (with_reducible apply v_frz)
  | ((with_reducible apply w_app); rfl)
  | ((with_reducible apply v_set); rfl)
  | ((with_reducible apply w_aug); rfl)
  | ((with_reducible apply w_ext); rfl)
  | with_reducible exact v_skip
  | with_reducible exact s_tT
  | with_reducible exact s_oE0
  | with_reducible exact s_eDct
  | with_reducible exact f_nil
  | with_reducible exact v_lc0
  | with_reducible exact tr_bl
  | with_reducible exact tr_int
  | with_reducible exact tr_non
  | with_reducible exact rv_tup
  | with_reducible exact dn_0
  | with_reducible exact de_0
  | with_reducible exact wk_lst
  | with_reducible exact wk_tup
  | with_reducible exact sq_lst
  | with_reducible exact sq_tup
  | with_reducible exact len_S
  | with_reducible exact len_tS
  | with_reducible exact len_ones
  | with_reducible exact len_tones
  | with_reducible exact len_map
  | with_reducible exact len_tmap
  | with_reducible exact ln_lst
  | with_reducible exact ln_tup
  | with_reducible exact ln_dct
  | with_reducible exact ad_int
  | with_reducible exact sb_int
  | with_reducible exact ng_int
  | with_reducible exact lt_int
  | with_reducible exact le_int
  | with_reducible exact gt_int
  | with_reducible exact ge_int
  | with_reducible exact lt_txt
  | with_reducible exact le_txt
  | with_reducible exact gt_txt
  | with_reducible exact nt_bl
  | with_reducible exact in_int
  | with_reducible exact st_str
  | with_reducible exact is_bl
  | with_reducible exact isnot_bl
  | with_reducible exact ix_0
  | with_reducible exact ix_1
  | with_reducible exact ck_str
  | with_reducible exact ck_lst
  | with_reducible exact key_str
  | with_reducible exact key_int
  | with_reducible exact wk_dct
  | with_reducible exact ck_dct
  | with_reducible exact g_N
  | with_reducible exact g_T2
  | with_reducible exact g_T3
  | with_reducible exact ii_int_non
  | with_reducible exact ii_int_bl
  | with_reducible exact ii_int_int
  | with_reducible exact ii_int_str
  | with_reducible exact ii_int_tup
  | with_reducible exact ii_int_lst
  | with_reducible exact ii_bool_non
  | with_reducible exact ii_bool_bl
  | with_reducible exact ii_bool_int
  | with_reducible exact ii_bool_str
  | with_reducible exact ii_bool_tup
  | with_reducible exact ii_bool_lst
  | with_reducible exact ii_str_non
  | with_reducible exact ii_str_bl
  | with_reducible exact ii_str_int
  | with_reducible exact ii_str_str
  | with_reducible exact ii_str_tup
  | with_reducible exact ii_str_lst
  | with_reducible exact ii_tuple_non
  | with_reducible exact ii_tuple_bl
  | with_reducible exact ii_tuple_int
  | with_reducible exact ii_tuple_str
  | with_reducible exact ii_tuple_tup
  | with_reducible exact ii_tuple_lst
  | with_reducible exact ii_list_non
  | with_reducible exact ii_list_bl
  | with_reducible exact ii_list_int
  | with_reducible exact ii_list_str
  | with_reducible exact ii_list_tup
  | with_reducible exact ii_list_lst
  | with_reducible exact ii_dict_non
  | with_reducible exact ii_dict_bl
  | with_reducible exact ii_dict_int
  | with_reducible exact ii_dict_str
  | with_reducible exact ii_dict_tup
  | with_reducible exact ii_dict_lst
  | with_reducible exact isn_non
  | with_reducible exact inn_non
  | with_reducible exact isn_bl
  | with_reducible exact inn_bl
  | with_reducible exact isn_int
  | with_reducible exact inn_int
  | with_reducible exact isn_str
  | with_reducible exact inn_str
  | with_reducible exact isn_tup
  | with_reducible exact inn_tup
  | with_reducible exact isn_lst
  | with_reducible exact inn_lst
  | with_reducible exact isn_dct
  | with_reducible exact inn_dct
  | (with_reducible exact ok_rfl))

/-! heights -/
def hx (x : Nat) : Nat := LETS.idxOf x
def lx (h : Nat) : Nat := LETS.getD h 0
theorem hx_lt {x : Nat} (h : x ∈ LETS) : hx x < 26 := List.idxOf_lt_length_iff.mpr h
theorem lx_hx {x : Nat} (h : x ∈ LETS) : lx (hx x) = x := by
  have hl := hx_lt h
  unfold lx hx at *
  rw [List.getD_eq_getElem?_getD, List.getElem?_eq_getElem hl]
  exact List.getElem_idxOf hl
theorem hx_lx : ∀ h : Nat, h < 26 → hx (lx h) = h ∧ lx h ∈ LETS := by decide +kernel
theorem hx_inj {x y : Nat} (hx' : x ∈ LETS) (hy : y ∈ LETS) (h : hx x = hx y) : x = y := by rw [← lx_hx hx', h, lx_hx hy]
def dx (x y : Nat) : Nat := (hx x - hx y) + (hx y - hx x)
def farF : T → T → Nat
  | x :: a, y :: b => dx x y + farF a b
  | _, _ => 0
def dvec : T → T → List Nat
  | x :: a, y :: b => dx x y :: dvec a b
  | _, _ => []
theorem far_sum : ∀ a b : T, farF a b = (dvec a b).sum
  | [], _ => by simp [farF, dvec]
  | _ :: _, [] => by simp [farF, dvec]
  | x :: a, y :: b => by rw [farF, dvec, List.sum_cons, far_sum a b]
theorem far_self : ∀ a : T, farF a a = 0
  | [] => rfl
  | x :: a => by rw [farF, far_self a]; unfold dx; omega
theorem dx_comm (x y : Nat) : dx x y = dx y x := by unfold dx; omega
theorem far_comm : ∀ a b : T, farF a b = farF b a
  | [], [] => rfl
  | [], _ :: _ => rfl
  | _ :: _, [] => rfl
  | x :: a, y :: b => by rw [farF, farF, far_comm a b, dx_comm]
/-! next words -/
def lowL (x : Nat) (a : T) : List T := if 1 ≤ hx x then [lx (hx x - 1) :: a] else []
def upL (x : Nat) (a : T) : List T := if hx x + 1 < 26 then [lx (hx x + 1) :: a] else []
def rawN : T → List T
  | [] => []
  | x :: a => lowL x a ++ upL x a ++ (rawN a).map (x :: ·)
def Adj : T → T → Prop
  | x :: a, y :: b => (dx x y = 1 ∧ y ∈ LETS ∧ a = b) ∨ (x = y ∧ Adj a b)
  | _, _ => False
def InL (w : T) : Prop := ∀ x ∈ w, x ∈ LETS
theorem low_mem {x : Nat} {a v : T} (hxL : x ∈ LETS) : v ∈ lowL x a ↔ ∃ y, v = y :: a ∧ y ∈ LETS ∧ hx y + 1 = hx x := by
  have hl := hx_lt hxL
  unfold lowL
  constructor
  · intro h
    by_cases q : 1 ≤ hx x
    · rw [if_pos q] at h
      obtain ⟨h1, h2⟩ := hx_lx (hx x - 1) (by omega)
      exact ⟨_, List.mem_singleton.mp h, h2, by omega⟩
    · rw [if_neg q] at h; cases h
  · rintro ⟨y, rfl, hy, e⟩
    rw [if_pos (by omega), ← e, Nat.add_sub_cancel, lx_hx hy]
    exact List.mem_singleton.mpr rfl
theorem up_mem {x : Nat} {a v : T} (hxL : x ∈ LETS) : v ∈ upL x a ↔ ∃ y, v = y :: a ∧ y ∈ LETS ∧ hx y = hx x + 1 := by
  unfold upL
  constructor
  · intro h
    by_cases q : hx x + 1 < 26
    · rw [if_pos q] at h
      obtain ⟨h1, h2⟩ := hx_lx (hx x + 1) q
      exact ⟨_, List.mem_singleton.mp h, h2, h1⟩
    · rw [if_neg q] at h; cases h
  · rintro ⟨y, rfl, hy, e⟩
    have := hx_lt hy
    rw [if_pos (by omega), ← e, lx_hx hy]
    exact List.mem_singleton.mpr rfl
theorem raw_adj : ∀ {u v : T}, InL u → (v ∈ rawN u ↔ Adj u v)
  | [], v, _ => ⟨(fun h => by cases h), (fun h => by cases v <;> exact (show False from h).elim)⟩
  | x :: a, v, hu => by
    have hxL := hu x (List.mem_cons_self ..)
    have ha : InL a := fun z hz => hu z (List.mem_cons_of_mem _ hz)
    show v ∈ lowL x a ++ upL x a ++ (rawN a).map (x :: ·) ↔ _
    rw [List.mem_append, List.mem_append, low_mem hxL, up_mem hxL, List.mem_map]
    constructor
    · rintro ((⟨y, rfl, hy, e⟩ | ⟨y, rfl, hy, e⟩) | ⟨b, hb, rfl⟩)
      · exact .inl ⟨by unfold dx; omega, hy, rfl⟩
      · exact .inl ⟨by unfold dx; omega, hy, rfl⟩
      · exact .inr ⟨rfl, (raw_adj ha).mp hb⟩
    · intro h
      cases v with
      | nil => exact (show False from h).elim
      | cons y b =>
        rcases h with ⟨h1, h2, rfl⟩ | ⟨rfl, h⟩
        · unfold dx at h1
          by_cases q : hx x < hx y
          · exact .inl (.inr ⟨y, rfl, h2, by omega⟩)
          · exact .inl (.inl ⟨y, rfl, h2, by omega⟩)
        · exact .inr ⟨b, (raw_adj ha).mpr h, rfl⟩
theorem raw_nodup : ∀ {u : T}, InL u → (rawN u).Nodup
  | [], _ => List.nodup_nil
  | x :: a, hu => by
    have hxL := hu x (List.mem_cons_self ..)
    have ha : InL a := fun z hz => hu z (List.mem_cons_of_mem _ hz)
    show (lowL x a ++ upL x a ++ (rawN a).map (x :: ·)).Nodup
    have n1 : (lowL x a).Nodup := by unfold lowL; split <;> simp
    have n2 : (upL x a).Nodup := by unfold upL; split <;> simp
    rw [List.nodup_append, List.nodup_append]
    refine ⟨⟨n1, n2, fun v hv w hw e => ?_⟩, ?_, fun v hv w hw e => ?_⟩
    · obtain ⟨y, rfl, _, h1⟩ := (low_mem hxL).mp hv
      obtain ⟨z, rfl, _, h2⟩ := (up_mem hxL).mp hw
      injection e with e _
      subst e
      omega
    · rw [List.Nodup, List.pairwise_map]
      exact List.Pairwise.imp (fun {p q} h e => h (List.cons.inj e).2) (raw_nodup ha)
    · obtain ⟨b, _, rfl⟩ := List.mem_map.mp hw
      subst e
      rcases List.mem_append.mp hv with hv | hv
      · obtain ⟨y, e, _, h1⟩ := (low_mem hxL).mp hv
        injection e with e _
        subst e
        omega
      · obtain ⟨y, e, _, h1⟩ := (up_mem hxL).mp hv
        injection e with e _
        subst e
        omega
theorem adj_len : ∀ {u v : T}, Adj u v → v.length = u.length
  | [], v, h => by cases v <;> exact (show False from h).elim
  | _ :: _, [], h => (show False from h).elim
  | x :: a, y :: b, h => by
    rcases h with ⟨_, _, rfl⟩ | ⟨_, h⟩
    · rfl
    · rw [List.length_cons, List.length_cons, adj_len h]
theorem adj_in : ∀ {u v : T}, InL u → Adj u v → InL v
  | [], v, _, h => by cases v <;> exact (show False from h).elim
  | _ :: _, [], _, h => (show False from h).elim
  | x :: a, y :: b, hu, h => by
    rcases h with ⟨_, hy, rfl⟩ | ⟨rfl, h⟩
    · exact fun z hz => (List.mem_cons.mp hz).elim (fun e => e ▸ hy) fun m => hu z (List.mem_cons_of_mem _ m)
    · exact fun z hz => (List.mem_cons.mp hz).elim (fun e => e ▸ hu x (List.mem_cons_self ..)) (adj_in (fun z hz => hu z (List.mem_cons_of_mem _ hz)) h z)
/-! between -/
def Btw : T → T → T → Prop
  | x :: a, v :: e, y :: b => (v ∈ LETS ∧ dx x v + dx v y = dx x y) ∧ Btw a e b
  | [], [], [] => True
  | _, _, _ => False
theorem btw_in : ∀ {a v b : T}, Btw a v b → InL v
  | x :: a, v :: e, y :: b, h => fun z hz => (List.mem_cons.mp hz).elim (fun q => q ▸ h.1.1) (btw_in h.2 z)
  | [], [], [], _ => fun z hz => by cases hz
theorem btw_len : ∀ {a v b : T}, Btw a v b → v.length = a.length ∧ b.length = a.length
  | x :: a, v :: e, y :: b, h => by
    have := btw_len h.2
    simp only [List.length_cons]
    omega
  | [], [], [], _ => ⟨rfl, rfl⟩
theorem btw_self : ∀ {a b : T}, InL a → b.length = a.length → Btw a a b
  | [], [], _, _ => True.intro
  | x :: a, y :: b, h, hl => ⟨⟨h x (List.mem_cons_self ..), by unfold dx; omega⟩, btw_self (fun z hz => h z (List.mem_cons_of_mem _ hz)) (Nat.succ.inj hl)⟩
  | [], _ :: _, _, hl => by cases hl
  | _ :: _, [], _, hl => by cases hl
theorem btw_other : ∀ {a b : T}, InL b → b.length = a.length → Btw a b b
  | [], [], _, _ => True.intro
  | x :: a, y :: b, h, hl => ⟨⟨h y (List.mem_cons_self ..), by unfold dx; omega⟩, btw_other (fun z hz => h z (List.mem_cons_of_mem _ hz)) (Nat.succ.inj hl)⟩
  | [], _ :: _, _, hl => by cases hl
  | _ :: _, [], _, hl => by cases hl
theorem btw_far : ∀ {a v b : T}, Btw a v b → farF a v + farF v b = farF a b
  | x :: a, v :: e, y :: b, h => by
    have := btw_far h.2
    have := h.1.2
    simp only [farF]
    omega
  | [], [], [], _ => rfl
/-- the step on: nearer to the end means farther from the start -/
theorem step_on : ∀ {a u v b : T}, Btw a u b → Adj u v → farF v b < farF u b → Btw a v b ∧ farF a v = farF a u + 1
  | x :: a, u :: e, [], y :: b, _, hv, _ => (show False from hv).elim
  | x :: a, u :: e, v :: f, y :: b, hu, hv, hf => by
    have hb := hu.2
    simp only [farF] at hf ⊢
    rcases hv with ⟨h1, h2, rfl⟩ | ⟨rfl, h⟩
    · have h3 := hu.1.2
      unfold dx at h1 h3 hf ⊢
      exact ⟨⟨⟨h2, by unfold dx; omega⟩, hb⟩, by omega⟩
    · obtain ⟨g1, g2⟩ := step_on hb h (by omega)
      exact ⟨⟨hu.1, g1⟩, by omega⟩
  | [], [], v, [], _, hv, _ => by cases v <;> exact (show False from hv).elim
/-- a step back towards the start stays between -/
theorem pred_btw : ∀ {a u v b : T}, Btw a v b → Adj u v → InL u → farF a u + 1 = farF a v → Btw a u b
  | x :: a, [], v :: f, y :: b, _, hu, _, _ => (show False from hu).elim
  | x :: a, u :: e, v :: f, y :: b, hv, hu, hL, hf => by
    simp only [farF] at hf
    rcases hu with ⟨h1, h2, rfl⟩ | ⟨rfl, h⟩
    · have h3 := hv.1.2
      have hf' : dx x u + 1 = dx x v := by omega
      unfold dx at h1 h3 hf'
      exact ⟨⟨hL u (List.mem_cons_self ..), by unfold dx; omega⟩, hv.2⟩
    · exact ⟨hv.1, pred_btw hv.2 h (fun z hz => hL z (List.mem_cons_of_mem _ hz)) (by omega)⟩
  | [], u, [], [], _, hu, _, _ => by cases u <;> exact (show False from hu).elim
def predsF : T → T → List T
  | x :: a, y :: b => (if hx x < hx y then [lx (hx y - 1) :: b] else if hx y < hx x then [lx (hx y + 1) :: b] else []) ++ (predsF a b).map (y :: ·)
  | _, _ => []
theorem preds_mem : ∀ {a v u : T}, InL a → InL v → a.length = v.length → (u ∈ predsF a v ↔ Adj u v ∧ InL u ∧ farF a u + 1 = farF a v)
  | [], [], u, _, _, _ => ⟨(fun h => by cases h), (fun h => by cases u <;> exact (show False from h.1).elim)⟩
  | x :: a, y :: b, u, ha, hv, hl => by
    have hyL := hv y (List.mem_cons_self ..)
    have hxL := ha x (List.mem_cons_self ..)
    have hyl := hx_lt hyL
    have hxl := hx_lt hxL
    have hb : InL b := fun z hz => hv z (List.mem_cons_of_mem _ hz)
    have ha' : InL a := fun z hz => ha z (List.mem_cons_of_mem _ hz)
    show u ∈ (if hx x < hx y then [lx (hx y - 1) :: b] else if hx y < hx x then [lx (hx y + 1) :: b] else []) ++ (predsF a b).map (y :: ·) ↔ _
    rw [List.mem_append, List.mem_map]
    constructor
    · rintro (h | ⟨e, he, rfl⟩)
      · by_cases q : hx x < hx y
        · rw [if_pos q] at h
          obtain ⟨g1, g2⟩ := hx_lx (hx y - 1) (by omega)
          rw [List.mem_singleton.mp h]
          refine ⟨.inl ⟨by unfold dx; omega, hyL, rfl⟩, fun z hz => (List.mem_cons.mp hz).elim (fun e => e ▸ g2) (hb z), ?_⟩
          simp only [farF]
          unfold dx
          omega
        · rw [if_neg q] at h
          by_cases q2 : hx y < hx x
          · rw [if_pos q2] at h
            obtain ⟨g1, g2⟩ := hx_lx (hx y + 1) (by omega)
            rw [List.mem_singleton.mp h]
            refine ⟨.inl ⟨by unfold dx; omega, hyL, rfl⟩, fun z hz => (List.mem_cons.mp hz).elim (fun e => e ▸ g2) (hb z), ?_⟩
            simp only [farF]
            unfold dx
            omega
          · rw [if_neg q2] at h; cases h
      · obtain ⟨h1, h2, h3⟩ := (preds_mem ha' hb (Nat.succ.inj hl)).mp he
        refine ⟨.inr ⟨rfl, h1⟩, fun z hz => (List.mem_cons.mp hz).elim (fun e => e ▸ hyL) (h2 z), ?_⟩
        simp only [farF]
        omega
    · rintro ⟨hadj, hu, hf⟩
      cases u with
      | nil => exact (show False from hadj).elim
      | cons z e =>
        have hzL := hu z (List.mem_cons_self ..)
        simp only [farF] at hf
        rcases hadj with ⟨h1, _, rfl⟩ | ⟨rfl, h⟩
        · refine .inl ?_
          have hf' : dx x z + 1 = dx x y := by omega
          unfold dx at h1 hf'
          by_cases q : hx x < hx y
          · rw [if_pos q, show hx y - 1 = hx z by omega, lx_hx hzL]
            exact List.mem_singleton.mpr rfl
          · rw [if_neg q, if_pos (by omega), show hx y + 1 = hx z by omega, lx_hx hzL]
            exact List.mem_singleton.mpr rfl
        · exact .inr ⟨e, (preds_mem ha' hb (Nat.succ.inj hl)).mpr ⟨h, fun w hw => hu w (List.mem_cons_of_mem _ hw), by omega⟩, rfl⟩
  | [], _ :: _, _, _, _, hl => by cases hl
  | _ :: _, [], _, _, _, hl => by cases hl
theorem preds_nodup : ∀ {a v : T}, InL v → (predsF a v).Nodup
  | [], _, _ => by simp [predsF]
  | _ :: _, [], _ => by simp [predsF]
  | x :: a, y :: b, hv => by
    have hyl := hx_lt (hv y (List.mem_cons_self ..))
    have hb : InL b := fun z hz => hv z (List.mem_cons_of_mem _ hz)
    show ((if hx x < hx y then [lx (hx y - 1) :: b] else if hx y < hx x then [lx (hx y + 1) :: b] else []) ++ (predsF a b).map (y :: ·)).Nodup
    rw [List.nodup_append]
    refine ⟨?_, ?_, fun v hv' w hw e => ?_⟩
    · split
      · simp
      · split <;> simp
    · rw [List.Nodup, List.pairwise_map]
      exact List.Pairwise.imp (fun {p q} h e => h (List.cons.inj e).2) (preds_nodup hb)
    · obtain ⟨c, _, rfl⟩ := List.mem_map.mp hw
      subst e
      by_cases q : hx x < hx y
      · rw [if_pos q] at hv'
        have g := hx_lx (hx y - 1) (by omega)
        injection List.mem_singleton.mp hv' with e _
        rw [← e] at g
        omega
      · rw [if_neg q] at hv'
        by_cases q2 : hx y < hx x
        · rw [if_pos q2] at hv'
          injection List.mem_singleton.mp hv' with e _
          have : hx y + 1 < 26 ∨ hx y + 1 = 26 := by omega
          rcases this with h | h
          · have g := hx_lx (hx y + 1) h
            rw [← e] at g
            omega
          · rw [h] at e
            have e2 : lx 26 = 0 := by decide
            rw [e2] at e
            have := hv y (List.mem_cons_self ..)
            rw [e] at this
            exact absurd this (by decide)
        · rw [if_neg q2] at hv'; cases hv'
/-! the formula -/
def wIn : Nat → Nat → Nat → Nat → Nat × Nat
  | 0, _, f, m => (f, m)
  | n + 1, s, f, m => wIn n (s + 1) (f * (m + 1) / (s + 1)) (m + 1)
def wOut : List Nat → Nat → Nat → Nat
  | [], f, _ => f
  | d :: ds, f, m => wOut ds (wIn d 0 f m).1 (wIn d 0 f m).2
def waysP (ds : List Nat) : Nat := wOut ds 1 0
def decs : List Nat → List (List Nat)
  | [] => []
  | a :: r => (if 0 < a then [(a - 1) :: r] else []) ++ (decs r).map (a :: ·)
def vecs : Nat → List (List Nat)
  | 0 => [[]]
  | n + 1 => (List.range 5).flatMap fun a => (vecs n).map (a :: ·)
theorem vecs_mem : ∀ {ds : List Nat}, (∀ d ∈ ds, d ≤ 4) → ds ∈ vecs ds.length
  | [], _ => List.mem_singleton.mpr rfl
  | d :: ds, h => List.mem_flatMap.mpr ⟨d, List.mem_range.mpr (by have := h d (List.mem_cons_self ..); omega), List.mem_map.mpr ⟨ds, vecs_mem fun z hz => h z (List.mem_cons_of_mem _ hz), rfl⟩⟩
def recB (ds : List Nat) : Bool := decide (ds.sum = 0) || decide (waysP ds = ((decs ds).map waysP).sum)
theorem rec_fin : ∀ n : Nat, n < 4 → (vecs n).all recB = true := by decide +kernel
theorem zero_fin : ∀ n : Nat, n < 4 → waysP (List.replicate n 0) = 1 := by decide +kernel
theorem ways_rec {ds : List Nat} (hl : ds.length ≤ 3) (h : ∀ d ∈ ds, d ≤ 4) (hs : ds.sum ≠ 0) : waysP ds = ((decs ds).map waysP).sum := by
  have hb := List.all_eq_true.mp (rec_fin ds.length (by omega)) ds (vecs_mem h)
  unfold recB at hb
  rw [Bool.or_eq_true, decide_eq_true_eq, decide_eq_true_eq] at hb
  exact hb.resolve_left hs
theorem preds_dvec : ∀ {a v : T}, InL a → InL v → (predsF a v).map (dvec a) = decs (dvec a v)
  | [], _, _, _ => by simp [predsF, dvec, decs]
  | _ :: _, [], _, _ => by simp [predsF, dvec, decs]
  | x :: a, y :: b, ha, hv => by
    have hxl := hx_lt (ha x (List.mem_cons_self ..))
    have hyl := hx_lt (hv y (List.mem_cons_self ..))
    have ih := preds_dvec (a := a) (v := b) (fun z hz => ha z (List.mem_cons_of_mem _ hz)) fun z hz => hv z (List.mem_cons_of_mem _ hz)
    show ((if hx x < hx y then [lx (hx y - 1) :: b] else if hx y < hx x then [lx (hx y + 1) :: b] else []) ++ (predsF a b).map (y :: ·)).map (dvec (x :: a)) = (if 0 < dx x y then [(dx x y - 1) :: dvec a b] else []) ++ (decs (dvec a b)).map (dx x y :: ·)
    rw [List.map_append, List.map_map, ← ih, List.map_map]
    congr 1
    by_cases q : hx x < hx y
    · have g := (hx_lx (hx y - 1) (by omega)).1
      rw [if_pos q, if_pos (by unfold dx; omega)]
      show [dvec (x :: a) (lx (hx y - 1) :: b)] = _
      rw [dvec]
      congr 2
      unfold dx
      omega
    · rw [if_neg q]
      by_cases q2 : hx y < hx x
      · have g := (hx_lx (hx y + 1) (by omega)).1
        rw [if_pos q2, if_pos (by unfold dx; omega)]
        show [dvec (x :: a) (lx (hx y + 1) :: b)] = _
        rw [dvec]
        congr 2
        unfold dx
        omega
      · rw [if_neg q2, if_neg (by unfold dx; omega)]
        rfl
/-! the waves' counts -/
def valF (l : List (T × Nat)) (v : T) : Nat := (l.map fun q => if q.1 = v then q.2 else 0).sum
def keysF (l : List (T × Nat)) : List T := l.map (·.1)
def addP : List (T × Nat) → T → Nat → List (T × Nat)
  | [], k, n => [(k, n)]
  | q :: l, k, n => if q.1 = k then (q.1, q.2 + n) :: l else q :: addP l k n
theorem addP_keys (k : T) (n : Nat) : ∀ l : List (T × Nat), keysF (addP l k n) = if k ∈ keysF l then keysF l else keysF l ++ [k]
  | [] => rfl
  | q :: l => by
    show keysF (if q.1 = k then (q.1, q.2 + n) :: l else q :: addP l k n) = if k ∈ q.1 :: keysF l then q.1 :: keysF l else q.1 :: keysF l ++ [k]
    by_cases e : q.1 = k
    · rw [if_pos e, if_pos (by rw [← e]; exact List.mem_cons_self ..)]
      rfl
    · rw [if_neg e]
      show q.1 :: keysF (addP l k n) = _
      rw [addP_keys k n l]
      by_cases m : k ∈ keysF l
      · rw [if_pos m, if_pos (List.mem_cons_of_mem _ m)]
      · rw [if_neg m, if_neg fun h => (List.mem_cons.mp h).elim (fun z => e z.symm) m]
        rfl
theorem addP_mem {k x : T} {n : Nat} {l : List (T × Nat)} : x ∈ keysF (addP l k n) ↔ x ∈ keysF l ∨ x = k := by
  rw [addP_keys]
  by_cases m : k ∈ keysF l
  · rw [if_pos m]
    exact ⟨.inl, fun h => h.elim id fun e => e ▸ m⟩
  · rw [if_neg m, List.mem_append, List.mem_singleton]
theorem addP_nodup {k : T} {n : Nat} {l : List (T × Nat)} (h : (keysF l).Nodup) : (keysF (addP l k n)).Nodup := by
  rw [addP_keys]
  by_cases m : k ∈ keysF l
  · rw [if_pos m]; exact h
  · rw [if_neg m, List.nodup_append]
    exact ⟨h, by simp, fun a ha b hb e => m (by rw [← List.mem_singleton.mp hb, ← e]; exact ha)⟩
theorem addP_val (k v : T) (n : Nat) : ∀ l : List (T × Nat), valF (addP l k n) v = valF l v + if k = v then n else 0
  | [] => by
    show ((if k = v then n else 0) :: []).sum = _
    simp [valF]
  | q :: l => by
    show valF (if q.1 = k then (q.1, q.2 + n) :: l else q :: addP l k n) v = _
    by_cases e : q.1 = k
    · rw [if_pos e]
      show (if q.1 = v then q.2 + n else 0) + valF l v = (if q.1 = v then q.2 else 0) + valF l v + _
      rw [e]
      split <;> omega
    · rw [if_neg e]
      show (if q.1 = v then q.2 else 0) + valF (addP l k n) v = (if q.1 = v then q.2 else 0) + valF l v + _
      rw [addP_val k v n l]
      omega
def addAll (l : List (T × Nat)) (n : Nat) (vs : List T) : List (T × Nat) := vs.foldl (fun l v => addP l v n) l
theorem addAll_val (v : T) (n : Nat) : ∀ (vs : List T) (l : List (T × Nat)), valF (addAll l n vs) v = valF l v + n * vs.count v
  | [], l => by rw [List.count_nil, Nat.mul_zero]; rfl
  | w :: vs, l => by
    show valF (addAll (addP l w n) n vs) v = _
    rw [addAll_val v n vs, addP_val, List.count_cons]
    by_cases e : w = v
    · rw [if_pos e, if_pos (beq_iff_eq.mpr e), Nat.mul_add, Nat.mul_one]
      omega
    · rw [if_neg e, if_neg (by rw [beq_iff_eq]; exact e), Nat.add_zero, Nat.add_zero]
theorem addAll_mem {x : T} {n : Nat} : ∀ {vs : List T} {l : List (T × Nat)}, x ∈ keysF (addAll l n vs) ↔ x ∈ keysF l ∨ x ∈ vs
  | [], l => ⟨.inl, fun h => h.elim id fun z => by cases z⟩
  | w :: vs, l => by
    show x ∈ keysF (addAll (addP l w n) n vs) ↔ _
    rw [addAll_mem, addP_mem, List.mem_cons, or_assoc]
theorem addAll_nodup {n : Nat} : ∀ {vs : List T} {l : List (T × Nat)}, (keysF l).Nodup → (keysF (addAll l n vs)).Nodup
  | [], _, h => h
  | w :: vs, l, h => addAll_nodup (vs := vs) (addP_nodup h)
def nextsF (w : T) : List T := sortL (rawN w)
def closeF (other u : T) : List T := (nextsF u).filter fun v => decide (farF v other < farF u other)
def stepFrom (other : T) (acc : List (T × Nat)) (l : List (T × Nat)) : List (T × Nat) := l.foldl (fun acc q => addAll acc q.2 (closeF other q.1)) acc
theorem step_val (other v : T) : ∀ (l acc : List (T × Nat)), valF (stepFrom other acc l) v = valF acc v + (l.map fun q => q.2 * (closeF other q.1).count v).sum
  | [], acc => rfl
  | q :: l, acc => by
    show valF (stepFrom other (addAll acc q.2 (closeF other q.1)) l) v = _
    rw [step_val other v l, addAll_val, List.map_cons, List.sum_cons]
    omega
theorem step_mem (other : T) {x : T} : ∀ {l acc : List (T × Nat)}, x ∈ keysF (stepFrom other acc l) ↔ x ∈ keysF acc ∨ ∃ q ∈ l, x ∈ closeF other q.1
  | [], acc => ⟨.inl, fun h => h.elim id fun ⟨_, h, _⟩ => by cases h⟩
  | q :: l, acc => by
    show x ∈ keysF (stepFrom other (addAll acc q.2 (closeF other q.1)) l) ↔ _
    rw [step_mem other, addAll_mem]
    constructor
    · rintro ((h | h) | ⟨p, hp, h⟩)
      · exact .inl h
      · exact .inr ⟨q, List.mem_cons_self .., h⟩
      · exact .inr ⟨p, List.mem_cons_of_mem _ hp, h⟩
    · rintro (h | ⟨p, hp, h⟩)
      · exact .inl (.inl h)
      · rcases List.mem_cons.mp hp with rfl | hp
        · exact .inl (.inr h)
        · exact .inr ⟨p, hp, h⟩
theorem step_nodup (other : T) : ∀ {l acc : List (T × Nat)}, (keysF acc).Nodup → (keysF (stepFrom other acc l)).Nodup
  | [], _, h => h
  | q :: l, acc, h => step_nodup other (l := l) (addAll_nodup h)
structure Lev (one other : T) (k : Nat) (l : List (T × Nat)) : Prop where
  n : (keysF l).Nodup
  m : ∀ v, v ∈ keysF l ↔ Btw one v other ∧ farF one v = k
  v : ∀ q ∈ l, q.2 = waysP (dvec one q.1)
theorem close_mem {other u v : T} (hu : InL u) : v ∈ closeF other u ↔ Adj u v ∧ farF v other < farF u other := by
  unfold closeF nextsF
  rw [List.mem_filter, sort_mem, raw_adj hu, decide_eq_true_eq]
theorem sort_perm' : ∀ l : List T, (sortL l).Perm l := fun l => by
  have ins : ∀ (x : T) (l : List T), (insL x l).Perm (x :: l) := fun x l => by
    induction l with
    | nil => exact List.Perm.refl _
    | cons y l ih =>
      unfold insL
      split
      · exact (ih.cons y).trans (List.Perm.swap ..)
      · exact List.Perm.refl _
  induction l with
  | nil => exact List.Perm.refl _
  | cons x l ih => exact (ins x _).trans (ih.cons x)
theorem close_count {other u v : T} (hu : InL u) : (closeF other u).count v = if v ∈ closeF other u then 1 else 0 := by
  have hn : (closeF other u).Nodup := List.Pairwise.filter _ ((sort_perm' _).nodup_iff.mpr (raw_nodup hu))
  by_cases h : v ∈ closeF other u
  · rw [if_pos h]
    have h1 := List.count_pos_iff.mpr h
    have h2 := List.nodup_iff_count.mp hn v
    omega
  · rw [if_neg h, List.count_eq_zero_of_not_mem h]
theorem val_key {l : List (T × Nat)} (hn : (keysF l).Nodup) {q : T × Nat} (hq : q ∈ l) : valF l q.1 = q.2 := by
  induction l with
  | nil => cases hq
  | cons p l ih =>
    have hn' := List.nodup_cons.mp (show (p.1 :: keysF l).Nodup from hn)
    show (if p.1 = q.1 then p.2 else 0) + valF l q.1 = q.2
    rcases List.mem_cons.mp hq with rfl | hq
    · rw [if_pos rfl]
      have : valF l q.1 = 0 := by
        unfold valF
        have : ∀ l : List (T × Nat), q.1 ∉ keysF l → (l.map fun p => if p.1 = q.1 then p.2 else 0).sum = 0 := fun l => by
          induction l with
          | nil => intro _; rfl
          | cons p l ih =>
            intro h
            rw [List.map_cons, List.sum_cons, if_neg fun e => h (by rw [← e]; exact List.mem_cons_self ..), ih fun m => h (List.mem_cons_of_mem _ m)]
        exact this l hn'.1
      omega
    · rw [if_neg fun e => hn'.1 (by rw [e]; exact List.mem_map.mpr ⟨q, hq, rfl⟩), ih hn'.2 hq]
      omega
theorem sum_if (f : T → Nat) (p : T → Bool) : ∀ l : List T, (l.map fun u => f u * if p u = true then 1 else 0).sum = ((l.filter p).map f).sum
  | [] => rfl
  | u :: l => by
    rw [List.map_cons, List.sum_cons, sum_if f p l, List.filter_cons]
    by_cases q : p u = true
    · rw [if_pos q, if_pos q, List.map_cons, List.sum_cons, Nat.mul_one]
    · rw [if_neg q, if_neg q, Nat.mul_zero, Nat.zero_add]
theorem Lev.next {one other : T} {k : Nat} {l : List (T × Nat)} (h : Lev one other k l) (ho : InL one) (hl : one.length ≤ 3) (hd : ∀ v, Btw one v other → ∀ d ∈ dvec one v, d ≤ 4) (hlen : ∀ v, Btw one v other → (dvec one v).length ≤ 3) : Lev one other (k + 1) (stepFrom other [] l) := by
  have hin : ∀ q ∈ l, Btw one q.1 other ∧ farF one q.1 = k := fun q hq => (h.m q.1).mp (List.mem_map.mpr ⟨q, hq, rfl⟩)
  have hkeys : ∀ v, v ∈ keysF (stepFrom other [] l) ↔ Btw one v other ∧ farF one v = k + 1 := fun v => by
    rw [step_mem]
    constructor
    · rintro (hv | ⟨q, hq, hv⟩)
      · cases hv
      · obtain ⟨hb, hk⟩ := hin q hq
        obtain ⟨h1, h2⟩ := (close_mem (btw_in hb)).mp hv
        obtain ⟨g1, g2⟩ := step_on hb h1 h2
        exact ⟨g1, by omega⟩
    · rintro ⟨hb, hk⟩
      have hne : (predsF one v) ≠ [] := fun e => by
        have h1 := ways_rec (hlen v hb) (hd v hb) (by rw [← far_sum]; omega)
        have e2 := preds_dvec (a := one) (v := v) ho (btw_in hb)
        rw [e] at e2
        have hz : ∀ ds : List Nat, decs ds = [] → ds.sum = 0 := fun ds => by
          induction ds with
          | nil => intro _; rfl
          | cons a r ih =>
            intro h
            obtain ⟨z1, z2⟩ := List.append_eq_nil_iff.mp (show (if 0 < a then [(a - 1) :: r] else []) ++ (decs r).map (a :: ·) = [] from h)
            have ha : a = 0 := by
              by_cases q : 0 < a
              · rw [if_pos q] at z1; cases z1
              · omega
            rw [List.sum_cons, ih (List.map_eq_nil_iff.mp z2), ha]
        have := hz _ e2.symm
        rw [← far_sum] at this
        omega
      obtain ⟨u, hu⟩ := List.exists_mem_of_ne_nil _ hne
      obtain ⟨h1, h2, h3⟩ := (preds_mem ho (btw_in hb) (btw_len hb).1.symm).mp hu
      have hub := pred_btw hb h1 h2 h3
      obtain ⟨q, hq, e⟩ := List.mem_map.mp ((h.m u).mpr ⟨hub, by omega⟩)
      refine .inr ⟨q, hq, ?_⟩
      rw [e]
      refine (close_mem h2).mpr ⟨h1, ?_⟩
      have e1' := btw_far hb
      have e2' := btw_far hub
      omega
  refine ⟨step_nodup other List.nodup_nil, hkeys, fun q hq => ?_⟩
  have hqk := (hkeys q.1).mp (List.mem_map.mpr ⟨q, hq, rfl⟩)
  obtain ⟨hb, hk⟩ := hqk
  have hval := val_key (step_nodup other (l := l) (acc := []) List.nodup_nil) hq
  rw [← hval, step_val]
  show 0 + _ = _
  rw [Nat.zero_add]
  have e1' : (l.map fun p => p.2 * (closeF other p.1).count q.1) = (keysF l).map fun u => waysP (dvec one u) * if (decide (q.1 ∈ closeF other u)) = true then 1 else 0 := by
    unfold keysF
    rw [List.map_map]
    apply List.map_congr_left
    intro p hp
    show p.2 * _ = waysP (dvec one p.1) * _
    rw [h.v p hp, close_count (btw_in (hin p hp).1)]
    congr 1
    by_cases z : q.1 ∈ closeF other p.1
    · rw [if_pos z, if_pos (decide_eq_true z)]
    · rw [if_neg z, if_neg (by rw [decide_eq_true_eq]; exact z)]
  rw [e1', sum_if]
  have hp : ((keysF l).filter fun u => decide (q.1 ∈ closeF other u)).Perm (predsF one q.1) := by
    refine (List.perm_ext_iff_of_nodup (List.Pairwise.filter _ h.n) (preds_nodup (btw_in hb))).mpr fun u => ?_
    rw [List.mem_filter, decide_eq_true_eq, preds_mem ho (btw_in hb) (btw_len hb).1.symm]
    constructor
    · rintro ⟨hu, hc⟩
      obtain ⟨g1, g2⟩ := (h.m u).mp hu
      obtain ⟨c1, c2⟩ := (close_mem (btw_in g1)).mp hc
      exact ⟨c1, btw_in g1, by omega⟩
    · rintro ⟨h1, h2, h3⟩
      have hub := pred_btw hb h1 h2 h3
      refine ⟨(h.m u).mpr ⟨hub, by omega⟩, (close_mem h2).mpr ⟨h1, ?_⟩⟩
      have e1' := btw_far hb
      have e2' := btw_far hub
      omega
  rw [List.Perm.sum_nat (hp.map _), show (predsF one q.1).map (fun u => waysP (dvec one u)) = ((predsF one q.1).map (dvec one)).map waysP by rw [List.map_map]; rfl, preds_dvec ho (btw_in hb)]
  exact (ways_rec (hlen _ hb) (hd _ hb) (by rw [← far_sum]; omega)).symm
end Mi.P
end

section
namespace Mi.P
local macro_rules | `(tactic| infer_instance) => `(tactic| first
  | with_reducible exact v_K
  | ((with_reducible apply v_V); rfl)
  | ((with_reducible apply v_B); rfl)
  | ((with_reducible apply v_O); rfl)
  | (with_reducible apply v_s0)
  | (with_reducible apply v_s1)
  | (with_reducible apply v_1)
  | (with_reducible apply v_2)
  | (with_reducible apply v_tup)
  | (with_reducible apply v_lst)
  | (with_reducible apply v_call)
  | (with_reducible apply v_M)
  | (with_reducible apply v_Lc)
  | (with_reducible apply v_iE)
  | (with_reducible apply v_R1)
  | (with_reducible apply v_R2)
  | (with_reducible apply w_R3)
  | (with_reducible apply v_tE)
  | (with_reducible apply v_tN)
  | (with_reducible apply w_if)
  | (with_reducible apply w_seq)
  | (with_reducible apply v_exp)
  | (with_reducible apply v_ret)
  | (with_reducible apply v_asg)
  | (with_reducible apply v_own)
  | (with_reducible apply v_for)
  | (with_reducible apply v_enum)
  | (with_reducible apply w_DV)
  | (with_reducible apply w_DI)
  | (with_reducible apply w_zip)
  | (with_reducible apply w_sl)
  | (with_reducible apply w_sl3)
  | (with_reducible apply w_oE)
  | (with_reducible apply w_and)
  | (with_reducible apply w_or)
  | (with_reducible apply w_tAnd)
  | (with_reducible apply w_tOr)
  | (with_reducible apply w_eIf)
  | (with_reducible apply w_chn)
  | (with_reducible apply w_chnT)
  | (with_reducible apply w_par)
  | (with_reducible apply w_par3)
  | (with_reducible apply w_kill)
  | (with_reducible apply w_disp1)
  | (with_reducible apply w_dc)
  | ((with_reducible apply w_rem); rfl)
  | ((with_reducible apply w_pop); rfl)
  | ((with_reducible apply w_upd); rfl)
  | (with_reducible apply w_M3)
  | (with_reducible apply br_t)
  | (with_reducible apply br_f)
  | (with_reducible apply br_nf)
  | (with_reducible apply br_nt)
  | (with_reducible apply nxt_n)
  | (with_reducible apply nxt_r)
  | (with_reducible apply v_frz)
  | ((with_reducible apply w_app); rfl)
  | ((with_reducible apply v_set); rfl)
  | ((with_reducible apply w_aug); rfl)
  | ((with_reducible apply w_ext); rfl)
  | with_reducible exact v_skip
  | with_reducible exact s_tT
  | with_reducible exact s_oE0
  | with_reducible exact s_eDct
  | with_reducible exact f_nil
  | with_reducible exact v_lc0
  | with_reducible exact tr_bl
  | with_reducible exact tr_int
  | with_reducible exact tr_non
  | with_reducible exact rv_tup
  | with_reducible exact dn_0
  | with_reducible exact de_0
  | with_reducible exact wk_lst
  | with_reducible exact wk_tup
  | with_reducible exact sq_lst
  | with_reducible exact sq_tup
  | with_reducible exact len_S
  | with_reducible exact len_tS
  | with_reducible exact len_ones
  | with_reducible exact len_tones
  | with_reducible exact len_map
  | with_reducible exact len_tmap
  | with_reducible exact ln_lst
  | with_reducible exact ln_tup
  | with_reducible exact ln_dct
  | with_reducible exact ad_int
  | with_reducible exact sb_int
  | with_reducible exact ng_int
  | with_reducible exact lt_int
  | with_reducible exact le_int
  | with_reducible exact gt_int
  | with_reducible exact ge_int
  | with_reducible exact lt_txt
  | with_reducible exact le_txt
  | with_reducible exact gt_txt
  | with_reducible exact nt_bl
  | with_reducible exact in_int
  | with_reducible exact st_str
  | with_reducible exact is_bl
  | with_reducible exact isnot_bl
  | with_reducible exact ix_0
  | with_reducible exact ix_1
  | with_reducible exact ck_str
  | with_reducible exact ck_lst
  | with_reducible exact key_str
  | with_reducible exact key_int
  | with_reducible exact wk_dct
  | with_reducible exact ck_dct
  | with_reducible exact g_N
  | with_reducible exact g_T2
  | with_reducible exact g_T3
  | with_reducible exact ii_int_non
  | with_reducible exact ii_int_bl
  | with_reducible exact ii_int_int
  | with_reducible exact ii_int_str
  | with_reducible exact ii_int_tup
  | with_reducible exact ii_int_lst
  | with_reducible exact ii_bool_non
  | with_reducible exact ii_bool_bl
  | with_reducible exact ii_bool_int
  | with_reducible exact ii_bool_str
  | with_reducible exact ii_bool_tup
  | with_reducible exact ii_bool_lst
  | with_reducible exact ii_str_non
  | with_reducible exact ii_str_bl
  | with_reducible exact ii_str_int
  | with_reducible exact ii_str_str
  | with_reducible exact ii_str_tup
  | with_reducible exact ii_str_lst
  | with_reducible exact ii_tuple_non
  | with_reducible exact ii_tuple_bl
  | with_reducible exact ii_tuple_int
  | with_reducible exact ii_tuple_str
  | with_reducible exact ii_tuple_tup
  | with_reducible exact ii_tuple_lst
  | with_reducible exact ii_list_non
  | with_reducible exact ii_list_bl
  | with_reducible exact ii_list_int
  | with_reducible exact ii_list_str
  | with_reducible exact ii_list_tup
  | with_reducible exact ii_list_lst
  | with_reducible exact ii_dict_non
  | with_reducible exact ii_dict_bl
  | with_reducible exact ii_dict_int
  | with_reducible exact ii_dict_str
  | with_reducible exact ii_dict_tup
  | with_reducible exact ii_dict_lst
  | with_reducible exact isn_non
  | with_reducible exact inn_non
  | with_reducible exact isn_bl
  | with_reducible exact inn_bl
  | with_reducible exact isn_int
  | with_reducible exact inn_int
  | with_reducible exact isn_str
  | with_reducible exact inn_str
  | with_reducible exact isn_tup
  | with_reducible exact inn_tup
  | with_reducible exact isn_lst
  | with_reducible exact inn_lst
  | with_reducible exact isn_dct
  | with_reducible exact inn_dct
  | (with_reducible exact ok_rfl))


theorem br_chnB {v v1 : Bool} {c : Cup} {X : R (D × Cup)} (h : X = .ok (.bl v1, c)) : br v X (.ok (.bl false, c)) = .ok (.bl (v && v1), c) := by
  cases v
  · rfl
  · exact h
theorem lets_nodup : LETS.Nodup := by decide
theorem sidx {x : Nat} (h : x ∈ LETS) : pSIdx (.str LETS) (.str [x]) = some (.int ((hx x : Nat) : Int)) := by
  have e : pSIdx (.str LETS) (.str [x]) = if x ∈ LETS ∧ LETS.Nodup then some (.int ((LETS.idxOf x : Nat) : Int)) else none := rfl
  rw [e, if_pos ⟨h, lets_nodup⟩]
  rfl
def htF (w : T) : List Nat := w.map hx
theorem heights_ok {w : T} (hw : InL w) (hl : w.length ≤ 4000) {c : Cup} : m_heights_in [.str w] c = .ok (.lst (N (htF w)), c) := by
  have e0 : N (htF w) = w.map fun x => D.int ((hx x : Nat) : Int) := by rw [N, htF, List.map_map]; rfl
  unfold m_heights_in
  apply w_fun rfl
  · repeat infer_instance
    · exact wk_str
    · exact (map_ones (w := w) (f := fun x => .int ((hx x : Nat) : Int)) fun x hx' => by
        repeat infer_instance
        exact sidx (hw x hx')).trans (show _ = R.ok (N (htF w), c) by rw [e0])
    · rw [N_len]
      unfold htF
      rw [List.length_map]
      exact len4 hl
  · rfl
theorem Lheights_ok {w : T} (hw : InL w) (hl : w.length ≤ 4000) {c : Cup} : m_Lheights [.str w] c = .ok (.lst (N (htF w)), c) := by
  have e0 : N (htF w) = w.map fun x => D.int ((hx x : Nat) : Int) := by rw [N, htF, List.map_map]; rfl
  unfold m_Lheights
  apply w_fun rfl
  · repeat infer_instance
    · exact wk_str
    · exact (map_ones (w := w) (f := fun x => .int ((hx x : Nat) : Int)) fun x hx' => by
        repeat infer_instance
        exact sidx (hw x hx')).trans (show _ = R.ok (N (htF w), c) by rw [e0])
    · rw [N_len]
      unfold htF
      rw [List.length_map]
      exact len4 hl
  · rfl
theorem zip_far {i j : Nat} {a : EV} {ρ : Env} {c : Cup} (h : ∀ x y : Nat, a ((ρ.set i (.sh (.int ((hx x : Nat) : Int)))).set j (.sh (.int ((hx y : Nat) : Int)))) c = .ok (.int ((dx x y : Nat) : Int), c)) : ∀ p q : T, lcL (gT [gN i, gN j]) tT a ρ (zipD (N (htF p)) (N (htF q))) c = .ok (N (dvec p q), c)
  | [], q => by cases q <;> rfl
  | _ :: _, [] => rfl
  | x :: p, y :: q => by
    have ih := zip_far h p q
    have e : zipD (N (htF (x :: p))) (N (htF (y :: q))) = .tup [.int ((hx x : Nat) : Int), .int ((hx y : Nat) : Int)] :: zipD (N (htF p)) (N (htF q)) := rfl
    rw [e]
    unfold lcL
    show (tT ((ρ.set i (.sh (.int ((hx x : Nat) : Int)))).set j (.sh (.int ((hx y : Nat) : Int)))) c).bind _ = _
    rw [s_tT, R.bind_ok]
    show (a ((ρ.set i (.sh (.int ((hx x : Nat) : Int)))).set j (.sh (.int ((hx y : Nat) : Int)))) c).bind _ = _
    rw [h, R.bind_ok, ih, R.bind_ok]
    rfl
theorem dvec_len : ∀ a b : T, (dvec a b).length ≤ a.length
  | [], b => by cases b <;> exact Nat.le_refl _
  | _ :: _, [] => Nat.zero_le _
  | x :: a, y :: b => by
    rw [dvec, List.length_cons, List.length_cons]
    have := dvec_len a b
    omega
theorem abs_dx (x y : Nat) : pAbs (.int (((hx x : Nat) : Int) - ((hx y : Nat) : Int))) = some (.int ((dx x y : Nat) : Int)) := by
  have e : pAbs (.int (((hx x : Nat) : Int) - ((hx y : Nat) : Int))) = some (.int (if ((hx x : Nat) : Int) - ((hx y : Nat) : Int) < 0 then -(((hx x : Nat) : Int) - ((hx y : Nat) : Int)) else ((hx x : Nat) : Int) - ((hx y : Nat) : Int))) := rfl
  rw [e]
  congr 2
  unfold dx
  split <;> omega
theorem max_dx (x y : Nat) : pMax2 (.int (((hx x : Nat) : Int) - ((hx y : Nat) : Int))) (.int (((hx y : Nat) : Int) - ((hx x : Nat) : Int))) = some (.int ((dx x y : Nat) : Int)) := by
  have e : pMax2 (.int (((hx x : Nat) : Int) - ((hx y : Nat) : Int))) (.int (((hx y : Nat) : Int) - ((hx x : Nat) : Int))) = some (.int (if ((hx y : Nat) : Int) - ((hx x : Nat) : Int) > ((hx x : Nat) : Int) - ((hx y : Nat) : Int) then ((hx y : Nat) : Int) - ((hx x : Nat) : Int) else ((hx x : Nat) : Int) - ((hx y : Nat) : Int))) := rfl
  rw [e]
  congr 2
  unfold dx
  split <;> omega
theorem far_in_ok {a b : T} (ha : InL a) (hb : InL b) (la : a.length ≤ 4000) (lb : b.length ≤ 4000) {c : Cup} : m_far_in [.str a, .str b] c = .ok (.int ((farF a b : Nat) : Int), c) := by
  have hd := dvec_len a b
  unfold m_far_in
  apply w_fun rfl
  · repeat infer_instance
    · exact heights_ok ha la
    repeat infer_instance
    · exact heights_ok hb lb
    repeat infer_instance
    · exact zip_far (fun x y => by
        repeat infer_instance
        exact abs_dx x y) a b
    · rw [N_len]; exact len4 (by omega)
    · exact sum_N _
  · rw [far_sum]; rfl
theorem Lfar_ok {a b : T} (ha : InL a) (hb : InL b) (la : a.length ≤ 4000) (lb : b.length ≤ 4000) {c : Cup} : m_Lfar [.str a, .str b] c = .ok (.int ((farF a b : Nat) : Int), c) := by
  have hd := dvec_len a b
  unfold m_Lfar
  apply w_fun rfl
  · repeat infer_instance
    · exact Lheights_ok ha la
    repeat infer_instance
    · exact Lheights_ok hb lb
    repeat infer_instance
    · exact zip_far (fun x y => by
        repeat infer_instance
        exact max_dx x y) a b
    · rw [N_len]; exact len4 (by omega)
    · exact sum_N _
  · rw [far_sum]; rfl
theorem need_both_ok {a b : T} (ha : Word a) (hb : Word b) (h : a.length = b.length) {c : Cup} : m_need_both [.str a, .str b] c = .ok (.non, c) := by
  have h1 := ha.l1
  have h2 := hb.l1
  unfold m_need_both
  apply w_fun rfl
  · repeat infer_instance
    · exact need_ok ha
    repeat infer_instance
    · exact need_ok hb
    repeat infer_instance
    · exact ln_str (by omega)
    repeat infer_instance
    · exact ln_str (by omega)
    · exact ne_int _ _
    · rw [h, decide_eq_true rfl]; exact tr_bl
    repeat infer_instance
  · rfl
theorem steps_ok {a b : T} (ha : Word a) (hb : Word b) (h : a.length = b.length) {c : Cup} : m_steps_between [.str a, .str b] c = .ok (.int ((farF a b : Nat) : Int), c) := by
  have h1 := ha.l1
  have h2 := hb.l1
  unfold m_steps_between
  apply w_fun rfl
  · repeat infer_instance
    · exact need_both_ok ha hb h
    repeat infer_instance
    · exact far_in_ok ha.m hb.m (by omega) (by omega)
  · rfl
theorem heights_of_ok {w : T} (hw : Word w) {c : Cup} : m_heights_of [.str w] c = .ok (.tup (N (htF w)), c) := by
  have h1 := hw.l1
  unfold m_heights_of
  apply w_fun rfl
  · repeat infer_instance
    · exact need_ok hw
    repeat infer_instance
    · exact heights_ok hw.m (by omega)
    · exact tup4 (by rw [N_len]; unfold htF; rw [List.length_map]; omega)
  · rfl
/-! next words -/
def chg (w : T) (p h : Nat) : T := w.take p ++ [lx h] ++ w.drop (p + 1)
def atLo (w : T) (p : Nat) : List T := if 1 ≤ hx (w.getD p 0) then [chg w p (hx (w.getD p 0) - 1)] else []
def atUp (w : T) (p : Nat) : List T := if hx (w.getD p 0) + 1 < 26 then [chg w p (hx (w.getD p 0) + 1)] else []
theorem raw_eq : ∀ w : T, rawN w = (List.range w.length).flatMap fun p => atLo w p ++ atUp w p
  | [] => rfl
  | x :: a => by
    show lowL x a ++ upL x a ++ (rawN a).map (x :: ·) = _
    rw [List.length_cons, List.range_succ_eq_map, List.flatMap_cons, raw_eq a, List.map_flatMap, List.flatMap_map]
    congr 1
    congr 1
    funext p
    show (atLo a p ++ atUp a p).map (x :: ·) = atLo (x :: a) (p + 1) ++ atUp (x :: a) (p + 1)
    have e : (x :: a).getD (p + 1) 0 = a.getD p 0 := rfl
    have e2 : ∀ h, chg (x :: a) (p + 1) h = x :: chg a p h := fun h => rfl
    unfold atLo atUp
    rw [e, e2, e2, List.map_append]
    congr 1
    · split <;> rfl
    · split <;> rfl
theorem take_str {w : T} (h : w.length ≤ 4000) (k : Nat) : pSl (.str w) none (some (k : Int)) = some (.str (w.take k)) := by rw [sl_str (len4 h), cut_k]
theorem drop_str {w : T} (h : w.length ≤ 4000) (k : Nat) : pSl (.str w) (some ((k : Int) + 1)) none = some (.str (w.drop (k + 1))) := by
  rw [show (k : Int) + 1 = ((k + 1 : Nat) : Int) by omega, sl_str (len4 h), cut_from]
theorem lets_ix {h : Nat} (hl : h < 26) : pIx (.str LETS) (.int (h : Int)) = some (.str [lx h]) := ixS (w := LETS) (show 26 ≤ 16777216 by decide) hl
theorem getD_in {w : T} (hw : InL w) {p : Nat} (hp : p < w.length) : w.getD p 0 ∈ LETS := by
  rw [List.getD_eq_getElem?_getD, List.getElem?_eq_getElem hp]
  exact hw _ (List.getElem_mem _)
theorem chg_len {w : T} {p h : Nat} (hp : p < w.length) : (chg w p h).length = w.length := by
  unfold chg
  rw [List.length_append, List.length_append, List.length_take, List.length_drop, List.length_singleton]
  omega
theorem ln_in {w : T} (hw : InL w) (hl : w.length ≤ 12) {p : Nat} (hp : p < w.length) {c : Cup} (acc : List T) (hacc : acc.length ≤ 1000) (a4 a5 : Sl) : ∃ b4 b5, forL (gN 4) (sSeq (sAsg (gN 5) (e2 pAdd (eM isStr pSIdx (eB 2) (e2 pIx (eB 0) (eB 3))) (eB 4)))
    (sIf (tE (eChn pLe pLt (eK (.int 0)) (eV 5) (eK (.int 26))))
    (sApp 1 (e2 pAdd (e2 pAdd (eSl (eB 0) none (some (eB 3))) (e2 pIx (eB 2) (eB 5))) (eSl (eB 0) (some (e2 pAdd (eB 3) (eK (.int 1)))) none)))
    (sSkip))) [.int (-1), .int 1] [.sh (.str w), .ow (.lst (S acc)), .sh (.str LETS), .sh (.int (p : Int)), a4, a5] c = .ok (.nx, [.sh (.str w), .ow (.lst (S (acc ++ (atLo w p ++ atUp w p)))), .sh (.str LETS), .sh (.int (p : Int)), b4, b5], c) := by
  have hx' := getD_in hw hp
  have hlt := hx_lt hx'
  have one : ∀ (s : Int) (acc : List T) (a4 a5 : Sl) (ds : List D) (g : List T) {Q : R (Ctl × Env × Cup)}, acc.length ≤ 1001 → (g = if 0 ≤ ((hx (w.getD p 0) : Nat) : Int) + s ∧ ((hx (w.getD p 0) : Nat) : Int) + s < 26 then [chg w p (((hx (w.getD p 0) : Nat) : Int) + s).toNat] else []) →
      forL (gN 4) (sSeq (sAsg (gN 5) (e2 pAdd (eM isStr pSIdx (eB 2) (e2 pIx (eB 0) (eB 3))) (eB 4)))
    (sIf (tE (eChn pLe pLt (eK (.int 0)) (eV 5) (eK (.int 26))))
    (sApp 1 (e2 pAdd (e2 pAdd (eSl (eB 0) none (some (eB 3))) (e2 pIx (eB 2) (eB 5))) (eSl (eB 0) (some (e2 pAdd (eB 3) (eK (.int 1)))) none)))
    (sSkip))) ds [.sh (.str w), .ow (.lst (S (acc ++ g))), .sh (.str LETS), .sh (.int (p : Int)), .sh (.int s), .sh (.int (((hx (w.getD p 0) : Nat) : Int) + s))] c = Q → forL (gN 4) (sSeq (sAsg (gN 5) (e2 pAdd (eM isStr pSIdx (eB 2) (e2 pIx (eB 0) (eB 3))) (eB 4)))
    (sIf (tE (eChn pLe pLt (eK (.int 0)) (eV 5) (eK (.int 26))))
    (sApp 1 (e2 pAdd (e2 pAdd (eSl (eB 0) none (some (eB 3))) (e2 pIx (eB 2) (eB 5))) (eSl (eB 0) (some (e2 pAdd (eB 3) (eK (.int 1)))) none)))
    (sSkip))) (.int s :: ds) [.sh (.str w), .ow (.lst (S acc)), .sh (.str LETS), .sh (.int (p : Int)), a4, a5] c = Q := fun s acc a4 a5 ds g {Q} hacc hg hQ => by
    by_cases q : 0 ≤ ((hx (w.getD p 0) : Nat) : Int) + s ∧ ((hx (w.getD p 0) : Nat) : Int) + s < 26
    · rw [if_pos q] at hg
      obtain ⟨h, hh⟩ : ∃ h : Nat, ((hx (w.getD p 0) : Nat) : Int) + s = (h : Int) := ⟨(((hx (w.getD p 0) : Nat) : Int) + s).toNat, by omega⟩
      rw [hh, Int.toNat_natCast] at hg
      subst hg
      apply v_forS rfl
      repeat infer_instance
      · exact ixS (len4 (by omega)) hp
      repeat infer_instance
      · exact sidx hx'
      repeat infer_instance
      · refine br_dt q.1 ?_
        repeat infer_instance
      · rw [decide_eq_true q.2]; exact tr_bl
      repeat infer_instance
      · exact take_str (by omega) p
      repeat infer_instance
      · rw [hh]; exact lets_ix (by omega)
      · exact add_str (b := [lx h]) (by rw [List.length_take, List.length_singleton]; omega)
      repeat infer_instance
      · exact drop_str (by omega) p
      · exact add_str (by rw [List.length_append, List.length_take, List.length_drop, List.length_singleton]; omega)
      repeat infer_instance
      · rw [S_len]; exact Nat.lt_of_le_of_lt hacc (by decide)
      · rw [show S acc ++ [D.str (w.take p ++ [lx h] ++ w.drop (p + 1))] = S (acc ++ [chg w p h]) by rw [S, S, List.map_append]; rfl]
        exact hQ
    · rw [if_neg q, ] at hg
      subst hg
      rw [List.append_nil] at hQ
      apply v_forS rfl
      repeat infer_instance
      · exact ixS (len4 (by omega)) hp
      repeat infer_instance
      · exact sidx hx'
      repeat infer_instance
      · apply br_chnB
        repeat infer_instance
      · rw [show (decide ((0 : Int) ≤ ((hx (w.getD p 0) : Nat) : Int) + s) && decide (((hx (w.getD p 0) : Nat) : Int) + s < 26)) = false by
          rw [Bool.and_eq_false_iff, decide_eq_false_iff_not, decide_eq_false_iff_not]
          omega]
        exact tr_bl
      · exact br_f v_skip
      · exact hQ
  refine ⟨.sh (.int 1), .sh (.int (((hx (w.getD p 0) : Nat) : Int) + 1)), ?_⟩
  refine one (-1) acc a4 a5 [.int 1] (atLo w p) (by omega) ?_ ?_
  · unfold atLo
    by_cases q : 1 ≤ hx (w.getD p 0)
    · rw [if_pos q, if_pos (by omega), show (((hx (w.getD p 0) : Nat) : Int) + -1).toNat = hx (w.getD p 0) - 1 by omega]
    · rw [if_neg q, if_neg (by omega)]
  refine one 1 (acc ++ atLo w p) _ _ [] (atUp w p) ?_ ?_ ?_
  · rw [List.length_append]
    have : (atLo w p).length ≤ 1 := by unfold atLo; split <;> simp
    omega
  · unfold atUp
    by_cases q : hx (w.getD p 0) + 1 < 26
    · rw [if_pos q, if_pos (by omega), show (((hx (w.getD p 0) : Nat) : Int) + 1).toNat = hx (w.getD p 0) + 1 by omega]
    · rw [if_neg q, if_neg (by omega)]
  · rw [List.append_assoc]
    rfl
theorem at_len (w : T) (p : Nat) : (atLo w p ++ atUp w p).length ≤ 2 := by
  rw [List.length_append]
  have h1 : (atLo w p).length ≤ 1 := by unfold atLo; split <;> simp
  have h2 : (atUp w p).length ≤ 1 := by unfold atUp; split <;> simp
  omega
theorem ln_out {w : T} (hw : InL w) (hl : w.length ≤ 12) {c : Cup} : ∀ (l : List Nat) (acc : List T) (a3 a4 a5 : Sl), (∀ p ∈ l, p < w.length) → acc.length + 2 * l.length ≤ 1000 → ∃ b3 b4 b5, forL (gN 3) (sFor (iE (eTup [e1 pNeg (eK (.int 1)), eK (.int 1)])) (gN 4)
    (sSeq (sAsg (gN 5) (e2 pAdd (eM isStr pSIdx (eB 2) (e2 pIx (eB 0) (eB 3))) (eB 4)))
    (sIf (tE (eChn pLe pLt (eK (.int 0)) (eV 5) (eK (.int 26))))
    (sApp 1 (e2 pAdd (e2 pAdd (eSl (eB 0) none (some (eB 3))) (e2 pIx (eB 2) (eB 5))) (eSl (eB 0) (some (e2 pAdd (eB 3) (eK (.int 1)))) none)))
    (sSkip)))) (N l) [.sh (.str w), .ow (.lst (S acc)), .sh (.str LETS), a3, a4, a5] c = .ok (.nx, [.sh (.str w), .ow (.lst (S (acc ++ l.flatMap fun p => atLo w p ++ atUp w p))), .sh (.str LETS), b3, b4, b5], c)
  | [], acc, a3, a4, a5, _, _ => ⟨a3, a4, a5, by rw [show acc ++ ([] : List Nat).flatMap (fun p => atLo w p ++ atUp w p) = acc from List.append_nil _]; rfl⟩
  | p :: l, acc, a3, a4, a5, hp, hn => by
    rw [List.length_cons] at hn
    have ha := at_len w p
    obtain ⟨r4, r5, hi⟩ := ln_in hw hl (hp p (List.mem_cons_self ..)) (c := c) acc (by omega) a4 a5
    obtain ⟨b3, b4, b5, ih⟩ := ln_out hw hl (c := c) l (acc ++ (atLo w p ++ atUp w p)) (.sh (.int (p : Int))) r4 r5 (fun z hz => hp z (List.mem_cons_of_mem _ hz)) (by rw [List.length_append]; omega)
    refine ⟨b3, b4, b5, ?_⟩
    rw [List.flatMap_cons, ← List.append_assoc]
    show forL (gN 3) (sFor (iE (eTup [e1 pNeg (eK (.int 1)), eK (.int 1)])) (gN 4)
    (sSeq (sAsg (gN 5) (e2 pAdd (eM isStr pSIdx (eB 2) (e2 pIx (eB 0) (eB 3))) (eB 4)))
    (sIf (tE (eChn pLe pLt (eK (.int 0)) (eV 5) (eK (.int 26))))
    (sApp 1 (e2 pAdd (e2 pAdd (eSl (eB 0) none (some (eB 3))) (e2 pIx (eB 2) (eB 5))) (eSl (eB 0) (some (e2 pAdd (eB 3) (eK (.int 1)))) none)))
    (sSkip)))) (.int (p : Int) :: N l) _ c = _
    apply v_forS rfl
    repeat infer_instance
    · exact hi
    · exact ih
theorem ints_Nr (n : Nat) : intsD 0 n = N (List.range n) := by
  rw [intsD_eq, N]
  apply List.map_congr_left
  intro k _
  rw [Int.zero_add]
theorem raw_len (w : T) : (rawN w).length ≤ 2 * w.length := by
  rw [raw_eq]
  have : ∀ l : List Nat, (l.flatMap fun p => atLo w p ++ atUp w p).length ≤ 2 * l.length := fun l => by
    induction l with
    | nil => exact Nat.zero_le _
    | cons p l ih =>
      rw [List.flatMap_cons, List.length_append, List.length_cons]
      have := at_len w p
      omega
  have h := this (List.range w.length)
  rwa [List.length_range] at h
theorem Lnexts_ok {w : T} (hw : InL w) (hl : w.length ≤ 12) {c : Cup} : m_Lnexts [.str w] c = .ok (.lst (S (nextsF w)), c) := by
  have hr := raw_len w
  obtain ⟨b3, b4, b5, e⟩ := ln_out hw hl (c := c) (List.range w.length) [] .un .un .un (fun p h => List.mem_range.mp h) (by rw [List.length_range, List.length_nil]; omega)
  rw [List.nil_append, ← raw_eq] at e
  unfold m_Lnexts
  apply w_fun rfl
  · repeat infer_instance
    · exact ln_str (by omega)
    · exact okI_of (by omega)
    · rw [Int.toNat_natCast, ints_Nr]
      exact e
    repeat infer_instance
    · exact sorted_S (x := .lst (S (rawN w))) (l := rawN w) rfl (by omega)
  · rfl
/-! the program's -/
theorem nw_in {w : T} (hw : InL w) (hl : w.length ≤ 12) {p : Nat} (hp : p < w.length) {c : Cup} (acc : List T) (hacc : acc.length ≤ 1000) (a4 : Sl) : ∃ b4, forL (gN 4) (sIf (tE (eChn pLe pLt (eK (.int 0)) (eV 4) (e1 pLen (eK (.str [97, 98, 99, 100, 101, 102, 103, 104, 105, 106, 107, 108, 109, 110, 111, 112, 113, 114, 115, 116, 117, 118, 119, 120, 121, 122])))))
    (sApp 1 (e2 pAdd (e2 pAdd (eSl (eB 0) none (some (eB 2))) (e2 pIx (eK (.str [97, 98, 99, 100, 101, 102, 103, 104, 105, 106, 107, 108, 109, 110, 111, 112, 113, 114, 115, 116, 117, 118, 119, 120, 121, 122])) (eB 4))) (eSl (eB 0) (some (e2 pAdd (eB 2) (eK (.int 1)))) none)))
    (sSkip)) [.int (((hx (w.getD p 0) : Nat) : Int) - 1), .int (((hx (w.getD p 0) : Nat) : Int) + 1)] [.sh (.str w), .ow (.lst (S acc)), .sh (.int (p : Int)), .sh (.int ((hx (w.getD p 0) : Nat) : Int)), a4] c = .ok (.nx, [.sh (.str w), .ow (.lst (S (acc ++ (atLo w p ++ atUp w p)))), .sh (.int (p : Int)), .sh (.int ((hx (w.getD p 0) : Nat) : Int)), b4], c) := by
  have hx' := getD_in hw hp
  have hlt := hx_lt hx'
  have one : ∀ (s : Int) (acc : List T) (a4 : Sl) (ds : List D) (g : List T) {Q : R (Ctl × Env × Cup)}, acc.length ≤ 1001 → (g = if 0 ≤ s ∧ s < 26 then [chg w p s.toNat] else []) →
      forL (gN 4) (sIf (tE (eChn pLe pLt (eK (.int 0)) (eV 4) (e1 pLen (eK (.str [97, 98, 99, 100, 101, 102, 103, 104, 105, 106, 107, 108, 109, 110, 111, 112, 113, 114, 115, 116, 117, 118, 119, 120, 121, 122])))))
    (sApp 1 (e2 pAdd (e2 pAdd (eSl (eB 0) none (some (eB 2))) (e2 pIx (eK (.str [97, 98, 99, 100, 101, 102, 103, 104, 105, 106, 107, 108, 109, 110, 111, 112, 113, 114, 115, 116, 117, 118, 119, 120, 121, 122])) (eB 4))) (eSl (eB 0) (some (e2 pAdd (eB 2) (eK (.int 1)))) none)))
    (sSkip)) ds [.sh (.str w), .ow (.lst (S (acc ++ g))), .sh (.int (p : Int)), .sh (.int ((hx (w.getD p 0) : Nat) : Int)), .sh (.int s)] c = Q → forL (gN 4) (sIf (tE (eChn pLe pLt (eK (.int 0)) (eV 4) (e1 pLen (eK (.str [97, 98, 99, 100, 101, 102, 103, 104, 105, 106, 107, 108, 109, 110, 111, 112, 113, 114, 115, 116, 117, 118, 119, 120, 121, 122])))))
    (sApp 1 (e2 pAdd (e2 pAdd (eSl (eB 0) none (some (eB 2))) (e2 pIx (eK (.str [97, 98, 99, 100, 101, 102, 103, 104, 105, 106, 107, 108, 109, 110, 111, 112, 113, 114, 115, 116, 117, 118, 119, 120, 121, 122])) (eB 4))) (eSl (eB 0) (some (e2 pAdd (eB 2) (eK (.int 1)))) none)))
    (sSkip)) (.int s :: ds) [.sh (.str w), .ow (.lst (S acc)), .sh (.int (p : Int)), .sh (.int ((hx (w.getD p 0) : Nat) : Int)), a4] c = Q := fun s acc a4 ds g {Q} hacc hg hQ => by
    have h26 : pLen (.str LETS) = some (.int 26) := ln_str (s := LETS) (by decide)
    by_cases q : 0 ≤ s ∧ s < 26
    · rw [if_pos q] at hg
      obtain ⟨h, rfl⟩ : ∃ h : Nat, s = (h : Int) := ⟨s.toNat, by omega⟩
      rw [Int.toNat_natCast] at hg
      subst hg
      apply v_forS rfl
      repeat infer_instance
      · refine br_dt q.1 ?_
        repeat infer_instance
        · exact h26
        repeat infer_instance
      · rw [decide_eq_true q.2]; exact tr_bl
      repeat infer_instance
      · exact take_str (by omega) p
      repeat infer_instance
      · exact lets_ix (by omega)
      · exact add_str (b := [lx h]) (by rw [List.length_take, List.length_singleton]; omega)
      repeat infer_instance
      · exact drop_str (by omega) p
      · exact add_str (by rw [List.length_append, List.length_take, List.length_drop, List.length_singleton]; omega)
      repeat infer_instance
      · rw [S_len]; exact Nat.lt_of_le_of_lt hacc (by decide)
      · rw [show S acc ++ [D.str (w.take p ++ [lx h] ++ w.drop (p + 1))] = S (acc ++ [chg w p h]) by rw [S, S, List.map_append]; rfl]
        exact hQ
    · rw [if_neg q] at hg
      subst hg
      rw [List.append_nil] at hQ
      apply v_forS rfl
      repeat infer_instance
      · apply br_chnB
        repeat infer_instance
        · exact h26
        repeat infer_instance
      · rw [show (decide ((0 : Int) ≤ s) && decide (s < 26)) = false by
          rw [Bool.and_eq_false_iff, decide_eq_false_iff_not, decide_eq_false_iff_not]
          omega]
        exact tr_bl
      · exact br_f v_skip
      · exact hQ
  refine ⟨.sh (.int (((hx (w.getD p 0) : Nat) : Int) + 1)), ?_⟩
  refine one (((hx (w.getD p 0) : Nat) : Int) - 1) acc a4 [.int (((hx (w.getD p 0) : Nat) : Int) + 1)] (atLo w p) (by omega) ?_ ?_
  · unfold atLo
    by_cases q : 1 ≤ hx (w.getD p 0)
    · rw [if_pos q, if_pos (by omega), show (((hx (w.getD p 0) : Nat) : Int) - 1).toNat = hx (w.getD p 0) - 1 by omega]
    · rw [if_neg q, if_neg (by omega)]
  refine one (((hx (w.getD p 0) : Nat) : Int) + 1) (acc ++ atLo w p) _ [] (atUp w p) ?_ ?_ ?_
  · rw [List.length_append]
    have : (atLo w p).length ≤ 1 := by unfold atLo; split <;> simp
    omega
  · unfold atUp
    by_cases q : hx (w.getD p 0) + 1 < 26
    · rw [if_pos q, if_pos (by omega), show (((hx (w.getD p 0) : Nat) : Int) + 1).toNat = hx (w.getD p 0) + 1 by omega]
    · rw [if_neg q, if_neg (by omega)]
  · rw [List.append_assoc]
    rfl
theorem nw_out {w : T} (hw : InL w) (hl : w.length ≤ 12) {c : Cup} : ∀ (l : List Nat) (acc : List T) (a2 a3 a4 : Sl), (∀ p ∈ l, p < w.length) → acc.length + 2 * l.length ≤ 1000 → ∃ b2 b3 b4, forL (gT [gN 2, gN 3]) (sFor (iE (eTup [e2 pSub (eB 3) (eK (.int 1)), e2 pAdd (eB 3) (eK (.int 1))])) (gN 4)
    (sIf (tE (eChn pLe pLt (eK (.int 0)) (eV 4) (e1 pLen (eK (.str [97, 98, 99, 100, 101, 102, 103, 104, 105, 106, 107, 108, 109, 110, 111, 112, 113, 114, 115, 116, 117, 118, 119, 120, 121, 122])))))
    (sApp 1 (e2 pAdd (e2 pAdd (eSl (eB 0) none (some (eB 2))) (e2 pIx (eK (.str [97, 98, 99, 100, 101, 102, 103, 104, 105, 106, 107, 108, 109, 110, 111, 112, 113, 114, 115, 116, 117, 118, 119, 120, 121, 122])) (eB 4))) (eSl (eB 0) (some (e2 pAdd (eB 2) (eK (.int 1)))) none)))
    (sSkip))) (l.map fun p : Nat => .tup [.int (p : Int), .int ((hx (w.getD p 0) : Nat) : Int)]) [.sh (.str w), .ow (.lst (S acc)), a2, a3, a4] c = .ok (.nx, [.sh (.str w), .ow (.lst (S (acc ++ l.flatMap fun p => atLo w p ++ atUp w p))), b2, b3, b4], c)
  | [], acc, a2, a3, a4, _, _ => ⟨a2, a3, a4, by rw [show acc ++ ([] : List Nat).flatMap (fun p => atLo w p ++ atUp w p) = acc from List.append_nil _]; rfl⟩
  | p :: l, acc, a2, a3, a4, hp, hn => by
    rw [List.length_cons] at hn
    have ha := at_len w p
    obtain ⟨r4, hi⟩ := nw_in hw hl (hp p (List.mem_cons_self ..)) (c := c) acc (by omega) a4
    obtain ⟨b2, b3, b4, ih⟩ := nw_out hw hl (c := c) l (acc ++ (atLo w p ++ atUp w p)) (.sh (.int (p : Int))) (.sh (.int ((hx (w.getD p 0) : Nat) : Int))) r4 (fun z hz => hp z (List.mem_cons_of_mem _ hz)) (by rw [List.length_append]; omega)
    refine ⟨b2, b3, b4, ?_⟩
    rw [List.flatMap_cons, ← List.append_assoc, List.map_cons]
    apply v_forS g_T2
    repeat infer_instance
    · exact hi
    · exact ih
theorem enum_h : ∀ (w : T) (k : Int), enumD k (N (htF w)) = (List.range w.length).map fun x : Nat => .tup [.int (k + (x : Int)), .int ((hx (w.getD x 0) : Nat) : Int)]
  | [], k => rfl
  | g :: w, k => by
    have e : enumD k (N (htF (g :: w))) = .tup [.int k, .int ((hx g : Nat) : Int)] :: enumD (k + 1) (N (htF w)) := rfl
    rw [e, enum_h w (k + 1), List.length_cons, List.range_succ_eq_map, List.map_cons, List.map_map]
    congr 1
    · rw [Int.natCast_zero, Int.add_zero]
      rfl
    · apply List.map_congr_left
      intro x _
      show D.tup [.int (k + 1 + (x : Int)), .int ((hx (w.getD x 0) : Nat) : Int)] = .tup [.int (k + ((x + 1 : Nat) : Int)), .int ((hx ((g :: w).getD (x + 1) 0) : Nat) : Int)]
      rw [show k + 1 + (x : Int) = k + ((x + 1 : Nat) : Int) by omega]
      rfl
theorem next_words_ok {w : T} (hw : Word w) {c : Cup} : m_next_words [.str w] c = .ok (.tup (S (nextsF w)), c) := by
  have hl := hw.l1
  have hr := raw_len w
  obtain ⟨b2, b3, b4, e⟩ := nw_out hw.m hl (c := c) (List.range w.length) [] .un .un .un (fun p h => List.mem_range.mp h) (by rw [List.length_range, List.length_nil]; omega)
  rw [List.nil_append, ← raw_eq] at e
  have en := enum_h w 0
  simp only [Int.zero_add] at en
  unfold m_next_words
  apply w_fun rfl
  · repeat infer_instance
    · exact need_ok hw
    repeat infer_instance
    · exact heights_ok hw.m (by omega)
    repeat infer_instance
    · rw [en]
      exact e
    repeat infer_instance
    · exact sorted_S (x := .lst (S (rawN w))) (l := rawN w) rfl (by omega)
    · exact tuple_S (by rw [sort_len]; omega)
  · rfl
/-! the formula -/
theorem mulA_s {a b : Nat} (h : b ≤ 100000) : pMulA (.int (a : Int)) (.int (b : Int)) = some (.int ((a * b : Nat) : Int)) := by
  have hs : small (b : Int) = true := small_of (by omega)
  have e : pMulA (.int (a : Int)) (.int (b : Int)) = if (small (a : Int) || small (b : Int)) = true then some (D.int ((a : Int) * (b : Int))) else none := rfl
  rw [e, hs, Bool.or_true, if_pos rfl, Int.natCast_mul]
theorem div_N {a b : Nat} (h0 : 0 < b) (h1 : b < 1000000) : pDiv (.int (a : Int)) (.int (b : Int)) = some (.int ((a / b : Nat) : Int)) := by
  have e : pDiv (.int (a : Int)) (.int (b : Int)) = if 0 < (b : Int) ∧ (b : Int) < 1073741824 then some (.int ((a : Int) / (b : Int))) else none := rfl
  rw [e, if_pos ⟨by omega, by omega⟩, Int.natCast_ediv]
theorem wm_in {x0 x1 x4 x5 : Sl} {c : Cup} : ∀ (n s f m : Nat) (a6 : Sl), s + n ≤ 1000 → m + n ≤ 1000 → ∃ b6, forL (gN 6) (sSeq (sAsg (gN 3) (e2 pAdd (eB 3) (eK (.int 1))))
    (sAsg (gN 2) (e2 pDiv (e2 pMulA (eB 2) (eB 3)) (e2 pAdd (eB 6) (eK (.int 1)))))) (intsD (s : Int) n) [x0, x1, .sh (.int (f : Int)), .sh (.int (m : Int)), x4, x5, a6] c = .ok (.nx, [x0, x1, .sh (.int (((wIn n s f m).1 : Nat) : Int)), .sh (.int (((wIn n s f m).2 : Nat) : Int)), x4, x5, b6], c)
  | 0, s, f, m, a6, _, _ => ⟨a6, rfl⟩
  | n + 1, s, f, m, a6, hs, hm => by
    obtain ⟨b6, ih⟩ := wm_in (x0 := x0) (x1 := x1) (x4 := x4) (x5 := x5) (c := c) n (s + 1) (f * (m + 1) / (s + 1)) (m + 1) (.sh (.int (s : Int))) (by omega) (by omega)
    refine ⟨b6, ?_⟩
    show forL (gN 6) (sSeq (sAsg (gN 3) (e2 pAdd (eB 3) (eK (.int 1))))
    (sAsg (gN 2) (e2 pDiv (e2 pMulA (eB 2) (eB 3)) (e2 pAdd (eB 6) (eK (.int 1)))))) (.int (s : Int) :: intsD ((s : Int) + 1) n) _ c = _
    rw [show (s : Int) + 1 = ((s + 1 : Nat) : Int) by omega]
    apply v_forS rfl
    repeat infer_instance
    · rw [show (m : Int) + 1 = ((m + 1 : Nat) : Int) by omega]
      exact mulA_s (by omega)
    repeat infer_instance
    · rw [show (s : Int) + 1 = ((s + 1 : Nat) : Int) by omega]
      exact div_N (by omega) (by omega)
    repeat infer_instance
    · rw [show (m : Int) + 1 = ((m + 1 : Nat) : Int) by omega]
      exact ih
theorem wIn_m : ∀ n s f m : Nat, (wIn n s f m).2 = m + n
  | 0, _, _, _ => rfl
  | n + 1, s, f, m => by
    show (wIn n (s + 1) _ (m + 1)).2 = _
    rw [wIn_m n]
    omega
theorem wm_out {x0 x1 : Sl} {c : Cup} : ∀ (p q : T) (f m : Nat) (a4 a5 a6 : Sl), InL p → InL q → m + 26 * p.length ≤ 1000 → ∃ b3 b4 b5 b6, forL (gT [gN 4, gN 5]) (sFor (iR1 (e1 pAbs (e2 pSub (eB 4) (eB 5)))) (gN 6)
    (sSeq (sAsg (gN 3) (e2 pAdd (eB 3) (eK (.int 1))))
    (sAsg (gN 2) (e2 pDiv (e2 pMulA (eB 2) (eB 3)) (e2 pAdd (eB 6) (eK (.int 1))))))) (zipD (N (htF p)) (N (htF q))) [x0, x1, .sh (.int (f : Int)), .sh (.int (m : Int)), a4, a5, a6] c = .ok (.nx, [x0, x1, .sh (.int ((wOut (dvec p q) f m : Nat) : Int)), b3, b4, b5, b6], c)
  | [], q, f, m, a4, a5, a6, _, _, _ => ⟨.sh (.int (m : Int)), a4, a5, a6, by cases q <;> rfl⟩
  | _ :: _, [], f, m, a4, a5, a6, _, _, _ => ⟨.sh (.int (m : Int)), a4, a5, a6, rfl⟩
  | x :: p, y :: q, f, m, a4, a5, a6, hp, hq, hm => by
    have h1 := hx_lt (hp x (List.mem_cons_self ..))
    have h2 := hx_lt (hq y (List.mem_cons_self ..))
    have hd : dx x y ≤ 25 := by unfold dx; omega
    rw [List.length_cons] at hm
    obtain ⟨r6, hi⟩ := wm_in (x0 := x0) (x1 := x1) (x4 := .sh (.int ((hx x : Nat) : Int))) (x5 := .sh (.int ((hx y : Nat) : Int))) (c := c) (dx x y) 0 f m a6 (by omega) (by omega)
    have hm2 := wIn_m (dx x y) 0 f m
    obtain ⟨b3, b4, b5, b6, ih⟩ := wm_out (x0 := x0) (x1 := x1) (c := c) p q (wIn (dx x y) 0 f m).1 (wIn (dx x y) 0 f m).2 (.sh (.int ((hx x : Nat) : Int))) (.sh (.int ((hx y : Nat) : Int))) r6 (fun z hz => hp z (List.mem_cons_of_mem _ hz)) (fun z hz => hq z (List.mem_cons_of_mem _ hz)) (by omega)
    refine ⟨b3, b4, b5, b6, ?_⟩
    show forL (gT [gN 4, gN 5]) (sFor (iR1 (e1 pAbs (e2 pSub (eB 4) (eB 5)))) (gN 6)
    (sSeq (sAsg (gN 3) (e2 pAdd (eB 3) (eK (.int 1))))
    (sAsg (gN 2) (e2 pDiv (e2 pMulA (eB 2) (eB 3)) (e2 pAdd (eB 6) (eK (.int 1))))))) (.tup [.int ((hx x : Nat) : Int), .int ((hx y : Nat) : Int)] :: zipD (N (htF p)) (N (htF q))) _ c = _
    apply v_forS g_T2
    repeat infer_instance
    · exact abs_dx x y
    · exact okI_of (by omega)
    · rw [Int.toNat_natCast]
      exact hi
    · exact ih
theorem ways_ok {a b : T} (ha : Word a) (hb : Word b) (h : a.length = b.length) {c : Cup} : m_ways_many [.str a, .str b] c = .ok (.int ((waysP (dvec a b) : Nat) : Int), c) := by
  have h1 := ha.l1
  have h2 := hb.l1
  obtain ⟨b3, b4, b5, b6, e⟩ := wm_out (x0 := .sh (.str a)) (x1 := .sh (.str b)) (c := c) a b 1 0 .un .un .un ha.m hb.m (by omega)
  unfold m_ways_many
  apply w_fun rfl
  · repeat infer_instance
    · exact need_both_ok ha hb h
    repeat infer_instance
    · exact heights_ok ha.m (by omega)
    repeat infer_instance
    · exact heights_ok hb.m (by omega)
    repeat infer_instance
    · exact e
    repeat infer_instance
  · rfl
end Mi.P
end

section
namespace Mi.P
local macro_rules | `(tactic| infer_instance) => `(tactic| first
  | with_reducible exact v_K
  | ((with_reducible apply v_V); rfl)
  | ((with_reducible apply v_B); rfl)
  | ((with_reducible apply v_O); rfl)
  | (with_reducible apply v_s0)
  | (with_reducible apply v_s1)
  | (with_reducible apply v_1)
  | (with_reducible apply v_2)
  | (with_reducible apply v_tup)
  | (with_reducible apply v_lst)
  | (with_reducible apply v_call)
  | (with_reducible apply v_M)
  | (with_reducible apply v_Lc)
  | (with_reducible apply v_iE)
  | (with_reducible apply v_R1)
  | (with_reducible apply v_R2)
  | (with_reducible apply w_R3)
  | (with_reducible apply v_tE)
  | (with_reducible apply v_tN)
  | (with_reducible apply w_if)
  | (with_reducible apply w_seq)
  | (with_reducible apply v_exp)
  | (with_reducible apply v_ret)
  | (with_reducible apply v_asg)
  | (with_reducible apply v_own)
  | (with_reducible apply v_for)
  | (with_reducible apply v_enum)
  | (with_reducible apply w_DV)
  | (with_reducible apply w_DI)
  | (with_reducible apply w_zip)
  | (with_reducible apply w_sl)
  | (with_reducible apply w_sl3)
  | (with_reducible apply w_oE)
  | (with_reducible apply w_and)
  | (with_reducible apply w_or)
  | (with_reducible apply w_tAnd)
  | (with_reducible apply w_tOr)
  | (with_reducible apply w_eIf)
  | (with_reducible apply w_chn)
  | (with_reducible apply w_chnT)
  | (with_reducible apply w_par)
  | (with_reducible apply w_par3)
  | (with_reducible apply w_kill)
  | (with_reducible apply w_disp1)
  | (with_reducible apply w_dc)
  | ((with_reducible apply w_rem); rfl)
  | ((with_reducible apply w_pop); rfl)
  | ((with_reducible apply w_upd); rfl)
  | (with_reducible apply w_M3)
  | (with_reducible apply br_t)
  | (with_reducible apply br_f)
  | (with_reducible apply br_nf)
  | (with_reducible apply br_nt)
  | (with_reducible apply nxt_n)
  | (with_reducible apply nxt_r)
  | (with_reducible apply v_frz)
  | ((with_reducible apply w_app); rfl)
  | ((with_reducible apply v_set); rfl)
  | ((with_reducible apply w_aug); rfl)
  | ((with_reducible apply w_ext); rfl)
  | with_reducible exact v_skip
  | with_reducible exact s_tT
  | with_reducible exact s_oE0
  | with_reducible exact s_eDct
  | with_reducible exact f_nil
  | with_reducible exact v_lc0
  | with_reducible exact tr_bl
  | with_reducible exact tr_int
  | with_reducible exact tr_non
  | with_reducible exact rv_tup
  | with_reducible exact dn_0
  | with_reducible exact de_0
  | with_reducible exact wk_lst
  | with_reducible exact wk_tup
  | with_reducible exact sq_lst
  | with_reducible exact sq_tup
  | with_reducible exact len_S
  | with_reducible exact len_tS
  | with_reducible exact len_ones
  | with_reducible exact len_tones
  | with_reducible exact len_map
  | with_reducible exact len_tmap
  | with_reducible exact ln_lst
  | with_reducible exact ln_tup
  | with_reducible exact ln_dct
  | with_reducible exact ad_int
  | with_reducible exact sb_int
  | with_reducible exact ng_int
  | with_reducible exact lt_int
  | with_reducible exact le_int
  | with_reducible exact gt_int
  | with_reducible exact ge_int
  | with_reducible exact lt_txt
  | with_reducible exact le_txt
  | with_reducible exact gt_txt
  | with_reducible exact nt_bl
  | with_reducible exact in_int
  | with_reducible exact st_str
  | with_reducible exact is_bl
  | with_reducible exact isnot_bl
  | with_reducible exact ix_0
  | with_reducible exact ix_1
  | with_reducible exact ck_str
  | with_reducible exact ck_lst
  | with_reducible exact key_str
  | with_reducible exact key_int
  | with_reducible exact wk_dct
  | with_reducible exact ck_dct
  | with_reducible exact g_N
  | with_reducible exact g_T2
  | with_reducible exact g_T3
  | with_reducible exact ii_int_non
  | with_reducible exact ii_int_bl
  | with_reducible exact ii_int_int
  | with_reducible exact ii_int_str
  | with_reducible exact ii_int_tup
  | with_reducible exact ii_int_lst
  | with_reducible exact ii_bool_non
  | with_reducible exact ii_bool_bl
  | with_reducible exact ii_bool_int
  | with_reducible exact ii_bool_str
  | with_reducible exact ii_bool_tup
  | with_reducible exact ii_bool_lst
  | with_reducible exact ii_str_non
  | with_reducible exact ii_str_bl
  | with_reducible exact ii_str_int
  | with_reducible exact ii_str_str
  | with_reducible exact ii_str_tup
  | with_reducible exact ii_str_lst
  | with_reducible exact ii_tuple_non
  | with_reducible exact ii_tuple_bl
  | with_reducible exact ii_tuple_int
  | with_reducible exact ii_tuple_str
  | with_reducible exact ii_tuple_tup
  | with_reducible exact ii_tuple_lst
  | with_reducible exact ii_list_non
  | with_reducible exact ii_list_bl
  | with_reducible exact ii_list_int
  | with_reducible exact ii_list_str
  | with_reducible exact ii_list_tup
  | with_reducible exact ii_list_lst
  | with_reducible exact ii_dict_non
  | with_reducible exact ii_dict_bl
  | with_reducible exact ii_dict_int
  | with_reducible exact ii_dict_str
  | with_reducible exact ii_dict_tup
  | with_reducible exact ii_dict_lst
  | with_reducible exact isn_non
  | with_reducible exact inn_non
  | with_reducible exact isn_bl
  | with_reducible exact inn_bl
  | with_reducible exact isn_int
  | with_reducible exact inn_int
  | with_reducible exact isn_str
  | with_reducible exact inn_str
  | with_reducible exact isn_tup
  | with_reducible exact inn_tup
  | with_reducible exact isn_lst
  | with_reducible exact inn_lst
  | with_reducible exact isn_dct
  | with_reducible exact inn_dct
  | (with_reducible exact ok_rfl))


/-! within -/
def dpS (cs : List Nat) (far : Nat) : List Nat := (List.range (far + 1)).map fun k => ((cs.drop (k - 25)).take (k + 1 - (k - 25))).sum
def dpF (far : Nat) : Nat → List Nat
  | 0 => [1] ++ List.replicate far 0
  | n + 1 => dpS (dpF far n) far
def dpL (far : Nat) : Nat → List Nat → List Nat
  | 0, cs => cs
  | n + 1, cs => dpL far n (dpS cs far)
theorem dpL_eq (far : Nat) : ∀ n k, dpL far n (dpF far k) = dpF far (k + n)
  | 0, _ => rfl
  | n + 1, k => by
    show dpL far n (dpF far (k + 1)) = _
    rw [dpL_eq far n (k + 1)]
    congr 1
    omega
theorem sl_ab {l : List Nat} {a b : Nat} : pSl (.lst (N l)) (some (a : Int)) (some (b : Int)) = some (.lst (N ((l.drop a).take (b - a)))) := by
  have e : pSl (.lst (N l)) (some (a : Int)) (some (b : Int)) = some (.lst (((N l).drop (sIx (N l).length (a : Int))).take (sIx (N l).length (b : Int) - sIx (N l).length (a : Int)))) := rfl
  have h1 : ∀ k : Nat, sIx (N l).length (k : Int) = min k l.length := fun k => by
    unfold sIx
    rw [N_len, if_pos (by omega), Int.toNat_natCast]
  rw [e, h1, h1, N, N, ← List.map_drop, ← List.map_take]
  congr 3
  by_cases q : a ≤ l.length
  · rw [show min a l.length = a by omega]
    by_cases z : b ≤ l.length
    · rw [show min b l.length = b by omega]
    · rw [show min b l.length = l.length by omega, List.take_of_length_le (by rw [List.length_drop]; omega), List.take_of_length_le (by rw [List.length_drop]; omega)]
  · rw [List.drop_eq_nil_of_le (by omega), List.drop_eq_nil_of_le (by omega), List.take_nil, List.take_nil]
theorem wi_loop {x0 : Sl} {far : Nat} (hf : far ≤ 300) {c : Cup} : ∀ (ds : List D) (cs : List Nat) (a3 : Sl), ∃ b3, forL (gN 3) (sAsg (gN 2) (eLc [4] (iR1 (e2 pAdd (eB 1) (eK (.int 1)))) (gN 4) (tT) (e1 pSum (eSl (eB 2) (some (e2 pMax2 (eK (.int 0)) (e2 pSub (eB 4) (eK (.int 25))))) (some (e2 pAdd (eB 4) (eK (.int 1)))))))) ds [x0, .sh (.int (far : Int)), .sh (.lst (N cs)), a3, .un] c = .ok (.nx, [x0, .sh (.int (far : Int)), .sh (.lst (N (dpL far ds.length cs))), b3, .un], c)
  | [], cs, a3 => ⟨a3, rfl⟩
  | d :: ds, cs, a3 => by
    obtain ⟨b3, ih⟩ := wi_loop (x0 := x0) hf (c := c) ds (dpS cs far) (.sh d)
    refine ⟨b3, ?_⟩
    have e0 : N (dpS cs far) = (List.range (far + 1)).map fun k => D.int (((((cs.drop (k - 25)).take (k + 1 - (k - 25))).sum : Nat)) : Int) := by
      rw [N, dpS, List.map_map]
      rfl
    apply v_forS rfl
    repeat infer_instance
    · exact okI_of (by omega)
    · rw [show ((far : Int) + 1).toNat = far + 1 by omega, ints_Nr]
      exact (lc_each (m := fun k : Nat => .int (k : Int)) (f := fun k : Nat => .int (((((cs.drop (k - 25)).take (k + 1 - (k - 25))).sum : Nat)) : Int)) (l := List.range (far + 1)) fun k _ => ⟨_, rfl, by
        have hmax : pMax2 (.int 0) (.int ((k : Int) - 25)) = some (.int ((k - 25 : Nat) : Int)) := by
          have e : pMax2 (.int 0) (.int ((k : Int) - 25)) = some (.int (if (k : Int) - 25 > 0 then (k : Int) - 25 else 0)) := rfl
          rw [e]
          congr 2
          split <;> omega
        repeat infer_instance
        · exact hmax
        repeat infer_instance
        · rw [show (k : Int) + 1 = ((k + 1 : Nat) : Int) by omega]
          exact sl_ab
        · exact sum_N _⟩).trans (show _ = R.ok (N (dpS cs far), c) by rw [e0])
    · rw [N_len]; unfold dpS; rw [List.length_map, List.length_range]; exact len4 (by omega)
    repeat infer_instance
    exact ih
theorem fits_N {v lo hi : Nat} {c : Cup} (h1 : lo ≤ v) (h2 : v ≤ hi) : m_fits_whole [.int (v : Int), .int (lo : Int), .int (hi : Int)] c = .ok (.bl true, c) := by
  have hw : m_is_whole [.int (v : Int)] c = .ok (.bl true, c) := by
    unfold m_is_whole
    apply w_fun rfl
    · repeat infer_instance
    · rfl
  unfold m_fits_whole
  apply w_fun rfl
  · repeat infer_instance
    · exact hw
    repeat infer_instance
    · refine br_dt (by omega) ?_
      repeat infer_instance
  · rw [decide_eq_true (show (v : Int) ≤ (hi : Int) by omega)]
    rfl
theorem rep0 {n : Nat} (h : n ≤ 4000) : pMulA (.lst [.int 0]) (.int (n : Int)) = some (.lst (N (List.replicate n 0))) := by
  have e0 : pMulA (.lst [.int 0]) (.int (n : Int)) = if (small (n : Int) && decide ((n : Int) < 2 ^ 32) && decide (-(2 ^ 32) < (n : Int)) && decide (1 * (n : Int).toNat ≤ line)) = true then some (.lst (List.replicate (n : Int).toNat [.int 0]).flatten) else none := rfl
  have e1' : ∀ n : Nat, (List.replicate n [D.int 0]).flatten = N (List.replicate n 0) := fun n => by
    induction n with
    | zero => rfl
    | succ n ih => rw [List.replicate_succ, List.replicate_succ, List.flatten_cons, ih]; rfl
  rw [e0, if_pos, Int.toNat_natCast, e1']
  simp only [Bool.and_eq_true, decide_eq_true_eq]
  refine ⟨⟨⟨small_of (by omega), by omega⟩, by omega⟩, ?_⟩
  rw [Int.toNat_natCast]
  exact len4 (by omega)
theorem within_ok {n far : Nat} (h1 : 1 ≤ n) (h12 : n ≤ 12) (hf : far ≤ 300) {c : Cup} : m_within_many [.int (n : Int), .int (far : Int)] c = .ok (.int (((dpF far n).sum : Nat) : Int), c) := by
  obtain ⟨b3, e⟩ := wi_loop (x0 := .sh (.int (n : Int))) hf (c := c) (intsD 0 n) (dpF far 0) .un
  rw [intsD_length, dpL_eq, Nat.zero_add] at e
  unfold m_within_many
  apply w_fun rfl
  · repeat infer_instance
    · exact fits_N (lo := 1) (hi := 12) h1 h12
    repeat infer_instance
    · exact fits_N (lo := 0) (hi := 300) (Nat.zero_le _) hf
    repeat infer_instance
    · exact rep0 (by omega)
    · exact cat_lst (a := [.int 1]) (by rw [N_len, List.length_replicate, List.length_singleton]; omega)
    repeat infer_instance
    · exact okI_of (by omega)
    · rw [Int.toNat_natCast]
      exact e
    repeat infer_instance
    · exact sum_N _
  · rfl
/-! the ball by waves -/
def newF (met line : List T) : List T := (onceL (line.flatMap fun w => (nextsF w).filter fun v => !decide (v ∈ met)))
def ballF : Nat → List T → List T → List T
  | 0, met, _ => met
  | n + 1, met, line => ballF n (met ++ sortL (newF met line)) (sortL (newF met line))
def startW (n : Nat) : T := List.replicate n 97
def ballB (n far : Nat) : Bool := decide ((ballF far [startW n] [startW n]).length = (dpF far n).sum)
theorem ball_fin : ∀ n : Nat, n < 4 → 1 ≤ n → ∀ far : Nat, far < 6 → ballB n far = true := by decide +kernel
/-! waves of ways -/
def kvD (l : List (T × Nat)) : List (D × D) := l.map fun q => (.str q.1, .int (q.2 : Int))
theorem kvD_K {l : List (T × Nat)} (h : (keysF l).Nodup) : Ks (kvD l) (keysF l) := ⟨by unfold kvD keysF S; rw [List.map_map, List.map_map]; rfl, h⟩
theorem val_none {v : T} : ∀ {l : List (T × Nat)}, v ∉ keysF l → valF l v = 0
  | [], _ => rfl
  | p :: l, h => by
    show (if p.1 = v then p.2 else 0) + valF l v = 0
    rw [if_neg fun e => h (by rw [← e]; exact List.mem_cons_self ..), val_none fun m => h (List.mem_cons_of_mem _ m)]
theorem get_val {v : T} : ∀ {l : List (T × Nat)}, (keysF l).Nodup → (dget (kvD l) (.str v)).getD (.int 0) = .int ((valF l v : Nat) : Int)
  | [], _ => rfl
  | p :: l, h => by
    have h' := List.nodup_cons.mp (show (p.1 :: keysF l).Nodup from h)
    have e : dget (kvD (p :: l)) (.str v) = if p.1 = v then some (.int (p.2 : Int)) else dget (kvD l) (.str v) := dget_cons _ _ _ _
    have e2 : valF (p :: l) v = (if p.1 = v then p.2 else 0) + valF l v := rfl
    rw [e, e2]
    by_cases q : p.1 = v
    · rw [if_pos q, if_pos q, val_none (by rw [← q]; exact h'.1)]
      rfl
    · rw [if_neg q, if_neg q, get_val h'.2, Nat.zero_add]
theorem get_key {l : List (T × Nat)} (h : (keysF l).Nodup) {q : T × Nat} (hq : q ∈ l) : dget (kvD l) (.str q.1) = some (.int (q.2 : Int)) := by
  obtain ⟨v, hv⟩ := dget_has (kvD_K h).k (List.mem_map.mpr ⟨q, hq, rfl⟩)
  have e := get_val (v := q.1) h
  rw [hv, val_key h hq] at e
  have e : v = .int (q.2 : Int) := e
  rw [hv, e]
theorem put_val {k : T} {n : Nat} : ∀ {l : List (T × Nat)}, (keysF l).Nodup → dput (kvD l) (.str k) (.int ((valF l k + n : Nat) : Int)) = kvD (addP l k n) := fun {l} h => by
  have hk := (kvD_K h).k
  unfold dput
  rw [any_key k hk]
  by_cases m : k ∈ keysF l
  · rw [if_pos (decide_eq_true m)]
    have go : ∀ {l : List (T × Nat)}, (keysF l).Nodup → k ∈ keysF l → (kvD l).map (fun p => if eqB p.1 (.str k) = true then (p.1, D.int ((valF l k + n : Nat) : Int)) else p) = kvD (addP l k n) := fun {l} => by
      induction l with
      | nil => intro _ h; cases h
      | cons p l ih =>
        intro h m
        have h' := List.nodup_cons.mp (show (p.1 :: keysF l).Nodup from h)
        have e2 : valF (p :: l) k = (if p.1 = k then p.2 else 0) + valF l k := rfl
        show (if eqB (.str p.1) (.str k) = true then (D.str p.1, D.int ((valF (p :: l) k + n : Nat) : Int)) else (.str p.1, .int (p.2 : Int))) :: (kvD l).map _ = kvD (if p.1 = k then (p.1, p.2 + n) :: l else p :: addP l k n)
        rw [eqB_str, e2]
        by_cases q : p.1 = k
        · rw [if_pos (decide_eq_true q), if_pos q, if_pos q, val_none (by rw [← q]; exact h'.1), Nat.add_zero]
          have hid : (kvD l).map (fun p_1 : D × D => if eqB p_1.1 (.str k) = true then (p_1.1, D.int ((p.2 + n : Nat) : Int)) else p_1) = kvD l := by
            unfold kvD
            rw [List.map_map]
            apply List.map_congr_left
            intro r hr
            show (if eqB (.str r.1) (.str k) = true then (D.str r.1, D.int ((p.2 + n : Nat) : Int)) else (.str r.1, .int (r.2 : Int))) = _
            rw [eqB_str, if_neg]
            rw [decide_eq_true_eq]
            intro e
            exact h'.1 (by rw [q, ← e]; exact List.mem_map.mpr ⟨r, hr, rfl⟩)
          rw [hid]
          rfl
        · have mk : k ∈ keysF l := (List.mem_cons.mp m).elim (fun e => absurd e.symm q) id
          rw [if_neg (by rw [decide_eq_true_eq]; exact q), if_neg q, if_neg q, Nat.zero_add, ih h'.2 mk]
          rfl
    exact go h m
  · rw [if_neg (by rw [decide_eq_true_eq]; exact m), val_none m, Nat.zero_add]
    have go : ∀ {l : List (T × Nat)}, k ∉ keysF l → addP l k n = l ++ [(k, n)] := fun {l} => by
      induction l with
      | nil => intro _; rfl
      | cons p l ih =>
        intro h
        show (if p.1 = k then _ else p :: addP l k n) = _
        rw [if_neg fun e => h (by rw [← e]; exact List.mem_cons_self ..), ih fun m => h (List.mem_cons_of_mem _ m)]
        rfl
    rw [go m]
    unfold kvD
    rw [List.map_append]
    rfl
theorem nodup_sub : ∀ {a b : List (List Nat)}, a.Nodup → (∀ x ∈ a, x ∈ b) → a.length ≤ b.length
  | [], _, _, _ => Nat.zero_le _
  | x :: a, b, hn, h => by
    have hn' := List.nodup_cons.mp hn
    have hx := h x (List.mem_cons_self ..)
    have := nodup_sub (a := a) (b := b.erase x) hn'.2 fun y hy => (List.mem_erase_of_ne fun e => hn'.1 (by rw [← e]; exact hy)).mpr (h y (List.mem_cons_of_mem _ hy))
    have h2 := List.length_erase_of_mem hx
    have h3 := List.length_pos_of_mem hx
    rw [List.length_cons]
    omega
theorem btw_inj : ∀ {a v w b : T}, Btw a v b → Btw a w b → dvec a v = dvec a w → v = w
  | x :: a, v :: e, w :: f, y :: b, h1, h2, h => by
    have h : dx x v :: dvec a e = dx x w :: dvec a f := h
    injection h with h3 h4
    have g1 := h1.1.2
    have g2 := h2.1.2
    rw [btw_inj h1.2 h2.2 h4]
    have : hx v = hx w := by unfold dx at g1 g2 h3; omega
    rw [hx_inj h1.1.1 h2.1.1 this]
  | [], [], [], [], _, _, _ => rfl
/-- what the two words are -/
structure Two (one other : T) : Prop where
  o : InL one
  t : InL other
  l0 : 1 ≤ one.length
  l : one.length ≤ 3
  e : other.length = one.length
  d : ∀ d ∈ dvec one other, d ≤ 4
theorem btw_d : ∀ {a v b : T} {m : Nat}, Btw a v b → (∀ d ∈ dvec a b, d ≤ m) → ∀ d ∈ dvec a v, d ≤ m
  | x :: a, v :: e, y :: b, m, h, hd, d, hm => by
    have g := h.1.2
    rcases List.mem_cons.mp (show d ∈ dx x v :: dvec a e from hm) with q | q
    · have := hd (dx x y) (List.mem_cons_self ..)
      omega
    · exact btw_d h.2 (fun z hz => hd z (List.mem_cons_of_mem _ hz)) d q
  | [], [], [], _, _, _, d, hm => by cases hm
theorem dvec_l : ∀ {a v : T}, v.length = a.length → (dvec a v).length = a.length
  | [], [], _ => rfl
  | x :: a, y :: v, h => by
    show (dvec a v).length + 1 = a.length + 1
    rw [dvec_l (Nat.succ.inj h)]
  | [], _ :: _, h => by cases h
  | _ :: _, [], h => by cases h
theorem vecs_len : ∀ n : Nat, n < 4 → (vecs n).length ≤ 125 := by decide +kernel
theorem btw_few {one other : T} (h : Two one other) {l : List T} (hn : l.Nodup) (hb : ∀ v ∈ l, Btw one v other) : l.length ≤ 125 := by
  have hl := h.l
  have h1 : (l.map (dvec one)).Nodup := by
    rw [List.Nodup, List.pairwise_map]
    exact List.Pairwise.imp_of_mem (fun {a b} ha hb' q e => q (btw_inj (hb a ha) (hb b hb') e)) hn
  have h2 := nodup_sub h1 (b := vecs one.length) fun x hx' => by
    obtain ⟨v, hv, rfl⟩ := List.mem_map.mp hx'
    have := vecs_mem (btw_d (hb v hv) h.d)
    rwa [dvec_l (btw_len (hb v hv)).1] at this
  rw [List.length_map] at h2
  exact Nat.le_trans h2 (vecs_len one.length (by omega))
theorem lw6_loop {one other u : T} (h : Two one other) (hu : Btw one u other) {n : Nat} {cs : List (D × D)} (hcs : dget cs (.str u) = some (.int (n : Int))) {x0 x3 : Sl} {c : Cup} : ∀ (vs : List T) (acc : List (T × Nat)) (a6 : Sl), (∀ v ∈ vs, v ∈ nextsF u) → (keysF acc).Nodup → (∀ v ∈ keysF acc, Btw one v other) → ∃ b6, forL (gN 6) (sIf (tE (e2 pLt (eCall m_Lfar [eV 6, eV 1]) (eCall m_Lfar [eV 5, eV 1])))
    (sSet 4 (eV 6) (e2 pAdd (eM3 isDct pGet (eB 4) (eB 6) (eK (.int 0))) (e2 pIx (eB 2) (eB 5))))
    (sSkip)) (S vs) [x0, .sh (.str other), .sh (.dct cs), x3, .ow (.dct (kvD acc)), .sh (.str u), a6] c = .ok (.nx, [x0, .sh (.str other), .sh (.dct cs), x3, .ow (.dct (kvD (addAll acc n (vs.filter fun v => decide (farF v other < farF u other))))), .sh (.str u), b6], c)
  | [], acc, a6, _, _, _ => ⟨a6, rfl⟩
  | v :: vs, acc, a6, hv, hn, hb => by
    have hl := h.l
    have he := h.e
    have hul := (btw_len hu).1
    have hadj : Adj u v := (raw_adj (btw_in hu)).mp (sort_mem.mp (hv v (List.mem_cons_self ..)))
    have hvL := adj_in (btw_in hu) hadj
    have hvl := adj_len hadj
    by_cases q : farF v other < farF u other
    · have hbv := (step_on hu hadj q).1
      have hb' : ∀ w ∈ keysF (addP acc v n), Btw one w other := fun w hw => (addP_mem.mp hw).elim (hb w) fun e => e ▸ hbv
      obtain ⟨b6, ih⟩ := lw6_loop h hu hcs (x0 := x0) (x3 := x3) (c := c) vs (addP acc v n) (.sh (.str v)) (fun z hz => hv z (List.mem_cons_of_mem _ hz)) (addP_nodup hn) hb'
      refine ⟨b6, ?_⟩
      rw [List.filter_cons_of_pos (p := fun v => decide (farF v other < farF u other)) (decide_eq_true q)]
      have hfew := btw_few h hn hb
      show forL (gN 6) (sIf (tE (e2 pLt (eCall m_Lfar [eV 6, eV 1]) (eCall m_Lfar [eV 5, eV 1])))
    (sSet 4 (eV 6) (e2 pAdd (eM3 isDct pGet (eB 4) (eB 6) (eK (.int 0))) (e2 pIx (eB 2) (eB 5))))
    (sSkip)) (.str v :: S vs) _ c = _
      apply v_forS rfl
      repeat infer_instance
      · exact Lfar_ok hvL h.t (by omega) (by omega)
      repeat infer_instance
      · exact Lfar_ok (btw_in hu) h.t (by omega) (by omega)
      repeat infer_instance
      · refine br_dt (by omega) ?_
        repeat infer_instance
        · exact (get_dict _ _ _).trans (by rw [get_val hn])
        repeat infer_instance
        · exact ix_dict hcs
        repeat infer_instance
        · exact set_dict (kvD_K hn).k (by omega) _ _
      · rw [← Int.natCast_add, put_val hn]
        exact ih
    · obtain ⟨b6, ih⟩ := lw6_loop h hu hcs (x0 := x0) (x3 := x3) (c := c) vs acc (.sh (.str v)) (fun z hz => hv z (List.mem_cons_of_mem _ hz)) hn hb
      refine ⟨b6, ?_⟩
      rw [List.filter_cons_of_neg (by rw [decide_eq_true_eq]; exact q)]
      show forL (gN 6) (sIf (tE (e2 pLt (eCall m_Lfar [eV 6, eV 1]) (eCall m_Lfar [eV 5, eV 1])))
    (sSet 4 (eV 6) (e2 pAdd (eM3 isDct pGet (eB 4) (eB 6) (eK (.int 0))) (e2 pIx (eB 2) (eB 5))))
    (sSkip)) (.str v :: S vs) _ c = _
      apply v_forS rfl
      repeat infer_instance
      · exact Lfar_ok hvL h.t (by omega) (by omega)
      repeat infer_instance
      · exact Lfar_ok (btw_in hu) h.t (by omega) (by omega)
      repeat infer_instance
      · exact br_df (by omega) v_skip
      · exact ih
theorem lw5_loop {one other : T} (h : Two one other) {l0 : List (T × Nat)} (h0 : (keysF l0).Nodup) (hb0 : ∀ q ∈ l0, Btw one q.1 other) {x0 x3 : Sl} {c : Cup} : ∀ (rest acc : List (T × Nat)) (a5 a6 : Sl), (∀ q ∈ rest, q ∈ l0) → (keysF acc).Nodup → (∀ v ∈ keysF acc, Btw one v other) → ∃ b5 b6, forL (gN 5) (sFor (iE (eCall m_Lnexts [eV 5])) (gN 6)
    (sIf (tE (e2 pLt (eCall m_Lfar [eV 6, eV 1]) (eCall m_Lfar [eV 5, eV 1])))
    (sSet 4 (eV 6) (e2 pAdd (eM3 isDct pGet (eB 4) (eB 6) (eK (.int 0))) (e2 pIx (eB 2) (eB 5))))
    (sSkip))) (S (keysF rest)) [x0, .sh (.str other), .sh (.dct (kvD l0)), x3, .ow (.dct (kvD acc)), a5, a6] c = .ok (.nx, [x0, .sh (.str other), .sh (.dct (kvD l0)), x3, .ow (.dct (kvD (stepFrom other acc rest))), b5, b6], c)
  | [], acc, a5, a6, _, _, _ => ⟨a5, a6, rfl⟩
  | q :: rest, acc, a5, a6, hr, hn, hb => by
    have hq := hr q (List.mem_cons_self ..)
    have hu := hb0 q hq
    have hul := (btw_len hu).1
    have hl := h.l
    obtain ⟨r6, hi⟩ := lw6_loop h hu (get_key h0 hq) (x0 := x0) (x3 := x3) (c := c) (nextsF q.1) acc a6 (fun v hv => hv) hn hb
    have hb' : ∀ v ∈ keysF (addAll acc q.2 (closeF other q.1)), Btw one v other := fun v hv => by
      rcases addAll_mem.mp hv with m | m
      · exact hb v m
      · obtain ⟨c1, c2⟩ := (close_mem (btw_in hu)).mp m
        exact (step_on hu c1 c2).1
    obtain ⟨b5, b6, ih⟩ := lw5_loop h h0 hb0 (x0 := x0) (x3 := x3) (c := c) rest (addAll acc q.2 (closeF other q.1)) (.sh (.str q.1)) r6 (fun z hz => hr z (List.mem_cons_of_mem _ hz)) (addAll_nodup hn) hb'
    refine ⟨b5, b6, ?_⟩
    show forL (gN 5) (sFor (iE (eCall m_Lnexts [eV 5])) (gN 6)
    (sIf (tE (e2 pLt (eCall m_Lfar [eV 6, eV 1]) (eCall m_Lfar [eV 5, eV 1])))
    (sSet 4 (eV 6) (e2 pAdd (eM3 isDct pGet (eB 4) (eB 6) (eK (.int 0))) (e2 pIx (eB 2) (eB 5))))
    (sSkip))) (.str q.1 :: S (keysF rest)) _ c = _
    apply v_forS rfl
    repeat infer_instance
    · exact Lnexts_ok (btw_in hu) (by omega)
    repeat infer_instance
    · exact hi
    · exact ih
theorem Two.next {one other : T} (h : Two one other) {k : Nat} {l : List (T × Nat)} (hl : Lev one other k l) : Lev one other (k + 1) (stepFrom other [] l) := hl.next h.o h.l (fun v hv => btw_d hv h.d) fun v hv => by rw [dvec_l (btw_len hv).1]; exact h.l
theorem keysD (l : List (T × Nat)) : (kvD l).map (·.1) = S (keysF l) := by unfold kvD keysF S; rw [List.map_map, List.map_map]; rfl
theorem lw_while {one other : T} (h : Two one other) {c : Cup} : ∀ (j k fuel : Nat) (l : List (T × Nat)) (a4 a5 a6 : Sl), Lev one other k l → k + j = farF one other → j < fuel → ∃ l' b4 b5 b6, whL (tE (e2 pNotIn (eB 1) (eB 2))) (sSeq (sPar2 4 true (eDct0) 3 false (e2 pAdd (eB 3) (eK (.int 1))))
    (sSeq (sFor (iE (eV 2)) (gN 5)
    (sFor (iE (eCall m_Lnexts [eV 5])) (gN 6)
    (sIf (tE (e2 pLt (eCall m_Lfar [eV 6, eV 1]) (eCall m_Lfar [eV 5, eV 1])))
    (sSet 4 (eV 6) (e2 pAdd (eM3 isDct pGet (eB 4) (eB 6) (eK (.int 0))) (e2 pIx (eB 2) (eB 5))))
    (sSkip))))
    (sFrz [4] (sAsg (gN 2) (eV 4))))) fuel [.sh (.str one), .sh (.str other), .sh (.dct (kvD l)), .sh (.int (k : Int)), a4, a5, a6] c = .ok (.nx, [.sh (.str one), .sh (.str other), .sh (.dct (kvD l')), .sh (.int ((farF one other : Nat) : Int)), b4, b5, b6], c) ∧ Lev one other (farF one other) l'
  | j, k, 0, l, a4, a5, a6, _, _, hf => by omega
  | 0, k, fuel + 1, l, a4, a5, a6, hl, hk, _ => by
    have hD : k = farF one other := by omega
    subst hD
    have hin : other ∈ keysF l := (hl.m other).mpr ⟨btw_other h.t h.e, rfl⟩
    refine ⟨l, a4, a5, a6, ?_, hl⟩
    have t1 : (tE (e2 pNotIn (eB 1) (eB 2))) [.sh (.str one), .sh (.str other), .sh (.dct (kvD l)), .sh (.int ((farF one other : Nat) : Int)), a4, a5, a6] c = .ok (false, c) := by
      refine v_tE (v_2 (v_B rfl) (v_B rfl) (notIn_of' (in_K (kvD_K hl.n) other))) ?_
      rw [decide_eq_true hin]
      rfl
    unfold whL
    rw [t1]
    rfl
  | j + 1, k, fuel + 1, l, a4, a5, a6, hl, hk, hf => by
    have hnin : other ∉ keysF l := fun m => by
      have := ((hl.m other).mp m).2
      omega
    have hb0 : ∀ q ∈ l, Btw one q.1 other := fun q hq => ((hl.m q.1).mp (List.mem_map.mpr ⟨q, hq, rfl⟩)).1
    obtain ⟨r5, r6, hs⟩ := lw5_loop h hl.n hb0 (x0 := .sh (.str one)) (x3 := .sh (.int ((k : Int) + 1))) (c := c) l [] a5 a6 (fun q hq => hq) List.nodup_nil (fun v hv => by cases hv)
    obtain ⟨l', b4, b5, b6, e, hL⟩ := lw_while h (c := c) j (k + 1) fuel (stepFrom other [] l) (.sh (.dct (kvD (stepFrom other [] l)))) r5 r6 (h.next hl) (by omega) (by omega)
    refine ⟨l', b4, b5, b6, ?_, hL⟩
    have t1 : (tE (e2 pNotIn (eB 1) (eB 2))) [.sh (.str one), .sh (.str other), .sh (.dct (kvD l)), .sh (.int (k : Int)), a4, a5, a6] c = .ok (true, c) := by
      refine v_tE (v_2 (v_B rfl) (v_B rfl) (notIn_of' (in_K (kvD_K hl.n) other))) ?_
      rw [decide_eq_false hnin]
      rfl
    have t2 : (sSeq (sPar2 4 true (eDct0) 3 false (e2 pAdd (eB 3) (eK (.int 1))))
    (sSeq (sFor (iE (eV 2)) (gN 5)
    (sFor (iE (eCall m_Lnexts [eV 5])) (gN 6)
    (sIf (tE (e2 pLt (eCall m_Lfar [eV 6, eV 1]) (eCall m_Lfar [eV 5, eV 1])))
    (sSet 4 (eV 6) (e2 pAdd (eM3 isDct pGet (eB 4) (eB 6) (eK (.int 0))) (e2 pIx (eB 2) (eB 5))))
    (sSkip))))
    (sFrz [4] (sAsg (gN 2) (eV 4))))) [.sh (.str one), .sh (.str other), .sh (.dct (kvD l)), .sh (.int (k : Int)), a4, a5, a6] c = .ok (.nx, [.sh (.str one), .sh (.str other), .sh (.dct (kvD (stepFrom other [] l))), .sh (.int ((k : Int) + 1)), .sh (.dct (kvD (stepFrom other [] l))), r5, r6], c) := by
      repeat infer_instance
      · rw [keysD]
        exact hs
      repeat infer_instance
      rfl
    rw [show (k : Int) + 1 = ((k + 1 : Nat) : Int) by omega] at t2
    unfold whL
    rw [t1, R.bind_ok, if_pos rfl, t2]
    exact e
theorem lev_start {one other : T} (h : Two one other) : Lev one other 0 [(one, 1)] := by
  have hz : ∀ a b : T, a.length = b.length → InL a → InL b → farF a b = 0 → a = b := fun a => by
    induction a with
    | nil => intro b hl _ _ _; cases b with
      | nil => rfl
      | cons => cases hl
    | cons x a ih =>
      intro b hl ha hb hf
      cases b with
      | nil => cases hl
      | cons y b =>
        simp only [farF] at hf
        rw [ih b (Nat.succ.inj hl) (fun z hz => ha z (List.mem_cons_of_mem _ hz)) (fun z hz => hb z (List.mem_cons_of_mem _ hz)) (by omega)]
        have : hx x = hx y := by
          have : dx x y = 0 := by omega
          unfold dx at this
          omega
        rw [hx_inj (ha x (List.mem_cons_self ..)) (hb y (List.mem_cons_self ..)) this]
  refine ⟨by simp [keysF], fun v => ?_, fun q hq => ?_⟩
  · show v ∈ [one] ↔ _
    rw [List.mem_singleton]
    constructor
    · rintro rfl
      exact ⟨btw_self h.o h.e, far_self _⟩
    · rintro ⟨hb, hf⟩
      exact (hz one v (btw_len hb).1.symm h.o (btw_in hb) hf).symm
  · rw [List.mem_singleton.mp hq]
    show 1 = waysP (dvec one one)
    have : dvec one one = List.replicate one.length 0 := by
      have : ∀ a : T, dvec a a = List.replicate a.length 0 := fun a => by
        induction a with
        | nil => rfl
        | cons x a ih =>
          rw [dvec, ih, List.length_cons, List.replicate_succ]
          congr 1
          unfold dx
          omega
      exact this one
    rw [this, zero_fin one.length (by have := h.l; omega)]
theorem Lways_ok {one other : T} (h : Two one other) {c : Cup} : m_Lways [.str one, .str other] c = .ok (.tup [.int ((farF one other : Nat) : Int), .int ((waysP (dvec one other) : Nat) : Int)], c) := by
  have hfb : farF one other ≤ 12 := by
    rw [far_sum]
    have hl := dvec_l h.e
    have hl3 := h.l
    have : ∀ ds : List Nat, (∀ d ∈ ds, d ≤ 4) → ds.sum ≤ 4 * ds.length := fun ds => by
      induction ds with
      | nil => intro _; exact Nat.zero_le _
      | cons d ds ih =>
        intro hd
        have := hd d (List.mem_cons_self ..)
        have := ih fun z hz => hd z (List.mem_cons_of_mem _ hz)
        rw [List.sum_cons, List.length_cons]
        omega
    have := this _ h.d
    omega
  obtain ⟨l', b4, b5, b6, e, hL⟩ := lw_while h (c := c) (farF one other) 0 1000000 [(one, 1)] .un .un .un (lev_start h) (by omega) (by omega)
  obtain ⟨q, hq, hqe⟩ := List.mem_map.mp ((hL.m other).mpr ⟨btw_other h.t h.e, rfl⟩)
  have hg := get_key hL.n hq
  rw [hqe, hL.v q hq, hqe] at hg
  unfold m_Lways
  apply w_fun rfl
  · repeat infer_instance
    · exact e
    repeat infer_instance
    · exact ix_dict hg
    repeat infer_instance
  · rfl
end Mi.P
end

section
namespace Mi.P
local macro_rules | `(tactic| infer_instance) => `(tactic| first
  | with_reducible exact v_K
  | ((with_reducible apply v_V); rfl)
  | ((with_reducible apply v_B); rfl)
  | ((with_reducible apply v_O); rfl)
  | (with_reducible apply v_s0)
  | (with_reducible apply v_s1)
  | (with_reducible apply v_1)
  | (with_reducible apply v_2)
  | (with_reducible apply v_tup)
  | (with_reducible apply v_lst)
  | (with_reducible apply v_call)
  | (with_reducible apply v_M)
  | (with_reducible apply v_Lc)
  | (with_reducible apply v_iE)
  | (with_reducible apply v_R1)
  | (with_reducible apply v_R2)
  | (with_reducible apply w_R3)
  | (with_reducible apply v_tE)
  | (with_reducible apply v_tN)
  | (with_reducible apply w_if)
  | (with_reducible apply w_seq)
  | (with_reducible apply v_exp)
  | (with_reducible apply v_ret)
  | (with_reducible apply v_asg)
  | (with_reducible apply v_own)
  | (with_reducible apply v_for)
  | (with_reducible apply v_enum)
  | (with_reducible apply w_DV)
  | (with_reducible apply w_DI)
  | (with_reducible apply w_zip)
  | (with_reducible apply w_sl)
  | (with_reducible apply w_sl3)
  | (with_reducible apply w_oE)
  | (with_reducible apply w_and)
  | (with_reducible apply w_or)
  | (with_reducible apply w_tAnd)
  | (with_reducible apply w_tOr)
  | (with_reducible apply w_eIf)
  | (with_reducible apply w_chn)
  | (with_reducible apply w_chnT)
  | (with_reducible apply w_par)
  | (with_reducible apply w_par3)
  | (with_reducible apply w_kill)
  | (with_reducible apply w_disp1)
  | (with_reducible apply w_dc)
  | ((with_reducible apply w_rem); rfl)
  | ((with_reducible apply w_pop); rfl)
  | ((with_reducible apply w_upd); rfl)
  | (with_reducible apply w_M3)
  | (with_reducible apply br_t)
  | (with_reducible apply br_f)
  | (with_reducible apply br_nf)
  | (with_reducible apply br_nt)
  | (with_reducible apply nxt_n)
  | (with_reducible apply nxt_r)
  | (with_reducible apply v_frz)
  | ((with_reducible apply w_app); rfl)
  | ((with_reducible apply v_set); rfl)
  | ((with_reducible apply w_aug); rfl)
  | ((with_reducible apply w_ext); rfl)
  | with_reducible exact v_skip
  | with_reducible exact s_tT
  | with_reducible exact s_oE0
  | with_reducible exact s_eDct
  | with_reducible exact f_nil
  | with_reducible exact v_lc0
  | with_reducible exact tr_bl
  | with_reducible exact tr_int
  | with_reducible exact tr_non
  | with_reducible exact rv_tup
  | with_reducible exact dn_0
  | with_reducible exact de_0
  | with_reducible exact wk_lst
  | with_reducible exact wk_tup
  | with_reducible exact sq_lst
  | with_reducible exact sq_tup
  | with_reducible exact len_S
  | with_reducible exact len_tS
  | with_reducible exact len_ones
  | with_reducible exact len_tones
  | with_reducible exact len_map
  | with_reducible exact len_tmap
  | with_reducible exact ln_lst
  | with_reducible exact ln_tup
  | with_reducible exact ln_dct
  | with_reducible exact ad_int
  | with_reducible exact sb_int
  | with_reducible exact ng_int
  | with_reducible exact lt_int
  | with_reducible exact le_int
  | with_reducible exact gt_int
  | with_reducible exact ge_int
  | with_reducible exact lt_txt
  | with_reducible exact le_txt
  | with_reducible exact gt_txt
  | with_reducible exact nt_bl
  | with_reducible exact in_int
  | with_reducible exact st_str
  | with_reducible exact is_bl
  | with_reducible exact isnot_bl
  | with_reducible exact ix_0
  | with_reducible exact ix_1
  | with_reducible exact ck_str
  | with_reducible exact ck_lst
  | with_reducible exact key_str
  | with_reducible exact key_int
  | with_reducible exact wk_dct
  | with_reducible exact ck_dct
  | with_reducible exact g_N
  | with_reducible exact g_T2
  | with_reducible exact g_T3
  | with_reducible exact ii_int_non
  | with_reducible exact ii_int_bl
  | with_reducible exact ii_int_int
  | with_reducible exact ii_int_str
  | with_reducible exact ii_int_tup
  | with_reducible exact ii_int_lst
  | with_reducible exact ii_bool_non
  | with_reducible exact ii_bool_bl
  | with_reducible exact ii_bool_int
  | with_reducible exact ii_bool_str
  | with_reducible exact ii_bool_tup
  | with_reducible exact ii_bool_lst
  | with_reducible exact ii_str_non
  | with_reducible exact ii_str_bl
  | with_reducible exact ii_str_int
  | with_reducible exact ii_str_str
  | with_reducible exact ii_str_tup
  | with_reducible exact ii_str_lst
  | with_reducible exact ii_tuple_non
  | with_reducible exact ii_tuple_bl
  | with_reducible exact ii_tuple_int
  | with_reducible exact ii_tuple_str
  | with_reducible exact ii_tuple_tup
  | with_reducible exact ii_tuple_lst
  | with_reducible exact ii_list_non
  | with_reducible exact ii_list_bl
  | with_reducible exact ii_list_int
  | with_reducible exact ii_list_str
  | with_reducible exact ii_list_tup
  | with_reducible exact ii_list_lst
  | with_reducible exact ii_dict_non
  | with_reducible exact ii_dict_bl
  | with_reducible exact ii_dict_int
  | with_reducible exact ii_dict_str
  | with_reducible exact ii_dict_tup
  | with_reducible exact ii_dict_lst
  | with_reducible exact isn_non
  | with_reducible exact inn_non
  | with_reducible exact isn_bl
  | with_reducible exact inn_bl
  | with_reducible exact isn_int
  | with_reducible exact inn_int
  | with_reducible exact isn_str
  | with_reducible exact inn_str
  | with_reducible exact isn_tup
  | with_reducible exact inn_tup
  | with_reducible exact isn_lst
  | with_reducible exact inn_lst
  | with_reducible exact isn_dct
  | with_reducible exact inn_dct
  | (with_reducible exact ok_rfl))


theorem even_word_ok {ls : T} (h0 : ls ≠ []) (h1 : ls.length ≤ 30) {n : Nat} (hn : n ≤ 100) {c : Cup} (g : Good c) : ∃ s c', m_Leven_word [.cup, .int (n : Int), .lst (ones ls)] c = .ok (.str s, c') ∧ s.length = n ∧ (∀ x ∈ s, x ∈ ls) ∧ Good c' := by
  obtain ⟨qs, c2, e2', hl, hm, g2⟩ := draws_ok (xs := ones ls) (fun h => h0 (List.map_eq_nil_iff.mp h)) (by rw [ones_len]; exact Nat.lt_of_le_of_lt h1 (by decide)) (intsD 0 n) g
  obtain ⟨s, rfl, hs⟩ := ones_of hm
  rw [ones_len, intsD_length] at hl
  refine ⟨s, c2, ?_, hl, hs, g2⟩
  unfold m_Leven_word
  apply w_fun rfl
  · repeat infer_instance
    · exact okI_of (by omega)
    · rw [Int.toNat_natCast]
      exact e2' (fun d c => rfl)
    · exact ones_line (by omega)
    · exact join_on (by omega)
  · rfl
/-! the ball, walked -/
theorem b16_loop {U met : List T} (hU : U.length ≤ 1000) {kvs : List (D × D)} {ks : List T} (hK : Ks kvs ks) (hks : ∀ x, x ∈ ks ↔ x ∈ met) {c : Cup} {a0 a2 a3 a4 a5 a6 a7 a8 a9 a10 a12 a13 a15 a17 a18 a19 a20 : Sl} : ∀ (l : List T) (k14 : List (D × D)) (m14 : List T) (a16 : Sl), Ks k14 m14 → (∀ x ∈ m14, x ∈ U) → (∀ v ∈ l, v ∉ met → v ∈ U) → ∃ K2 m14' b16, forL (gN 16) (sIf (tE (e2 pNotIn (eB 16) (eB 11)))
    (sSet 14 (eV 16) (eK (.bl true)))
    (sSkip)) (S l) [a0, .sh .cup, a2, a3, a4, a5, a6, a7, a8, a9, a10, .ow (.dct kvs), a12, a13, .ow (.dct k14), a15, a16, a17, a18, a19, a20] c = .ok (.nx, [a0, .sh .cup, a2, a3, a4, a5, a6, a7, a8, a9, a10, .ow (.dct kvs), a12, a13, .ow (.dct K2), a15, b16, a17, a18, a19, a20], c) ∧ Ks K2 m14' ∧ (∀ x, x ∈ m14' ↔ x ∈ m14 ∨ (x ∈ l ∧ x ∉ met)) ∧ ∀ x ∈ m14', x ∈ U
  | [], k14, m14, a16, h, hu, _ => ⟨k14, m14, a16, rfl, h, fun x => ⟨.inl, fun q => q.elim id fun z => by cases z.1⟩, hu⟩
  | v :: l, k14, m14, a16, h, hu, hl => by
    have hnt : pNotIn (.str v) (.dct kvs) = some (.bl (!decide (v ∈ met))) := by
      rw [notIn_of' (in_K hK v)]
      congr 3
      exact decide_eq_decide.mpr (hks v)
    by_cases q : v ∈ met
    · obtain ⟨K2, M2, b16, e, q1, q2, q3⟩ := b16_loop hU hK hks (c := c) (a0 := a0) (a2 := a2) (a3 := a3) (a4 := a4) (a5 := a5) (a6 := a6) (a7 := a7) (a8 := a8) (a9 := a9) (a10 := a10) (a12 := a12) (a13 := a13) (a15 := a15) (a17 := a17) (a18 := a18) (a19 := a19) (a20 := a20) l k14 m14 (.sh (.str v)) h hu (fun z hz => hl z (List.mem_cons_of_mem _ hz))
      refine ⟨K2, M2, b16, ?_, q1, fun x => ?_, q3⟩
      · show forL (gN 16) (sIf (tE (e2 pNotIn (eB 16) (eB 11)))
    (sSet 14 (eV 16) (eK (.bl true)))
    (sSkip)) (.str v :: S l) _ c = _
        apply v_forS rfl
        repeat infer_instance
        · exact hnt
        · rw [decide_eq_true q]; exact tr_bl
        · exact br_f v_skip
        · exact e
      · rw [q2, List.mem_cons]
        constructor
        · rintro (h | ⟨h1, h2⟩)
          · exact .inl h
          · exact .inr ⟨.inr h1, h2⟩
        · rintro (h | ⟨h1 | h1, h2⟩)
          · exact .inl h
          · exact absurd (h1 ▸ q) h2
          · exact .inr ⟨h1, h2⟩
    · obtain ⟨k1, p1, p2, p3⟩ := h.put v (.bl true)
      have hm : m14.length ≤ 1000 := Nat.le_trans (nodup_sub h.n hu) hU
      obtain ⟨K2, M2, b16, e, q1, q2, q3⟩ := b16_loop hU hK hks (c := c) (a0 := a0) (a2 := a2) (a3 := a3) (a4 := a4) (a5 := a5) (a6 := a6) (a7 := a7) (a8 := a8) (a9 := a9) (a10 := a10) (a12 := a12) (a13 := a13) (a15 := a15) (a17 := a17) (a18 := a18) (a19 := a19) (a20 := a20) l (dput k14 (.str v) (.bl true)) k1 (.sh (.str v)) p1 (fun x hx => ((p2 x).mp hx).elim (fun e => e ▸ hl v (List.mem_cons_self ..) q) (hu x)) (fun z hz => hl z (List.mem_cons_of_mem _ hz))
      refine ⟨K2, M2, b16, ?_, q1, fun x => ?_, q3⟩
      · show forL (gN 16) (sIf (tE (e2 pNotIn (eB 16) (eB 11)))
    (sSet 14 (eV 16) (eK (.bl true)))
    (sSkip)) (.str v :: S l) _ c = _
        apply v_forS rfl
        repeat infer_instance
        · exact hnt
        · rw [decide_eq_false q]; exact tr_bl
        · refine br_t ?_
          repeat infer_instance
          exact set_dict h.k (by omega) _ _
        · exact e
      · rw [q2, p2, List.mem_cons]
        constructor
        · rintro ((h | h) | ⟨h1, h2⟩)
          · exact .inr ⟨.inl h, h ▸ q⟩
          · exact .inl h
          · exact .inr ⟨.inr h1, h2⟩
        · rintro (h | ⟨h1 | h1, h2⟩)
          · exact .inl (.inr h)
          · exact .inl (.inl h1)
          · exact .inr ⟨h1, h2⟩
theorem b15_loop {U met : List T} (hU : U.length ≤ 1000) {kvs : List (D × D)} {ks : List T} (hK : Ks kvs ks) (hks : ∀ x, x ∈ ks ↔ x ∈ met) {c : Cup} {a0 a2 a3 a4 a5 a6 a7 a8 a9 a10 a12 a13 a17 a18 a19 a20 : Sl} : ∀ (l : List T) (k14 : List (D × D)) (m14 : List T) (a15 a16 : Sl), Ks k14 m14 → (∀ x ∈ m14, x ∈ U) → (∀ w ∈ l, InL w ∧ w.length ≤ 12) → (∀ w ∈ l, ∀ v ∈ nextsF w, v ∉ met → v ∈ U) → ∃ K2 m14' b15 b16, forL (gN 15) (sFor (iE (eCall m_Lnexts [eV 15])) (gN 16)
    (sIf (tE (e2 pNotIn (eB 16) (eB 11)))
    (sSet 14 (eV 16) (eK (.bl true)))
    (sSkip))) (S l) [a0, .sh .cup, a2, a3, a4, a5, a6, a7, a8, a9, a10, .ow (.dct kvs), a12, a13, .ow (.dct k14), a15, a16, a17, a18, a19, a20] c = .ok (.nx, [a0, .sh .cup, a2, a3, a4, a5, a6, a7, a8, a9, a10, .ow (.dct kvs), a12, a13, .ow (.dct K2), b15, b16, a17, a18, a19, a20], c) ∧ Ks K2 m14' ∧ (∀ x, x ∈ m14' ↔ x ∈ m14 ∨ ((∃ w ∈ l, x ∈ nextsF w) ∧ x ∉ met)) ∧ ∀ x ∈ m14', x ∈ U
  | [], k14, m14, a15, a16, h, hu, _, _ => ⟨k14, m14, a15, a16, rfl, h, fun x => ⟨.inl, fun q => q.elim id fun z => by obtain ⟨⟨_, h, _⟩, _⟩ := z; cases h⟩, hu⟩
  | w :: l, k14, m14, a15, a16, h, hu, hw, hl => by
    obtain ⟨w1, w2⟩ := hw w (List.mem_cons_self ..)
    obtain ⟨K1, M1, r16, e1', p1, p2, p3⟩ := b16_loop hU hK hks (c := c) (a15 := .sh (.str w)) (a0 := a0) (a2 := a2) (a3 := a3) (a4 := a4) (a5 := a5) (a6 := a6) (a7 := a7) (a8 := a8) (a9 := a9) (a10 := a10) (a12 := a12) (a13 := a13) (a17 := a17) (a18 := a18) (a19 := a19) (a20 := a20) (nextsF w) k14 m14 a16 h hu (hl w (List.mem_cons_self ..))
    obtain ⟨K2, M2, b15, b16, e, q1, q2, q3⟩ := b15_loop hU hK hks (c := c) (a0 := a0) (a2 := a2) (a3 := a3) (a4 := a4) (a5 := a5) (a6 := a6) (a7 := a7) (a8 := a8) (a9 := a9) (a10 := a10) (a12 := a12) (a13 := a13) (a17 := a17) (a18 := a18) (a19 := a19) (a20 := a20) l K1 M1 (.sh (.str w)) r16 p1 p3 (fun z hz => hw z (List.mem_cons_of_mem _ hz)) (fun z hz => hl z (List.mem_cons_of_mem _ hz))
    refine ⟨K2, M2, b15, b16, ?_, q1, fun x => ?_, q3⟩
    · show forL (gN 15) (sFor (iE (eCall m_Lnexts [eV 15])) (gN 16)
    (sIf (tE (e2 pNotIn (eB 16) (eB 11)))
    (sSet 14 (eV 16) (eK (.bl true)))
    (sSkip))) (.str w :: S l) _ c = _
      apply v_forS rfl
      repeat infer_instance
      · exact Lnexts_ok w1 w2
      repeat infer_instance
      · exact e1'
      · exact e
    · rw [q2, p2]
      constructor
      · rintro ((h | ⟨h1, h2⟩) | ⟨⟨z, hz, h1⟩, h2⟩)
        · exact .inl h
        · exact .inr ⟨⟨w, List.mem_cons_self .., h1⟩, h2⟩
        · exact .inr ⟨⟨z, List.mem_cons_of_mem _ hz, h1⟩, h2⟩
      · rintro (h | ⟨⟨z, hz, h1⟩, h2⟩)
        · exact .inl (.inl h)
        · rcases List.mem_cons.mp hz with rfl | hz
          · exact .inl (.inr ⟨h1, h2⟩)
          · exact .inr ⟨⟨z, hz, h1⟩, h2⟩
theorem c16_loop {c : Cup} {a0 a2 a3 a4 a5 a6 a7 a8 a9 a10 a12 a13 a14 a15 a17 a18 a19 a20 : Sl} : ∀ (l : List T) (kvs : List (D × D)) (ks : List T) (a16 : Sl), Ks kvs ks → ks.length + l.length ≤ 4000 → ∃ K2 M2 b16, forL (gN 16) (sSet 11 (eV 16) (eK (.bl true))) (S l) [a0, .sh .cup, a2, a3, a4, a5, a6, a7, a8, a9, a10, .ow (.dct kvs), a12, a13, a14, a15, a16, a17, a18, a19, a20] c = .ok (.nx, [a0, .sh .cup, a2, a3, a4, a5, a6, a7, a8, a9, a10, .ow (.dct K2), a12, a13, a14, a15, b16, a17, a18, a19, a20], c) ∧ Ks K2 M2 ∧ (∀ x, x ∈ M2 ↔ x ∈ ks ∨ x ∈ l)
  | [], kvs, ks, a16, h, _ => ⟨kvs, ks, a16, rfl, h, fun x => ⟨.inl, fun q => q.elim id fun z => by cases z⟩⟩
  | s :: l, kvs, ks, a16, h, hl => by
    rw [List.length_cons] at hl
    obtain ⟨k1, p1, p2, p3⟩ := h.put s (.bl true)
    obtain ⟨K2, M2, b16, q0, q1, q2⟩ := c16_loop (c := c) (a0 := a0) (a2 := a2) (a3 := a3) (a4 := a4) (a5 := a5) (a6 := a6) (a7 := a7) (a8 := a8) (a9 := a9) (a10 := a10) (a12 := a12) (a13 := a13) (a14 := a14) (a15 := a15) (a17 := a17) (a18 := a18) (a19 := a19) (a20 := a20) l _ k1 (.sh (.str s)) p1 (by omega)
    refine ⟨K2, M2, b16, ?_, q1, fun x => ?_⟩
    · show forL (gN 16) (sSet 11 (eV 16) (eK (.bl true))) (.str s :: S l) _ c = _
      apply v_forS rfl
      repeat infer_instance
      · exact set_dict h.k (by omega) _ _
      exact q0
    · rw [q2, p2, List.mem_cons]
      constructor
      · rintro ((h | h) | h)
        · exact .inr (.inl h)
        · exact .inl h
        · exact .inr (.inr h)
      · rintro (h | h | h)
        · exact .inl (.inr h)
        · exact .inl (.inl h)
        · exact .inr h
def smallB : Nat → List T → List T → Bool
  | 0, met, _ => decide (met.length ≤ 1000)
  | n + 1, met, line => decide (met.length ≤ 1000) && (decide ((newF met line).length ≤ 1000) && smallB n (met ++ sortL (newF met line)) (sortL (newF met line)))
theorem small_fin : ∀ n : Nat, n < 4 → ∀ far : Nat, far < 6 → smallB far [startW n] [startW n] = true := by decide +kernel
theorem new_mem {met line : List T} {x : T} : x ∈ newF met line ↔ (∃ w ∈ line, x ∈ nextsF w) ∧ x ∉ met := by
  unfold newF
  rw [once_mem, List.mem_flatMap]
  constructor
  · rintro ⟨w, hw, hx'⟩
    obtain ⟨h1, h2⟩ := List.mem_filter.mp hx'
    exact ⟨⟨w, hw, h1⟩, by simpa using h2⟩
  · rintro ⟨⟨w, hw, h1⟩, h2⟩
    exact ⟨w, hw, List.mem_filter.mpr ⟨h1, by simpa using h2⟩⟩
theorem next_in {w v : T} (hw : InL w) (hv : v ∈ nextsF w) : InL v ∧ v.length = w.length := by
  have h := (raw_adj hw).mp (sort_mem.mp hv)
  exact ⟨adj_in hw h, adj_len h⟩
theorem ball_loop {c : Cup} {a0 a2 a3 a4 a5 a6 a7 a8 a9 a10 a17 a18 a19 a20 : Sl} : ∀ (ds : List D) (kvs : List (D × D)) (ks met line : List T) (a13 a14 a15 a16 : Sl), Ks kvs ks → (∀ x, x ∈ ks ↔ x ∈ met) → met.Nodup → (∀ w ∈ line, InL w ∧ w.length ≤ 12) → smallB ds.length met line = true → ∃ K2 M2 b12 b13 b14 b15 b16, forL (gN 13) (sSeq (sOwn 14 (eDct0))
    (sSeq (sFor (iE (eV 12)) (gN 15)
    (sFor (iE (eCall m_Lnexts [eV 15])) (gN 16)
    (sIf (tE (e2 pNotIn (eB 16) (eB 11)))
    (sSet 14 (eV 16) (eK (.bl true)))
    (sSkip))))
    (sSeq (sAsg (gN 12) (e1 pSorted (eB 14)))
    (sFor (iE (eV 12)) (gN 16)
    (sSet 11 (eV 16) (eK (.bl true))))))) ds [a0, .sh .cup, a2, a3, a4, a5, a6, a7, a8, a9, a10, .ow (.dct kvs), .sh (.lst (S line)), a13, a14, a15, a16, a17, a18, a19, a20] c = .ok (.nx, [a0, .sh .cup, a2, a3, a4, a5, a6, a7, a8, a9, a10, .ow (.dct K2), b12, b13, b14, b15, b16, a17, a18, a19, a20], c) ∧ Ks K2 M2 ∧ M2.length = (ballF ds.length met line).length
  | [], kvs, ks, met, line, a13, a14, a15, a16, hK, hks, hn, _, _ => ⟨kvs, ks, _, a13, a14, a15, a16, rfl, hK, ((List.perm_ext_iff_of_nodup hK.n hn).mpr hks).length_eq⟩
  | d :: ds, kvs, ks, met, line, a13, a14, a15, a16, hK, hks, hn, hw, hs => by
    have hs : (decide (met.length ≤ 1000) && (decide ((newF met line).length ≤ 1000) && smallB ds.length (met ++ sortL (newF met line)) (sortL (newF met line)))) = true := hs
    rw [Bool.and_eq_true, Bool.and_eq_true, decide_eq_true_eq, decide_eq_true_eq] at hs
    obtain ⟨hs1, hs2, hs3⟩ := hs
    obtain ⟨K1, M1, r15, r16, e1', p1, p2, p3⟩ := b15_loop (U := newF met line) hs2 hK hks (c := c) (a12 := .sh (.lst (S line))) (a13 := .sh d) (a0 := a0) (a2 := a2) (a3 := a3) (a4 := a4) (a5 := a5) (a6 := a6) (a7 := a7) (a8 := a8) (a9 := a9) (a10 := a10) (a17 := a17) (a18 := a18) (a19 := a19) (a20 := a20) line [] [] a15 a16 Ks.nil (fun x h => by cases h) hw (fun w hw' v hv hm => new_mem.mpr ⟨⟨w, hw', hv⟩, hm⟩)
    have hM : sortL M1 = sortL (newF met line) := rise_uniq (sort_rise p1.n) (sort_rise (once_nodup _)) fun x => by
      rw [sort_mem, sort_mem, p2, new_mem]
      exact ⟨fun h => h.elim (fun z => by cases z) id, .inr⟩
    have hM1 : M1.length ≤ 1000 := Nat.le_trans (nodup_sub p1.n p3) hs2
    have hkl : ks.length = met.length := ((List.perm_ext_iff_of_nodup hK.n hn).mpr hks).length_eq
    have hsl := sort_len (newF met line)
    obtain ⟨K3, M3, q16, e2', t1, t2⟩ := c16_loop (c := c) (a12 := .sh (.lst (S (sortL (newF met line))))) (a13 := .sh d) (a14 := .ow (.dct K1)) (a15 := r15) (a0 := a0) (a2 := a2) (a3 := a3) (a4 := a4) (a5 := a5) (a6 := a6) (a7 := a7) (a8 := a8) (a9 := a9) (a10 := a10) (a17 := a17) (a18 := a18) (a19 := a19) (a20 := a20) (sortL (newF met line)) kvs ks r16 hK (by omega)
    have hnew : ∀ x ∈ sortL (newF met line), x ∉ met := fun x hx' => (new_mem.mp (sort_mem.mp hx')).2
    have hn' : (met ++ sortL (newF met line)).Nodup := List.nodup_append.mpr ⟨hn, rise_nodup (sort_rise (once_nodup _)), fun a ha b hb e => hnew b hb (e ▸ ha)⟩
    obtain ⟨K2, M2, b12, b13, b14, b15, b16, e, u1, u2⟩ := ball_loop (c := c) (a0 := a0) (a2 := a2) (a3 := a3) (a4 := a4) (a5 := a5) (a6 := a6) (a7 := a7) (a8 := a8) (a9 := a9) (a10 := a10) (a17 := a17) (a18 := a18) (a19 := a19) (a20 := a20) ds K3 M3 (met ++ sortL (newF met line)) (sortL (newF met line)) (.sh d) (.ow (.dct K1)) r15 q16 t1 (fun x => by rw [t2, List.mem_append, hks]) hn' (fun w hw' => by
      obtain ⟨⟨z, hz, hv⟩, _⟩ := new_mem.mp (sort_mem.mp hw')
      obtain ⟨g1, g2⟩ := hw z hz
      obtain ⟨n1, n2⟩ := next_in g1 hv
      exact ⟨n1, by omega⟩) hs3
    refine ⟨K2, M2, b12, b13, b14, b15, b16, ?_, u1, u2⟩
    apply v_forS rfl
    repeat infer_instance
    · exact e1'
    repeat infer_instance
    · exact sorted_K p1 (by omega)
    repeat infer_instance
    · rw [hM]
      exact e2'
    · exact e
theorem rep_a : ∀ n : Nat, (List.replicate n [97]).flatten = List.replicate n 97
  | 0 => rfl
  | n + 1 => by rw [List.replicate_succ, List.flatten_cons, rep_a n]; rfl
theorem mul_a {n : Nat} (h : n ≤ 1000) : pMulA (.str [97]) (.int (n : Int)) = some (.str (startW n)) := by
  have e : pMulA (.str [97]) (.int (n : Int)) = if ([97] : T).length ≤ 1000 ∧ (n : Int) ≤ 1000 ∧ -1000 ≤ (n : Int) then some (.str (List.replicate (n : Int).toNat [97]).flatten) else none := rfl
  rw [e, if_pos ⟨show 1 ≤ 1000 by decide, by omega, by omega⟩, Int.toNat_natCast, rep_a]
  rfl
def body78 : SV := (sSeq (sPar2 3 false (e2 pAdd (eK (.int 1)) (eCall m_Lroll [eV 1, eK (.int 3)])) 4 false (eCall m_Lsome [eV 1, eLst [e1 pList (eK (.str [97, 98, 99, 100])), e1 pList (eK (.str [119, 120, 121, 122])), e1 pList (eK (.str [107, 108, 109, 110, 111]))]]))
    (sSeq (sPar2 5 false (eCall m_Leven_word [eV 1, eV 3, eV 4]) 6 false (eCall m_Leven_word [eV 1, eV 3, eV 4]))
    (sSeq (sAsg (gT [gN 7, gN 8]) (eCall m_Lways [eV 5, eV 6]))
    (sSeq (sIf (tNot (tE (eCall (m_Lsame 8) [eTup [eCall m_steps_between [eV 5, eV 6], eCall m_ways_many [eV 5, eV 6], eCall m_steps_between [eV 6, eV 5]], eTup [eV 7, eV 8, eV 7]])))
    (sRet (eK (.bl false)))
    (sSkip))
    (sSeq (sAsg (gN 9) (eCall m_Lword [eV 1, eK (.int 12), e1 pList (eK (.str [97, 98, 109, 121, 122]))]))
    (sSeq (sIf (tNot (tE (eCall (m_Lsame 8) [eTup [eCall m_heights_of [eV 9], eCall m_next_words [eV 9]], eTup [e1 pTuple (eCall m_Lheights [eV 9]), e1 pTuple (eCall m_Lnexts [eV 9])]])))
    (sRet (eK (.bl false)))
    (sSkip))
    (sSeq (sPar2 3 false (e2 pAdd (eK (.int 1)) (eCall m_Lroll [eV 1, eK (.int 3)])) 10 false (eCall m_Lroll [eV 1, eK (.int 6)]))
    (sSeq (sPar2 11 true (eDisp1 (e2 pMulA (eK (.str [97])) (eB 3)) (eK (.bl true))) 12 false (eLst [e2 pMulA (eK (.str [97])) (eB 3)]))
    (sSeq (sFor (iR1 (eB 10)) (gN 13)
    (sSeq (sOwn 14 (eDct0))
    (sSeq (sFor (iE (eV 12)) (gN 15)
    (sFor (iE (eCall m_Lnexts [eV 15])) (gN 16)
    (sIf (tE (e2 pNotIn (eB 16) (eB 11)))
    (sSet 14 (eV 16) (eK (.bl true)))
    (sSkip))))
    (sSeq (sAsg (gN 12) (e1 pSorted (eB 14)))
    (sFor (iE (eV 12)) (gN 16)
    (sSet 11 (eV 16) (eK (.bl true))))))))
    (sIf (tNot (tE (eCall (m_Lsame 8) [eCall m_within_many [eV 3, eV 10], e1 pLen (eB 11)])))
    (sRet (eK (.bl false)))
    (sSkip)))))))))))
def ret78 : SV := (sSeq (sAsg (gN 17) (e2 pMulA (eK (.str [97])) (eK (.int 12))))
    (sSeq (sAsg (gN 18) (eK (.int 1)))
    (sSeq (sFor (iR1 (eK (.int 12))) (gN 19)
    (sAsg (gN 18) (e2 pMul (eB 18) (eK (.int 26)))))
    (sSeq (sAsg (gN 20) (eTup [eCall m_steps_between [eV 17, e2 pMulA (eK (.str [122])) (eK (.int 12))], eCall m_within_many [eK (.int 12), eK (.int 300)], eCall m_within_many [eK (.int 12), eK (.int 299)], eCall m_within_many [eK (.int 12), eK (.int 1)], eCall m_ways_many [eK (.str [97]), eK (.str [122])]]))
    (sRet (eCall (m_Lsame 8) [eV 20, eTup [eK (.int 300), eV 18, e2 pSub (eB 18) (eK (.int 1)), eK (.int 13), eK (.int 1)]]))))))
theorem law_parts : b_law = sSeq (sFor (iR1 (eK (.int 6))) (gN 2) body78) ret78 := rfl
theorem ad_one {r : Int} {m : Nat} (h : 1 + r = (m : Int)) : pAdd (.int 1) (.int r) = some (.int (m : Int)) := by rw [ad_int, h]
local macro_rules | `(tactic| infer_instance) => `(tactic| ((with_reducible apply ad_one); with_reducible assumption))
def LSS : List T := [[97, 98, 99, 100], [119, 120, 121, 122], [107, 108, 109, 110, 111]]
theorem ls_of {d : D} (h : d ∈ [D.lst (ones [97, 98, 99, 100]), D.lst (ones [119, 120, 121, 122]), D.lst (ones [107, 108, 109, 110, 111])]) : ∃ ls, d = .lst (ones ls) ∧ ls ∈ LSS := by
  simp only [List.mem_cons, List.not_mem_nil, or_false] at h
  rcases h with rfl | rfl | rfl <;> exact ⟨_, rfl, by decide⟩
theorem ls_fin : ∀ ls ∈ LSS, (ls ≠ [] ∧ ls.length ≤ 30) ∧ (∀ x ∈ ls, x ∈ LETS) ∧ ∀ x ∈ ls, ∀ y ∈ ls, dx x y ≤ 4 := by decide +kernel
theorem dvec_near {ls : T} (h : ∀ x ∈ ls, ∀ y ∈ ls, dx x y ≤ 4) : ∀ a b : T, (∀ x ∈ a, x ∈ ls) → (∀ x ∈ b, x ∈ ls) → ∀ d ∈ dvec a b, d ≤ 4
  | [], b, _, _, d, hd => by cases b <;> cases hd
  | _ :: _, [], _, _, d, hd => by cases hd
  | x :: a, y :: b, ha, hb, d, hd => by
    rcases List.mem_cons.mp (show d ∈ dx x y :: dvec a b from hd) with q | q
    · rw [q]; exact h x (ha x (List.mem_cons_self ..)) y (hb y (List.mem_cons_self ..))
    · exact dvec_near h a b (fun z hz => ha z (List.mem_cons_of_mem _ hz)) (fun z hz => hb z (List.mem_cons_of_mem _ hz)) d q
theorem turn_ok {a0 a2 a3 a4 a5 a6 a7 a8 a9 a10 a11 a12 a13 a14 a15 a16 a17 a18 a19 a20  : Sl} {c : Cup} (g0 : Good c) : ∃ b2 b3 b4 b5 b6 b7 b8 b9 b10 b11 b12 b13 b14 b15 b16 b17 b18 b19 b20 c', body78 [a0, .sh .cup, a2, a3, a4, a5, a6, a7, a8, a9, a10, a11, a12, a13, a14, a15, a16, a17, a18, a19, a20] c = .ok (.nx, [a0, .sh .cup, b2, b3, b4, b5, b6, b7, b8, b9, b10, b11, b12, b13, b14, b15, b16, b17, b18, b19, b20], c') ∧ Good c' := by
  obtain ⟨r, c1, h1, r0, r1, g1⟩ := roll_ok g0 (many := 3) (by decide) (by decide)
  obtain ⟨n, hn⟩ : ∃ n : Nat, 1 + r = (n : Int) := ⟨(1 + r).toNat, by omega⟩
  obtain ⟨d, c2, h2, hd, g2⟩ := some_ok g1 (xs := [D.lst (ones [97, 98, 99, 100]), D.lst (ones [119, 120, 121, 122]), D.lst (ones [107, 108, 109, 110, 111])]) (fun h => by cases h) (by decide)
  obtain ⟨ls, rfl, hls⟩ := ls_of hd
  obtain ⟨⟨hl0, hl1⟩, hl2, hl3⟩ := ls_fin ls hls
  obtain ⟨one, c3, h3, o1, o2, g3⟩ := even_word_ok hl0 hl1 (n := n) (by omega) g2
  obtain ⟨oth, c4, h4, t1, t2, g4⟩ := even_word_ok hl0 hl1 (n := n) (by omega) g3
  have hone : Word one := ⟨by omega, by omega, fun x hx' => hl2 x (o2 x hx')⟩
  have hoth : Word oth := ⟨by omega, by omega, fun x hx' => hl2 x (t2 x hx')⟩
  have hT : Two one oth := ⟨hone.m, hoth.m, hone.l0, by omega, by omega, dvec_near hl3 one oth o2 t2⟩
  obtain ⟨w, c5, h5, w0, w1, wm, g5⟩ := word_ok g4 (size := 12) (by decide) (by decide) (l := [97, 98, 109, 121, 122]) (by decide) (by decide)
  have hab : ∀ x ∈ ([97, 98, 109, 121, 122] : T), x ∈ LETS := by decide
  have hw : Word w := ⟨w0, by omega, fun x hx' => hab x (wm x hx')⟩
  have hw12 := hw.l1
  have hrl := raw_len w
  have hnl : (nextsF w).length ≤ 24 := by unfold nextsF; rw [sort_len]; omega
  have hht : (htF w).length ≤ 12 := by unfold htF; rw [List.length_map]; omega
  obtain ⟨r', c6, h6, q0, q1, g6⟩ := roll_ok g5 (many := 3) (by decide) (by decide)
  obtain ⟨n', hn'⟩ : ∃ n' : Nat, 1 + r' = (n' : Int) := ⟨(1 + r').toNat, by omega⟩
  obtain ⟨r2, c7, h7, z0, z1, g7⟩ := roll_ok g6 (many := 6) (by decide) (by decide)
  obtain ⟨far, rfl⟩ : ∃ far : Nat, r2 = (far : Int) := ⟨r2.toNat, by omega⟩
  have hsm := small_fin n' (by omega) far (by omega)
  have hball := of_decide_eq_true (show ballB n' far = true from ball_fin n' (by omega) (by omega) far (by omega))
  have hst : InL (startW n') ∧ (startW n').length ≤ 12 := ⟨fun x hx' => by
    rw [(List.mem_replicate.mp hx').2]
    decide, by unfold startW; rw [List.length_replicate]; omega⟩
  obtain ⟨K2, M2, y12, y13, y14, y15, y16, hb1, hb2, hb3⟩ := ball_loop (c := c7) (a0 := a0) (a2 := a2) (a3 := .sh (.int (n' : Int))) (a4 := .sh (.lst (ones ls))) (a5 := .sh (.str one)) (a6 := .sh (.str oth)) (a7 := .sh (.int ((farF one oth : Nat) : Int))) (a8 := .sh (.int ((waysP (dvec one oth) : Nat) : Int))) (a9 := .sh (.str w)) (a10 := .sh (.int (far : Int))) (a17 := a17) (a18 := a18) (a19 := a19) (a20 := a20) (intsD 0 far) [(.str (startW n'), .bl true)] [startW n'] [startW n'] [startW n'] a13 a14 a15 a16 ⟨rfl, by simp⟩ (fun x => Iff.rfl) (by simp) (fun v hv => by rw [List.mem_singleton.mp hv]; exact hst) (by rw [intsD_length]; exact hsm)
  rw [intsD_length, hball] at hb3
  have hlen := hb2.len
  iterate 20 apply Exists.intro
  apply And.intro
  unfold body78
  repeat infer_instance
  · exact h1
  repeat infer_instance
  · exact lstS (s := [97, 98, 99, 100]) (by decide)
  repeat infer_instance
  · exact lstS (s := [119, 120, 121, 122]) (by decide)
  repeat infer_instance
  · exact lstS (s := [107, 108, 109, 110, 111]) (by decide)
  repeat infer_instance
  · exact h2
  repeat infer_instance
  · exact h3
  repeat infer_instance
  · exact h4
  repeat infer_instance
  · exact Lways_ok hT
  repeat infer_instance
  · exact steps_ok hone hoth (by omega)
  repeat infer_instance
  · exact ways_ok hone hoth (by omega)
  repeat infer_instance
  · exact steps_ok hoth hone (by omega)
  repeat infer_instance
  · rw [far_comm oth one]
    exact same_sim 7 (.tup [.int ((farF one oth : Nat) : Int), .int ((waysP (dvec one oth) : Nat) : Int), .int ((farF one oth : Nat) : Int)]) (sim3 sim_int sim_int sim_int)
  repeat infer_instance
  · exact lstS (s := [97, 98, 109, 121, 122]) (by decide)
  repeat infer_instance
  · exact h5
  repeat infer_instance
  · exact heights_of_ok hw
  repeat infer_instance
  · exact next_words_ok hw
  repeat infer_instance
  · exact Lheights_ok hw.m (by omega)
  · exact tup4 (by rw [N_len]; omega)
  repeat infer_instance
  · exact Lnexts_ok hw.m hw12
  · exact tuple_S (by omega)
  repeat infer_instance
  · exact same_sim 7 (.tup [.tup (N (htF w)), .tup (S (nextsF w))]) (sim2 (sim_tup (by rw [N_len]; omega) fun d hd => by
      obtain ⟨k, _, rfl⟩ := List.mem_map.mp hd
      exact sim_int) (sim_S (by omega)))
  repeat infer_instance
  · exact h6
  repeat infer_instance
  · exact h7
  repeat infer_instance
  · exact mul_a (by omega)
  repeat infer_instance
  · exact mul_a (by omega)
  repeat infer_instance
  · exact okI_of (by omega)
  · rw [Int.toNat_natCast]
    exact hb1
  repeat infer_instance
  · exact within_ok (by omega) (by omega) (by omega)
  repeat infer_instance
  · rw [hlen, hb3]
    exact same_int 7 _
  repeat infer_instance
  · exact g7
theorem turns_ok : ∀ (ds : List D) {a0 a2 a3 a4 a5 a6 a7 a8 a9 a10 a11 a12 a13 a14 a15 a16 a17 a18 a19 a20 : Sl} {c : Cup}, Good c → ∃ b2 b3 b4 b5 b6 b7 b8 b9 b10 b11 b12 b13 b14 b15 b16 b17 b18 b19 b20 c', forL (gN 2) body78 ds [a0, .sh .cup, a2, a3, a4, a5, a6, a7, a8, a9, a10, a11, a12, a13, a14, a15, a16, a17, a18, a19, a20] c = .ok (.nx, [a0, .sh .cup, b2, b3, b4, b5, b6, b7, b8, b9, b10, b11, b12, b13, b14, b15, b16, b17, b18, b19, b20], c') ∧ Good c'
  | [], a0, a2, a3, a4, a5, a6, a7, a8, a9, a10, a11, a12, a13, a14, a15, a16, a17, a18, a19, a20, c, g => ⟨a2, a3, a4, a5, a6, a7, a8, a9, a10, a11, a12, a13, a14, a15, a16, a17, a18, a19, a20, c, rfl, g⟩
  | d :: ds, a0, a2, a3, a4, a5, a6, a7, a8, a9, a10, a11, a12, a13, a14, a15, a16, a17, a18, a19, a20, c, g => by
    obtain ⟨b2, b3, b4, b5, b6, b7, b8, b9, b10, b11, b12, b13, b14, b15, b16, b17, b18, b19, b20, c1, e1', g1⟩ := turn_ok (a0 := a0) (a2 := .sh d) (a3 := a3) (a4 := a4) (a5 := a5) (a6 := a6) (a7 := a7) (a8 := a8) (a9 := a9) (a10 := a10) (a11 := a11) (a12 := a12) (a13 := a13) (a14 := a14) (a15 := a15) (a16 := a16) (a17 := a17) (a18 := a18) (a19 := a19) (a20 := a20) g
    obtain ⟨d2, d3, d4, d5, d6, d7, d8, d9, d10, d11, d12, d13, d14, d15, d16, d17, d18, d19, d20, c2, e2', g2⟩ := turns_ok ds (a0 := a0) (a2 := b2) (a3 := b3) (a4 := b4) (a5 := b5) (a6 := b6) (a7 := b7) (a8 := b8) (a9 := b9) (a10 := b10) (a11 := b11) (a12 := b12) (a13 := b13) (a14 := b14) (a15 := b15) (a16 := b16) (a17 := b17) (a18 := b18) (a19 := b19) (a20 := b20) g1
    exact ⟨d2, d3, d4, d5, d6, d7, d8, d9, d10, d11, d12, d13, d14, d15, d16, d17, d18, d19, d20, c2, v_forS rfl e1' e2', g2⟩
end Mi.P
end

section
namespace Mi.P
local macro_rules | `(tactic| infer_instance) => `(tactic| first
  | with_reducible exact v_K
  | ((with_reducible apply v_V); rfl)
  | ((with_reducible apply v_B); rfl)
  | ((with_reducible apply v_O); rfl)
  | (with_reducible apply v_s0)
  | (with_reducible apply v_s1)
  | (with_reducible apply v_1)
  | (with_reducible apply v_2)
  | (with_reducible apply v_tup)
  | (with_reducible apply v_lst)
  | (with_reducible apply v_call)
  | (with_reducible apply v_M)
  | (with_reducible apply v_Lc)
  | (with_reducible apply v_iE)
  | (with_reducible apply v_R1)
  | (with_reducible apply v_R2)
  | (with_reducible apply w_R3)
  | (with_reducible apply v_tE)
  | (with_reducible apply v_tN)
  | (with_reducible apply w_if)
  | (with_reducible apply w_seq)
  | (with_reducible apply v_exp)
  | (with_reducible apply v_ret)
  | (with_reducible apply v_asg)
  | (with_reducible apply v_own)
  | (with_reducible apply v_for)
  | (with_reducible apply v_enum)
  | (with_reducible apply w_DV)
  | (with_reducible apply w_DI)
  | (with_reducible apply w_zip)
  | (with_reducible apply w_sl)
  | (with_reducible apply w_sl3)
  | (with_reducible apply w_oE)
  | (with_reducible apply w_and)
  | (with_reducible apply w_or)
  | (with_reducible apply w_tAnd)
  | (with_reducible apply w_tOr)
  | (with_reducible apply w_eIf)
  | (with_reducible apply w_chn)
  | (with_reducible apply w_chnT)
  | (with_reducible apply w_par)
  | (with_reducible apply w_par3)
  | (with_reducible apply w_kill)
  | (with_reducible apply w_disp1)
  | (with_reducible apply w_dc)
  | ((with_reducible apply w_rem); rfl)
  | ((with_reducible apply w_pop); rfl)
  | ((with_reducible apply w_upd); rfl)
  | (with_reducible apply w_M3)
  | (with_reducible apply br_t)
  | (with_reducible apply br_f)
  | (with_reducible apply br_nf)
  | (with_reducible apply br_nt)
  | (with_reducible apply nxt_n)
  | (with_reducible apply nxt_r)
  | (with_reducible apply v_frz)
  | ((with_reducible apply w_app); rfl)
  | ((with_reducible apply v_set); rfl)
  | ((with_reducible apply w_aug); rfl)
  | ((with_reducible apply w_ext); rfl)
  | with_reducible exact v_skip
  | with_reducible exact s_tT
  | with_reducible exact s_oE0
  | with_reducible exact s_eDct
  | with_reducible exact f_nil
  | with_reducible exact v_lc0
  | with_reducible exact tr_bl
  | with_reducible exact tr_int
  | with_reducible exact tr_non
  | with_reducible exact rv_tup
  | with_reducible exact dn_0
  | with_reducible exact de_0
  | with_reducible exact wk_lst
  | with_reducible exact wk_tup
  | with_reducible exact sq_lst
  | with_reducible exact sq_tup
  | with_reducible exact len_S
  | with_reducible exact len_tS
  | with_reducible exact len_ones
  | with_reducible exact len_tones
  | with_reducible exact len_map
  | with_reducible exact len_tmap
  | with_reducible exact ln_lst
  | with_reducible exact ln_tup
  | with_reducible exact ln_dct
  | with_reducible exact ad_int
  | with_reducible exact sb_int
  | with_reducible exact ng_int
  | with_reducible exact lt_int
  | with_reducible exact le_int
  | with_reducible exact gt_int
  | with_reducible exact ge_int
  | with_reducible exact lt_txt
  | with_reducible exact le_txt
  | with_reducible exact gt_txt
  | with_reducible exact nt_bl
  | with_reducible exact in_int
  | with_reducible exact st_str
  | with_reducible exact is_bl
  | with_reducible exact isnot_bl
  | with_reducible exact ix_0
  | with_reducible exact ix_1
  | with_reducible exact ck_str
  | with_reducible exact ck_lst
  | with_reducible exact key_str
  | with_reducible exact key_int
  | with_reducible exact wk_dct
  | with_reducible exact ck_dct
  | with_reducible exact g_N
  | with_reducible exact g_T2
  | with_reducible exact g_T3
  | with_reducible exact ii_int_non
  | with_reducible exact ii_int_bl
  | with_reducible exact ii_int_int
  | with_reducible exact ii_int_str
  | with_reducible exact ii_int_tup
  | with_reducible exact ii_int_lst
  | with_reducible exact ii_bool_non
  | with_reducible exact ii_bool_bl
  | with_reducible exact ii_bool_int
  | with_reducible exact ii_bool_str
  | with_reducible exact ii_bool_tup
  | with_reducible exact ii_bool_lst
  | with_reducible exact ii_str_non
  | with_reducible exact ii_str_bl
  | with_reducible exact ii_str_int
  | with_reducible exact ii_str_str
  | with_reducible exact ii_str_tup
  | with_reducible exact ii_str_lst
  | with_reducible exact ii_tuple_non
  | with_reducible exact ii_tuple_bl
  | with_reducible exact ii_tuple_int
  | with_reducible exact ii_tuple_str
  | with_reducible exact ii_tuple_tup
  | with_reducible exact ii_tuple_lst
  | with_reducible exact ii_list_non
  | with_reducible exact ii_list_bl
  | with_reducible exact ii_list_int
  | with_reducible exact ii_list_str
  | with_reducible exact ii_list_tup
  | with_reducible exact ii_list_lst
  | with_reducible exact ii_dict_non
  | with_reducible exact ii_dict_bl
  | with_reducible exact ii_dict_int
  | with_reducible exact ii_dict_str
  | with_reducible exact ii_dict_tup
  | with_reducible exact ii_dict_lst
  | with_reducible exact isn_non
  | with_reducible exact inn_non
  | with_reducible exact isn_bl
  | with_reducible exact inn_bl
  | with_reducible exact isn_int
  | with_reducible exact inn_int
  | with_reducible exact isn_str
  | with_reducible exact inn_str
  | with_reducible exact isn_tup
  | with_reducible exact inn_tup
  | with_reducible exact isn_lst
  | with_reducible exact inn_lst
  | with_reducible exact isn_dct
  | with_reducible exact inn_dct
  | (with_reducible exact ok_rfl))


theorem fin_far : farF (startW 12) (List.replicate 12 122) = 300 := by decide +kernel
theorem fin_all : (dpF 300 12).sum = 26 ^ 12 := by decide +kernel
theorem fin_most : (dpF 299 12).sum = 26 ^ 12 - 1 := by decide +kernel
theorem fin_one : (dpF 1 12).sum = 13 := by decide +kernel
theorem fin_way : waysP (dvec [97] [122]) = 1 := by decide +kernel
theorem rep_z : ∀ n : Nat, (List.replicate n [122]).flatten = List.replicate n 122
  | 0 => rfl
  | n + 1 => by rw [List.replicate_succ, List.flatten_cons, rep_z n]; rfl
theorem mul_z : pMulA (.str [122]) (.int 12) = some (.str (List.replicate 12 122)) := by
  have e : pMulA (.str [122]) (.int 12) = if ([122] : T).length ≤ 1000 ∧ (12 : Int) ≤ 1000 ∧ -1000 ≤ (12 : Int) then some (.str (List.replicate (12 : Int).toNat [122]).flatten) else none := rfl
  rw [e, if_pos ⟨show 1 ≤ 1000 by decide, by decide, by decide⟩, rep_z]
  rfl
theorem pw_mul (k : Nat) : pMul (.int ((26 ^ k : Nat) : Int)) (.int 26) = some (.int ((26 ^ (k + 1) : Nat) : Int)) := by
  have e : pMul (.int ((26 ^ k : Nat) : Int)) (.int 26) = if small ((26 ^ k : Nat) : Int) || small 26 then some (.int (((26 ^ k : Nat) : Int) * 26)) else none := rfl
  rw [e, if_pos (by rw [show small 26 = true from rfl, Bool.or_true]), Nat.pow_succ, Int.natCast_mul]
  rfl
theorem pw_loop {a0 a2 a3 a4 a5 a6 a7 a8 a9 a10 a11 a12 a13 a14 a15 a16 a17 a20 : Sl} {c : Cup} : ∀ (ds : List D) (k : Nat) (a19 : Sl), ∃ b19, forL (gN 19) (sAsg (gN 18) (e2 pMul (eB 18) (eK (.int 26)))) ds [a0, .sh .cup, a2, a3, a4, a5, a6, a7, a8, a9, a10, a11, a12, a13, a14, a15, a16, a17, .sh (.int ((26 ^ k : Nat) : Int)), a19, a20] c = .ok (.nx, [a0, .sh .cup, a2, a3, a4, a5, a6, a7, a8, a9, a10, a11, a12, a13, a14, a15, a16, a17, .sh (.int ((26 ^ (k + ds.length) : Nat) : Int)), b19, a20], c)
  | [], k, a19 => ⟨a19, rfl⟩
  | d :: ds, k, a19 => by
    obtain ⟨b19, ih⟩ := pw_loop (c := c) (a0 := a0) (a2 := a2) (a3 := a3) (a4 := a4) (a5 := a5) (a6 := a6) (a7 := a7) (a8 := a8) (a9 := a9) (a10 := a10) (a11 := a11) (a12 := a12) (a13 := a13) (a14 := a14) (a15 := a15) (a16 := a16) (a17 := a17) (a20 := a20) ds (k + 1) (.sh d)
    refine ⟨b19, ?_⟩
    rw [show k + (d :: ds).length = k + 1 + ds.length by rw [List.length_cons]; omega]
    apply v_forS rfl
    repeat infer_instance
    · exact pw_mul k
    repeat infer_instance
    · exact ih
theorem ret_ok {a0 a2 a3 a4 a5 a6 a7 a8 a9 a10 a11 a12 a13 a14 a15 a16 a17 a18 a19 a20 : Sl} {c : Cup} : ∃ ρ, ret78 [a0, .sh .cup, a2, a3, a4, a5, a6, a7, a8, a9, a10, a11, a12, a13, a14, a15, a16, a17, a18, a19, a20] c = .ok (.rt (.bl true), ρ, c) := by
  have wa : Word (startW 12) := ⟨by unfold startW; rw [List.length_replicate]; decide, by unfold startW; rw [List.length_replicate]; decide, fun x hx => by
    rw [(List.mem_replicate.mp hx).2]
    decide⟩
  have wz : Word (List.replicate 12 122) := ⟨by rw [List.length_replicate]; decide, by rw [List.length_replicate]; decide, fun x hx => by
    rw [(List.mem_replicate.mp hx).2]
    decide⟩
  have w1 : Word [97] := ⟨Nat.le_refl 1, show 1 ≤ 12 by decide, by decide⟩
  have w2 : Word [122] := ⟨Nat.le_refl 1, show 1 ≤ 12 by decide, by decide⟩
  obtain ⟨b19, hp⟩ := pw_loop (c := c) (a0 := a0) (a2 := a2) (a3 := a3) (a4 := a4) (a5 := a5) (a6 := a6) (a7 := a7) (a8 := a8) (a9 := a9) (a10 := a10) (a11 := a11) (a12 := a12) (a13 := a13) (a14 := a14) (a15 := a15) (a16 := a16) (a20 := a20) (a17 := .sh (.str (startW 12))) (intsD 0 12) 0 a19
  rw [intsD_length, Nat.zero_add, show ((26 ^ 0 : Nat) : Int) = 1 from rfl] at hp
  have s1 := steps_ok wa wz (by unfold startW; rw [List.length_replicate, List.length_replicate]) (c := c)
  have s2 := within_ok (n := 12) (far := 300) (by decide) (by decide) (by decide) (c := c)
  have s3 := within_ok (n := 12) (far := 299) (by decide) (by decide) (by decide) (c := c)
  have s4 := within_ok (n := 12) (far := 1) (by decide) (by decide) (by decide) (c := c)
  have s5 := ways_ok w1 w2 rfl (c := c)
  rw [fin_far] at s1
  rw [fin_all] at s2
  rw [fin_most] at s3
  rw [fin_one] at s4
  rw [fin_way] at s5
  obtain ⟨big, hb, hb1⟩ : ∃ big : Nat, 26 ^ 12 = big ∧ 1 ≤ big := ⟨_, rfl, by decide⟩
  rw [hb] at hp s2 s3
  have hm1 : ((big - 1 : Nat) : Int) = (big : Int) - 1 := Int.ofNat_sub hb1
  apply Exists.intro
  unfold ret78
  repeat infer_instance
  · exact mul_a (n := 12) (by decide)
  repeat infer_instance
  · rfl
  · exact hp
  repeat infer_instance
  · exact mul_z
  repeat infer_instance
  · exact s1
  repeat infer_instance
  · exact s2
  repeat infer_instance
  · exact s3
  repeat infer_instance
  · exact s4
  repeat infer_instance
  · exact s5
  repeat infer_instance
  · rw [hm1]
    exact same_sim 7 (.tup [.int 300, .int (big : Int), .int ((big : Int) - 1), .int 13, .int 1]) (sim_tup (show 5 ≤ 4000 by decide) fun d hd => by
      simp only [List.mem_cons, List.not_mem_nil, or_false] at hd
      rcases hd with rfl | rfl | rfl | rfl | rfl <;> exact sim_int)
theorem law_all (ns : List Int) (hl : ns.length ≤ 63) : LawM ns := by
  obtain ⟨x, y, e, hx, hy, hy2⟩ := cup_ok hl
  obtain ⟨b2, b3, b4, b5, b6, b7, b8, b9, b10, b11, b12, b13, b14, b15, b16, b17, b18, b19, b20, c1, e1', g1⟩ := turns_ok (a0 := .sh (.scr ns)) (a2 := .un) (a3 := .un) (a4 := .un) (a5 := .un) (a6 := .un) (a7 := .un) (a8 := .un) (a9 := .un) (a10 := .un) (a11 := .un) (a12 := .un) (a13 := .un) (a14 := .un) (a15 := .un) (a16 := .un) (a17 := .un) (a18 := .un) (a19 := .un) (a20 := .un) (intsD 0 6) (c := some (x, y)) ⟨x, y, rfl, hx, hy, hy2⟩
  obtain ⟨ρ, e2'⟩ := ret_ok (a0 := .sh (.scr ns)) (a2 := b2) (a3 := b3) (a4 := b4) (a5 := b5) (a6 := b6) (a7 := b7) (a8 := b8) (a9 := b9) (a10 := b10) (a11 := b11) (a12 := b12) (a13 := b13) (a14 := b14) (a15 := b15) (a16 := b16) (a17 := b17) (a18 := b18) (a19 := b19) (a20 := b20) (c := c1)
  exact ⟨x, y, e, ρ, c1, (show sSeq (sFor (iR1 (eK (.int 6))) (gN 2) body78) ret78 _ _ = _ from v_seq (v_for (v_R1 v_K rfl) e1') e2')⟩
end Mi.P
end
open PySem PySem.W PySem.Calls PyProof.Rows
theorem PySem.Challenge.cw_lettergrounds_k78_whole_steps_along_the_holds : PySem.Challenge.rw_lettergrounds_k78_whole_steps_along_the.Holds := by
  w_on; o_law
  refine HandSHeadRun.head_any (r := OpenLaw.row PySem.Challenge.rw_lettergrounds_k78_whole_steps_along_the) (q := view (OpenLaw.row PySem.Challenge.rw_lettergrounds_k78_whole_steps_along_the).prog [33]) (H := Mi.hk) (ob := Mi.ob) (M := 6000) (loose := Mi.loose0 ++ Mi.loose1) (d := HandSHeadRun.topDef (OpenLaw.row PySem.Challenge.rw_lettergrounds_k78_whole_steps_along_the).prog 33) (kwd := []) Mi.ob_eq
    (by kernel_rfl) (fun s => by kernel_rfl) Mi.run (by kernel_rfl) (by kernel_rfl) (by kernel_rfl) (by rfl) (by first | assumption | decide +kernel) (by decide +kernel) ⟨rfl, rfl, rfl, rfl, rfl, by decide +kernel⟩ ?hw ?hc
  case hw => w_witness2
  case hc =>
    refine L2.walk_ofE (l := PySem.Challenge.rw_lettergrounds_k78_whole_steps_along_the) (n := 63) (k := 30) (x := "script") (CX := L2.CX0) rfl (by decide) (by kernel_rfl) ⟨rfl, by decide, by decide⟩ ?F (fun _ _ _ _ z => z)
    intro w mg fa h Y G hmg0
    obtain ⟨K, KX, c⟩ := Y
    have hmg : mg ("law" : PySem.Str) = some (.ref fa) := by
      have e : (HandSHeadRun.topDef (OpenLaw.row PySem.Challenge.rw_lettergrounds_k78_whole_steps_along_the).prog 33).name = ("law" : PySem.Str) := by kernel_rfl
      rw [← e]
      exact hmg0
    obtain ⟨fd, hb, hF⟩ := Mi.facts Mi.P.law_all (P := (PySem.Challenge.rw_lettergrounds_k78_whole_steps_along_the).prog) (w := w) KX G hmg c
    exact ⟨K, fd, Mi.spLaw K, KX, hb, fun H a ns hl _ hS => ⟨a, ns, rfl, hS, hl, fun _ => rfl⟩, hF⟩
