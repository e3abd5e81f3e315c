import PyProof.Rows.All
import Wide.All
import OpenK.AllK
import Wide.FinOn
import PySem.Challenge.RW_factorwebs_k75_parts_and_what_can_be_hel
import HandS.ForMost
import KE.SortData
import HandS.Lambda
import HandS.Zip
import KE.GoesZip
import KE.GoesMore
import HandS.Rev
import KE.GoesEnum
import HandS.Deep
import HandS.TupAny
import HandS.TupMul
import HandS.Style
import HandS.Conv
import KE.DataMinMax
import PyProof.SumAny
import HandS.Words
import HandS.Ends
import KE.SortKeyed
import HandS.SortKw
import HandS.ExcOwn
import HandS.Slots
import HandS.Head4
import HandS.EndTab
import KE.DatumOrd
import KE.DatumMore
import PyProof.ReprReads
import PyProof.FitsInt
set_option Elab.async false
set_option linter.all false
set_option autoImplicit false
/-! A small language of slots over PyData values, and what it computes. -/
namespace Ev
open PySem

abbrev D := PyData

mutual
/-- nothing in it can be changed -/
def imm : D → Bool
  | .none => true
  | .bool _ => true
  | .int _ => true
  | .str _ => true
  | .tuple xs => immAll xs
  | .list _ => false
  | .dict _ => false
def immAll : List D → Bool
  | [] => true
  | x :: xs => imm x && immAll xs
end

mutual
/-- plain data (no dict), nested at most so deep, texts that can be laid -/
def chk : Nat → D → Bool
  | _, .none => true
  | _, .bool _ => true
  | _, .int _ => true
  | _, .str x => PyData.canLay0 (.str x)
  | n, .tuple xs => match n with
    | 0 => false
    | n + 1 => chkAll n xs
  | n, .list xs => match n with
    | 0 => false
    | n + 1 => chkAll n xs
  | _, .dict _ => false
def chkAll : Nat → List D → Bool
  | _, [] => true
  | n, x :: xs => chk n x && chkAll n xs
end

/-- the strict primitives -/
inductive Pm where
  | add | sub | mul | fdiv | mod | neg
  | lt | le | gt | ge | eq | ne | isin | notin | isN | notN
  | idx | idxD | slLo | slHi | slLoHi | rev
  | len | sum | max2 | min2 | maxL | minL | abs | int | sorted | sortedR | tupleOf | listOf | repr
  | isInt | isBool | isStr | isTup | isList
  | lenSet | sortedSet | all | dictOf | listRg | tupRg | listRg2
  deriving DecidableEq

/-- what an iteration goes over -/
inductive Ik where
  | seq | rng1 | rng2 | enum | zip | rev
  deriving DecidableEq

/-- targets -/
inductive Tg where
  | nm (i : Nat)
  | tp (ts : List Nat)
  deriving DecidableEq

/-- what changes a list in place -/
inductive Mm where
  | append | extend | popLast | popAt | remove
  deriving DecidableEq

inductive Ex where
  | var (i : Nat)
  | cst (d : D)
  | prim (p : Pm) (es : List Ex)
  /-- displays -/
  | tup (es : List Ex)
  | lst (es : List Ex)
  | andE (a b : Ex)
  | orE (a b : Ex)
  | notE (a : Ex)
  | ite (c a b : Ex)
  | chain (p q : Pm) (a b c : Ex)
  | call (f : Nat) (es : List Ex)
  | comp (elt : Ex) (tg : Tg) (k : Ik) (its : List Ex) (ifs : List Ex) (own : List Nat)
  /-- sorted(x, key=lambda v: body); v at the slot -/
  | sortk (xs : List Ex) (rg : Bool) (v : Nat) (body : Ex)
  /-- x.m(args), x a slot -/
  | meth (m : Mm) (i : Nat) (es : List Ex)
  /-- x[k].m(e): k, e without effect -/
  | methAt (m : Mm) (i : Nat) (k : Ex) (es : List Ex)
  /-- p(x[k]), k without effect -/
  | lenAt (p : Pm) (i : Nat) (k : Ex)
  /-- a dict display with written text keys -/
  | dictS (ks : List Str) (es : List Ex)

inductive St where
  | asg (t : Tg) (e : Ex)
  /-- a, b = x, y -/
  | par (ts : List Nat) (es : List Ex)
  /-- x[k] = e -/
  | setAt (i : Nat) (k e : Ex)
  /-- x[k] += e : k, e without effect -/
  | augAt (i : Nat) (k e : Ex)
  /-- x += e -/
  | augL (i : Nat) (e : Ex)
  | ex (e : Ex)
  | ite (c : Ex) (a b : List St)
  | whl (c : Ex) (b : List St)
  | for (t : Tg) (k : Ik) (its : List Ex) (b : List St)
  | ret (e : Ex)
  | retN
  | brk
  | cont
  | pass
  | never

/-- a def: its parameters (which are stored to), how many slots, its body -/
structure Fn where
  re : List Bool
  ns : Nat
  body : List St


/-! ### values and frames -/
/-- own: nobody else has it; spn: nobody else has the list itself, its things others may have; frz: others may have it, it is read alone; lck: it is walked -/
inductive Fl where
  | own | spn | frz | lck
  deriving DecidableEq

structure Sl where
  d : D
  fl : Fl

abbrev En := List (Option Sl)

def getS (env : En) (i : Nat) : Option Sl := match env[i]? with
  | some (some s) => some s
  | _ => none

def putS (env : En) (i : Nat) (d : D) (f : Fl) : En := env.set i (some ⟨d, f⟩)

/-- an operand: a slot (that holds what can be changed), or a value on its own -/
inductive Od where
  | slot (i : Nat)
  | tmp (d : D) (own : Bool)

structure Rs where
  d : D
  own : Bool
  env : En

def big : Nat := 1000000

/-! ### the primitives -/
def guardO {α : Type} (b : Bool) (d : α) : Option α := if b then some d else none

def asB : D → Option Bool
  | .bool b => some b
  | _ => none
def asI : D → Option Int
  | .int i => some i
  | _ => none
def asL : D → Option (List D)
  | .list xs => some xs
  | _ => none
/-- a list's or a tuple's things -/
def seqOf : D → Option (List D)
  | .list xs => some xs
  | .tuple xs => some xs
  | _ => none

def pAdd : D → D → Option D
  | .int i, .int j => some (.int (i + j))
  | .list xs, .list ys => guardO (decide (xs.length + ys.length ≤ big)) (.list (xs ++ ys))
  | .tuple xs, .tuple ys => guardO (decide (xs.length + ys.length ≤ big)) (.tuple (xs ++ ys))
  | _, _ => none

def mulOk (i j : Int) : Bool := decide (i.natAbs < 2 ^ 60) || decide (j.natAbs < 2 ^ 60)

def repL (k : Int) (xs : List D) : List D := (List.replicate k.toNat xs).flatten

def pMul : D → D → Option D
  | .int i, .int j => guardO (mulOk i j) (.int (i * j))
  | .list xs, .int k => guardO (decide (xs.length * k.toNat ≤ big) && decide (k.natAbs ≤ big)) (.list (repL k xs))
  | .tuple xs, .int k => guardO (decide (xs.length ≤ 1000) && decide (-1000 ≤ k) && decide (k ≤ 1000)) (.tuple (repL k xs))
  | _, _ => none

/-- the place that an index tells -/
def atIx (n : Nat) (i : Int) : Option Nat := if 0 ≤ i then (if i.toNat < n then some i.toNat else none) else if 0 ≤ (n : Int) + i then some ((n : Int) + i).toNat else none

def pIdx : D → D → Option D
  | .list xs, .int i => (atIx xs.length i).bind fun k => xs[k]?
  | .tuple xs, .int i => (atIx xs.length i).bind fun k => xs[k]?
  | _, _ => none

/-- what a table of written texts holds -/
def valD (k : Str) : List (D × D) → Option D
  | [] => none
  | (.str x, v) :: r => if x = k then some v else valD k r
  | _ :: _ => none
def pIdxD : D → D → Option D
  | .dict kvs, .str k => valD k kvs
  | _, _ => none

/-- Python's place for a slice's end -/
def cutIx (n : Nat) (i : Int) : Nat := if 0 ≤ i then min i.toNat n else ((n : Int) + i).toNat

def cutL (xs : List D) (lo hi : Option Int) : List D :=
  let a := match lo with | some i => cutIx xs.length i | none => 0
  let b := match hi with | some i => cutIx xs.length i | none => xs.length
  (xs.drop a).take (b - a)

def pSlice (d : D) (lo hi : Option Int) : Option D :=
  match d with
  | .list xs => some (.list (cutL xs lo hi))
  | .tuple xs => some (.tuple (cutL xs lo hi))
  | _ => none

def intsOf : List D → Option (List Int)
  | [] => some []
  | .int i :: r => (intsOf r).map (i :: ·)
  | _ :: _ => none

def maxI : Int → List Int → Int
  | m, [] => m
  | m, x :: xs => maxI (if x > m then x else m) xs
def minI : Int → List Int → Int
  | m, [] => m
  | m, x :: xs => minI (if x < m then x else m) xs

def boolsOf : List D → Option (List Bool)
  | [] => some []
  | .bool b :: r => (boolsOf r).map (b :: ·)
  | _ :: _ => none

def isTup1 : D → Bool
  | .tuple (_ :: _) => true
  | _ => false
def isTup : D → Bool
  | .tuple _ => true
  | _ => false
def isNone : D → Bool
  | .none => true
  | _ => false

/-- can be sorted: all alike, tuples that aren't empty, or numbers, texts, truth values, lists -/
def sortOk (xs : List D) : Bool :=
  (xs.all fun x => xs.all fun y => PySem.W.alike x y) && chkAll 20 xs && decide (xs.length ≤ big) &&
  (xs.all isTup1 || xs.all fun x => !isTup x && !isNone x)

/-- in rising or falling order, equal ones as they stood -/
def sortD (rev : Bool) (xs : List D) : List D := xs.mergeSort (PySem.W.dataLe rev id)

def pRepr (d : D) : Option D := guardO (chk 20 d && PyData.showable d && decide ((PyData.shown d).length ≤ big)) (.str (PyData.shown d))

def pEq (x y : D) : Option Bool := guardO (chk 20 x && chk 20 y) (PyData.eqv x y)

def pIn (x y : D) : Option Bool := (seqOf y).bind fun ys => guardO (chk 20 x && chkAll 20 ys) (ys.any fun z => PyData.eqv z x)

def cmpI (f : Int → Int → Bool) (a b : D) : Option D := (asI a).bind fun i => (asI b).map fun j => .bool (f i j)

def rangeD (a b : Int) : List D := (List.range (b - a).toNat).map fun i => .int (a + (i : Nat))

def rgOk (a b : Int) : Bool := decide (a.natAbs ≤ big) && decide (b.natAbs ≤ big)

/-- each thing once, as met first -/
def onceD : List D → List D → List D
  | acc, [] => acc
  | acc, x :: xs => if acc.any fun z => PyData.eqv z x then onceD acc xs else onceD (acc ++ [x]) xs

/-- things that a set takes: numbers, or tuples of them -/
def hashOk : D → Bool
  | .int _ => true
  | .tuple xs => xs.all fun x => match x with | .int _ => true | _ => false
  | _ => false

def pm1 : Pm → D → Option D
  | .neg, a => (asI a).map fun i => .int (-i)
  | .isN, a => some (.bool (isNone a))
  | .notN, a => some (.bool (!isNone a))
  | .rev, .list xs => some (.list xs.reverse)
  | .len, .list xs => some (.int xs.length)
  | .len, .tuple xs => some (.int xs.length)
  | .sum, a => (seqOf a).bind fun xs => (intsOf xs).map fun ns => .int ns.sum
  | .maxL, a => (seqOf a).bind fun xs => (intsOf xs).bind fun ns => match ns with
    | n :: r => some (.int (maxI n r))
    | [] => none
  | .minL, a => (seqOf a).bind fun xs => (intsOf xs).bind fun ns => match ns with
    | n :: r => some (.int (minI n r))
    | [] => none
  | .abs, a => (asI a).map fun i => .int (if i < 0 then -i else i)
  | .int, .int i => some (.int i)
  | .int, .bool b => some (.int (if b then 1 else 0))
  | .sorted, a => (seqOf a).bind fun xs => guardO (sortOk xs) (.list (sortD false xs))
  | .sortedR, a => (seqOf a).bind fun xs => guardO (sortOk xs) (.list (sortD true xs))
  | .tupleOf, a => (seqOf a).map .tuple
  | .listOf, .list xs => some (.list xs)
  | .listOf, .tuple xs => some (.list xs)
  | .repr, a => pRepr a
  | .isInt, a => some (.bool (match a with | .int _ => true | .bool _ => true | _ => false))
  | .isBool, a => some (.bool (match a with | .bool _ => true | _ => false))
  | .isStr, a => some (.bool (match a with | .str _ => true | _ => false))
  | .isTup, a => some (.bool (isTup a))
  | .isList, a => some (.bool (match a with | .list _ => true | _ => false))
  | .lenSet, a => (seqOf a).bind fun xs => guardO (xs.all hashOk && decide (xs.length ≤ 4000)) (.int (onceD [] xs).length)
  | .sortedSet, a => (seqOf a).bind fun xs => guardO (xs.all hashOk && decide (xs.length ≤ 4000) && sortOk xs) (.list (sortD false (onceD [] xs)))
  | .all, a => (asL a).bind fun xs => (boolsOf xs).map fun bs => .bool (bs.all id)
  | .listRg, a => (asI a).bind fun n => guardO (rgOk 0 n) (.list (rangeD 0 n))
  | .tupRg, a => (asI a).bind fun n => guardO (rgOk 0 n) (.tuple (rangeD 0 n))
  | _, _ => none

def pm2 : Pm → D → D → Option D
  | .add, a, b => pAdd a b
  | .sub, a, b => (asI a).bind fun i => (asI b).map fun j => .int (i - j)
  | .mul, a, b => pMul a b
  | .fdiv, a, b => (asI a).bind fun i => (asI b).bind fun j => guardO (decide (0 < j) && decide (j < 1073741824)) (.int (i / j))
  | .mod, a, b => (asI a).bind fun i => (asI b).bind fun j => guardO (decide (0 < j)) (.int (i % j))
  | .lt, a, b => cmpI (fun i j => decide (i < j)) a b
  | .le, a, b => cmpI (fun i j => decide (i ≤ j)) a b
  | .gt, a, b => cmpI (fun i j => decide (j < i)) a b
  | .ge, a, b => cmpI (fun i j => decide (j ≤ i)) a b
  | .eq, a, b => (pEq a b).map .bool
  | .ne, a, b => (pEq a b).map fun k => .bool (!k)
  | .isin, a, b => (pIn a b).map .bool
  | .notin, a, b => (pIn a b).map fun k => .bool (!k)
  | .idx, a, b => pIdx a b
  | .idxD, a, b => pIdxD a b
  | .slLo, a, b => (asI b).bind fun i => pSlice a (some i) none
  | .slHi, a, b => (asI b).bind fun i => pSlice a none (some i)
  | .max2, a, b => (asI a).bind fun i => (asI b).map fun j => .int (if j > i then j else i)
  | .min2, a, b => (asI a).bind fun i => (asI b).map fun j => .int (if j < i then j else i)
  | .listRg2, a, b => (asI a).bind fun i => (asI b).bind fun j => guardO (rgOk i j) (.list (rangeD i j))
  | _, _, _ => none

def pm : Pm → List D → Option D
  | p, [a] => pm1 p a
  | p, [a, b] => pm2 p a b
  | .slLoHi, [a, b, c] => (asI b).bind fun i => (asI c).bind fun j => pSlice a (some i) (some j)
  | _, _ => none

/-- the primitives whose result, a list of things that can't change, is new -/
def newP : Pm → Bool
  | .add => true
  | .mul => true
  | .slLo => true
  | .slHi => true
  | .slLoHi => true
  | .rev => true
  | .sorted => true
  | .sortedR => true
  | .listOf => true
  | .sortedSet => true
  | .dictOf => true
  | .listRg => true
  | .listRg2 => true
  | _ => false

/-- a list of things that can't change -/
def flat : D → Bool
  | .list xs => immAll xs
  | _ => false

def fetch (env : En) : Od → Option D
  | .slot i => (getS env i).map (·.d)
  | .tmp d _ => some d

def fetchAll (env : En) : List Od → Option (List D)
  | [] => some []
  | o :: os => (fetch env o).bind fun d => (fetchAll env os).map fun ds => d :: ds

/-- a slot itself may live on in a result: it is no longer its own -/
def freeze1 (env : En) (i : Nat) : Option En := (getS env i).bind fun s => match s.fl with
  | .own => some (putS env i s.d .frz)
  | .spn => some (putS env i s.d .frz)
  | .frz => some env
  | .lck => none
def freezeAll (env : En) : List Od → Option En
  | [] => some env
  | .slot i :: os => (freeze1 env i).bind fun e => freezeAll e os
  | .tmp _ _ :: os => freezeAll env os
/-- a slot's things may live on in a result -/
def thaw1 (env : En) (i : Nat) : Option En := (getS env i).map fun s => match s.fl with
  | .own => putS env i s.d (if (asL s.d).isSome then .spn else .frz)
  | _ => env
def thawAll (env : En) : List Od → Option En
  | [] => some env
  | .slot i :: os => (thaw1 env i).bind fun e => thawAll e os
  | .tmp _ _ :: os => thawAll env os

/-- a primitive's result as a value -/
def finish (p : Pm) (os : List Od) (env : En) (r : D) : Option Rs :=
  if imm r || newP p && flat r then some ⟨r, true, env⟩ else (thawAll env os).map fun e => ⟨r, false, e⟩

/-- a slot read as a value -/
def readV (env : En) (i : Nat) : Option Rs := (getS env i).bind fun s =>
  if imm s.d then some ⟨s.d, true, env⟩ else (freeze1 env i).map fun e => ⟨s.d, false, e⟩

/-- things gathered into a new one; whether each is its own -/
def odOwn (env : En) : Od → Option Rs
  | .slot i => readV env i
  | .tmp d o => some ⟨d, o, env⟩
def gather (env : En) : List Od → Option (List (D × Bool) × En)
  | [] => some ([], env)
  | o :: os => (odOwn env o).bind fun r => (gather r.env os).map fun q => ((r.d, r.own) :: q.1, q.2)
def allOwn (rs : List (D × Bool)) : Bool := rs.all fun r => imm r.1 || r.2
def things (rs : List (D × Bool)) : List D := rs.map (·.1)

/-- the functions by number: arguments, the result, whether it is new, the parameters in the end -/
abbrev FS := Nat → List Sl → Option (D × Bool × List Sl)

def argOf (env : En) : Od → Option Sl
  | .slot i => (getS env i).bind fun s => if s.fl = .lck then none else some s
  | .tmp d o => some ⟨d, if imm d || o then .own else .frz⟩
def argsOf (env : En) : List Od → Option (List Sl)
  | [] => some []
  | o :: os => (argOf env o).bind fun a => (argsOf env os).map fun r => a :: r

/-- the slots among the operands -/
def slotsIn : List Od → List Nat
  | [] => []
  | .slot i :: os => i :: slotsIn os
  | .tmp _ _ :: os => slotsIn os

/-- what the lent slots hold behind a call; keep: the result holds nothing of them -/
def backTo (keep : Bool) (env : En) : List Od → List Sl → Option En
  | [], [] => some env
  | .slot i :: os, t :: ts => (getS env i).bind fun s => backTo keep (if s.fl = .frz then env else putS env i t.d (if keep then t.fl else .frz)) os ts
  | .tmp _ _ :: os, _ :: ts => backTo keep env os ts
  | _, _ => none

def doCall (C : FS) (f : Nat) (os : List Od) (env : En) : Option Rs :=
  (argsOf env os).bind fun as => if (slotsIn os).Nodup then
    (C f as).bind fun q => (backTo (imm q.1 || q.2.1) env os q.2.2).map fun e => ⟨q.1, imm q.1 || q.2.1, e⟩
  else none

/-! ### changes in place -/
/-- (the result, the list behind it) -/
def change (m : Mm) (xs : List D) (as : List D) : Option (D × List D) := match m, as with
  | .append, [a] => guardO (decide (xs.length < big)) (.none, xs ++ [a])
  | .extend, [a] => (asL a).bind fun ys => guardO (decide (xs.length + ys.length ≤ big)) (.none, xs ++ ys)
  | .popLast, [] => xs.getLast?.map fun z => (z, xs.dropLast)
  | .popAt, [a] => (asI a).bind fun k => if 0 ≤ k ∧ k ≤ 1000000 then xs[k.toNat]?.map fun z => (z, xs.eraseIdx k.toNat) else none
  | .remove, [a] => (asI a).bind fun x => (intsOf xs).bind fun ns => guardO (decide (x ∈ ns)) (.none, (ns.erase x).map .int)
  | _, _ => none

/-- the list's flag behind a change: xs what it held, rs what went in, z what came out -/
def flAfter (m : Mm) (f : Fl) (rs : List (D × Bool)) (z : D) : Fl := match m with
  | .append => if allOwn rs then f else .spn
  | .extend => if rs.all fun r => r.2 || flat r.1 then f else .spn
  | _ => if imm z then f else .spn
def canChange (f : Fl) : Bool := match f with
  | .own => true
  | .spn => true
  | _ => false

/-- a list with another thing at a place -/
def putAt (xs : List D) (i : Int) (v : D) : Option (List D) :=
  if 0 ≤ i ∧ i.toNat < xs.length then some (xs.set i.toNat v) else none

/-- d[k] = v, k there -/
def putD (k : Str) (v : D) : List (D × D) → Option (List (D × D))
  | [] => none
  | (.str x, v') :: r => if x = k then some ((.str x, v) :: r) else (putD k v r).map fun r' => (.str x, v') :: r'
  | _ :: _ => none

/-- x[k] = v; kd: k is a written text -/
def putIn (kd : Bool) (d k v : D) : Option D := match kd, d, k with
  | false, .list xs, .int i => (putAt xs i v).map .list
  | true, .dict kvs, .str k => (putD k v kvs).map .dict
  | _, _, _ => none
/-- x[k] -/
def getK (kd : Bool) (d k : D) : Option D := if kd then pIdxD d k else pIdx d k

def dSmall : D → Bool
  | .dict kvs => decide (kvs.length ≤ 1000)
  | _ => true

def keyE : Ex → Bool
  | .cst (.str _) => true
  | _ => false
/-- a name or a written constant that can't change -/
def smE (env : En) : Ex → Option D
  | .var i => (getS env i).bind fun s => if imm s.d then some s.d else none
  | .cst d => if imm d then some d else none
  | _ => none
def smAll (env : En) : List Ex → Option (List D)
  | [] => some []
  | e :: es => (smE env e).bind fun d => (smAll env es).map fun ds => d :: ds

/-! ### targets, iterations -/
def store (env : En) (i : Nat) (d : D) (o : Bool) : Option En :=
  if i < env.length then some (putS env i d (if imm d || o then .own else .frz)) else none

def storeAll (env : En) : List Nat → List D → Option En
  | [], [] => some env
  | i :: is, d :: ds => (store env i d false).bind fun e => storeAll e is ds
  | _, _ => none
def storeEach (env : En) : List Nat → List (D × Bool) → Option En
  | [], [] => some env
  | i :: is, r :: rs => (store env i r.1 r.2).bind fun e => storeEach e is rs
  | _, _ => none

def assignT (env : En) (t : Tg) (d : D) (o : Bool) : Option En := match t with
  | .nm i => store env i d o
  | .tp is => match d with
    | .tuple ds => storeAll env is ds
    | _ => none

def enumFrom : Nat → List D → List D
  | _, [] => []
  | k, x :: xs => .tuple [.int k, x] :: enumFrom (k + 1) xs

def zipD : List D → List D → List D
  | x :: xs, y :: ys => .tuple [x, y] :: zipD xs ys
  | _, _ => []

/-- what is walked, item by item -/
def itemsOf : Ik → List D → Option (List D)
  | .seq, [a] => seqOf a
  | .rng1, [a] => (asI a).bind fun n => guardO (rgOk 0 n) (rangeD 0 n)
  | .rng2, [a, b] => (asI a).bind fun i => (asI b).bind fun j => guardO (rgOk i j) (rangeD i j)
  | .enum, [a] => (seqOf a).map (enumFrom 0)
  | .zip, [.list xs, .list ys] => some (zipD xs ys)
  | .zip, [.tuple xs, .tuple ys] => some (zipD xs ys)
  | .zip, [.list xs, .tuple ys] => some (zipD xs ys)
  | .zip, [.tuple xs, .list ys] => some (zipD xs ys)
  | .rev, [a] => (seqOf a).map List.reverse
  | _, _ => none

/-- slots that are walked are locked (lists), else frozen -/
def lock1 (env : En) (i : Nat) : Option En := (getS env i).map fun s => match s.fl with
  | .own => if (asL s.d).isSome then putS env i s.d .lck else putS env i s.d .frz
  | .spn => putS env i s.d .lck
  | _ => env
def lockAll (env : En) : List Od → Option En
  | [] => some env
  | .slot i :: os => (lock1 env i).bind fun e => lockAll e os
  | .tmp _ _ :: os => lockAll env os
/-- the locks are taken off: as the slots were ahead -/
def unlock1 (was env : En) (i : Nat) : En := match getS was i, getS env i with
  | some s, some t => if t.fl = .lck then putS env i t.d (if s.fl = .lck then .lck else if flat t.d then s.fl else .spn) else env
  | _, _ => env
def unlockAll (was env : En) : List Od → En
  | [] => env
  | .slot i :: os => unlockAll was (unlock1 was env i) os
  | .tmp _ _ :: os => unlockAll was env os

def wipeE (env : En) : List Nat → En
  | [] => env
  | i :: is => (wipeE env is).set i none
def tgIn (t : Tg) (own : List Nat) : Bool := match t with
  | .nm i => own.contains i
  | .tp is => is.all fun i => own.contains i
/-- the walked names are no block's own -/
def offOwn (own : List Nat) (os : List Od) : Bool := (slotsIn os).all fun i => !own.contains i
mutual
/-- the names that comprehensions in it have for their own -/
def ownsE : Ex → List Nat
  | .var _ => []
  | .cst _ => []
  | .prim _ es => ownsEs es
  | .tup es => ownsEs es
  | .lst es => ownsEs es
  | .andE a b => ownsE a ++ ownsE b
  | .orE a b => ownsE a ++ ownsE b
  | .notE a => ownsE a
  | .ite c a b => ownsE c ++ (ownsE a ++ ownsE b)
  | .chain _ _ a b c => ownsE a ++ (ownsE b ++ ownsE c)
  | .call _ es => ownsEs es
  | .comp elt _ _ its ifs own => own ++ (ownsE elt ++ (ownsEs ifs ++ ownsEs its))
  | .sortk es _ _ _ => ownsEs es
  | .meth _ _ es => ownsEs es
  | .methAt _ _ _ _ => []
  | .lenAt _ _ _ => []
  | .dictS _ es => ownsEs es
def ownsEs : List Ex → List Nat
  | [] => []
  | e :: es => ownsE e ++ ownsEs es
end

/-- the turns of a comprehension -/
def compLoop (tg : Tg) (own : List Nat) (tst : En → Option (Bool × En)) (elt : En → Option Rs) : List D → En → Option (List (D × Bool) × En)
  | [], env => some ([], env)
  | x :: xs, env => (assignT (wipeE env own) tg x false).bind fun e1 => (tst e1).bind fun q =>
    if q.1 then (elt q.2).bind fun r => (compLoop tg own tst elt xs r.env).map fun z => ((r.d, r.own) :: z.1, z.2)
    else compLoop tg own tst elt xs q.2

inductive Flow where
  | next (env : En)
  | ret (d : D) (own : Bool) (env : En)
  | brk (env : En)
  | cont (env : En)

def whileLoop (c : En → Option (Bool × En)) (b : En → Option Flow) : Nat → En → Option Flow
  | 0, _ => none
  | n + 1, env => (c env).bind fun q => if q.1 then (b q.2).bind fun f => match f with
      | .next e' => whileLoop c b n e'
      | .cont e' => whileLoop c b n e'
      | .brk e' => some (.next e')
      | .ret d o e' => some (.ret d o e')
    else some (.next q.2)

def forLoop (tg : Tg) (b : En → Option Flow) : List D → En → Option Flow
  | [], env => some (.next env)
  | x :: xs, env => (assignT env tg x false).bind fun e => (b e).bind fun f => match f with
      | .next e' => forLoop tg b xs e'
      | .cont e' => forLoop tg b xs e'
      | .brk e' => some (.next e')
      | .ret d o e' => some (.ret d o e')

def fuel : Nat := 100000

/-- sorted by keys: the things by their keys' order, equal ones as they stood -/
def sortKD (ps : List (D × D)) : List D := (ps.mergeSort (PySem.W.dataLe false (·.2))).map (·.1)

/-- the keys of the things, each by the body over the frame -/
def keysOf (v : Nat) (body : En → Option Rs) (env : En) : List D → Option (List (D × D))
  | [] => some []
  | x :: xs => (store env v x false).bind fun e => (body e).bind fun r => if imm r.d then (keysOf v body env xs).map fun ks => (x, r.d) :: ks else none

section
variable (C : FS)
mutual
def evE : Ex → En → Option Rs
  | .var i, env => readV env i
  | .cst d, env => some ⟨d, true, env⟩
  | .prim p es, env => (evOs es env).bind fun q => (fetchAll q.2 q.1).bind fun ds => (pm p ds).bind fun r => finish p q.1 q.2 r
  | .tup es, env => (evOs es env).bind fun q => (gather q.2 q.1).map fun z => ⟨.tuple (things z.1), allOwn z.1, z.2⟩
  | .lst es, env => (evOs es env).bind fun q => (gather q.2 q.1).map fun z => ⟨.list (things z.1), allOwn z.1, z.2⟩
  | .andE a b, env => (evE a env).bind fun r => (asB r.d).bind fun k =>
      if k then (evE b r.env).bind fun r2 => (asB r2.d).map fun k2 => ⟨.bool k2, true, r2.env⟩ else some ⟨.bool false, true, r.env⟩
  | .orE a b, env => (evE a env).bind fun r => (asB r.d).bind fun k =>
      if k then some ⟨.bool true, true, r.env⟩ else (evE b r.env).bind fun r2 => (asB r2.d).map fun k2 => ⟨.bool k2, true, r2.env⟩
  | .notE a, env => (evE a env).bind fun r => (asB r.d).map fun k => ⟨.bool (!k), true, r.env⟩
  | .ite c a b, env => (evE c env).bind fun r => (asB r.d).bind fun k => if k then evE a r.env else evE b r.env
  | .chain p q a b c, env => (evE a env).bind fun ra => (evE b ra.env).bind fun rb => if imm ra.d && imm rb.d then
      (pm p [ra.d, rb.d]).bind fun k => (asB k).bind fun k => if k then (evE c rb.env).bind fun rc => if imm rc.d then
        (pm q [rb.d, rc.d]).bind fun k2 => (asB k2).map fun k2 => ⟨.bool k2, true, rc.env⟩ else none
      else some ⟨.bool false, true, rb.env⟩
    else none
  | .call f es, env => (evOs es env).bind fun q => doCall C f q.1 q.2
  | .comp elt tg k its ifs own, env => (evOs its env).bind fun q => (fetchAll q.2 q.1).bind fun ds => (itemsOf k ds).bind fun xs =>
      if tgIn tg own && offOwn (own ++ (ownsE elt ++ ownsEs ifs)) q.1 && decide (xs.length < big) then (lockAll q.2 q.1).bind fun e1 => (compLoop tg own (evTs ifs) (evE elt) xs e1).map fun z =>
        ⟨.list (things z.1), allOwn z.1, unlockAll q.2 (wipeE z.2 own) q.1⟩
      else none
  | .sortk es rg v body, env => (evOs es env).bind fun q => (fetchAll q.2 q.1).bind fun ds => (itemsOf (if rg then .rng1 else .seq) ds).bind fun xs =>
      (keysOf v (evE body) q.2 xs).bind fun ks => if sortOk (ks.map (·.2)) && immAll xs then some ⟨.list (sortKD ks), true, q.2⟩ else none
  | .meth m i es, env => (getS env i).bind fun s0 => (asL s0.d).bind fun _ => (evOs es env).bind fun q => (gather q.2 q.1).bind fun z => (getS z.2 i).bind fun s => (asL s.d).bind fun xs =>
      (change m xs (things z.1)).bind fun w => if canChange s.fl then
        some ⟨w.1, imm w.1, putS z.2 i (.list w.2) (flAfter m s.fl z.1 w.1)⟩ else none
  | .methAt m i k es, env => (smE env k).bind fun dk => (smAll env es).bind fun as => (getS env i).bind fun s => (getK (keyE k) s.d dk).bind fun l => (asL l).bind fun xs =>
      (change m xs as).bind fun w => (putIn (keyE k) s.d dk (.list w.2)).bind fun d' =>
        if decide (s.fl = .own) && immAll xs then some ⟨w.1, true, putS env i d' .own⟩ else none
  | .lenAt p i k, env => (smE env k).bind fun dk => (getS env i).bind fun s => (getK (keyE k) s.d dk).bind fun d => (pm1 p d).bind fun r => if imm r then some ⟨r, true, env⟩ else none
  | .dictS ks es, env => (evOs es env).bind fun q => (gather q.2 q.1).bind fun z =>
      if ks.Nodup ∧ ks.length ≤ 15 ∧ ks.length = es.length then some ⟨.dict ((ks.map .str).zip (things z.1)), allOwn z.1, z.2⟩ else none
def evOs : List Ex → En → Option (List Od × En)
  | [], env => some ([], env)
  | .var i :: es, env => (getS env i).bind fun s => (evOs es env).map fun q => ((if imm s.d then .tmp s.d true else .slot i) :: q.1, q.2)
  | e :: es, env => (evE e env).bind fun r => (evOs es r.env).map fun q => (.tmp r.d r.own :: q.1, q.2)
def evTs : List Ex → En → Option (Bool × En)
  | [], env => some (true, env)
  | c :: cs, env => (evE c env).bind fun r => (asB r.d).bind fun k => if k then evTs cs r.env else some (false, r.env)
end

/-- values one after another -/
def evEs : List Ex → En → Option (List (D × Bool) × En)
  | [], env => some ([], env)
  | e :: es, env => (evE C e env).bind fun r => (evEs es r.env).map fun q => ((r.d, r.own) :: q.1, q.2)

def evC (c : Ex) (env : En) : Option (Bool × En) := (evE C c env).bind fun r => (asB r.d).map fun k => (k, r.env)

/-- return x of a name of the def's own: it goes out -/
def retV (np : Nat) (e : Ex) (env : En) : Option Rs := match e with
  | .var i => (getS env i).bind fun s => if decide (np ≤ i) && decide (s.fl = .own) then some ⟨s.d, true, env.set i none⟩ else readV env i
  | e => evE C e env

mutual
def evS (np : Nat) : St → En → Option Flow
  | .asg t e, env => (evE C e env).bind fun r => (assignT r.env t r.d r.own).map .next
  | .par ts es, env => (evEs C es env).bind fun q => (storeEach q.2 ts q.1).map .next
  | .setAt i k e, env => (evE C e env).bind fun r => (smE r.env k).bind fun dk => (getS r.env i).bind fun s =>
      (putIn (keyE k) s.d dk r.d).bind fun d => if canChange s.fl && (imm r.d || !keyE k) && dSmall s.d then some (.next (putS r.env i d (if imm r.d then s.fl else .spn))) else none
  | .augAt i k e, env => (smE env k).bind fun dk => (getS env i).bind fun s0 => (getK false s0.d dk).bind fun o => (asI o).bind fun n => (evE C e env).bind fun r => (asI r.d).bind fun m => (getS r.env i).bind fun s =>
      (putIn false s.d dk (.int (n + m))).bind fun d => if canChange s.fl && (asL s0.d).isSome then some (.next (putS r.env i d s.fl)) else none
  | .augL i e, env => (getS env i).bind fun s => (asI s.d).bind fun n => (evE C e env).bind fun r => (asI r.d).map fun m => .next (putS r.env i (.int (n + m)) .own)
  | .ex e, env => (evE C e env).map fun r => .next r.env
  | .ite c a b, env => (evC C c env).bind fun q => if q.1 then evSs np a q.2 else evSs np b q.2
  | .whl c b, env => whileLoop (evC C c) (evSs np b) fuel env
  | .for t k its b, env => (evOs C its env).bind fun q => (fetchAll q.2 q.1).bind fun ds => (itemsOf k ds).bind fun xs =>
      (freezeAll q.2 q.1).bind fun e1 => forLoop t (evSs np b) xs e1
  | .ret e, env => (retV C np e env).map fun r => .ret r.d (imm r.d || r.own) r.env
  | .retN, env => some (.ret .none true env)
  | .brk, env => some (.brk env)
  | .cont, env => some (.cont env)
  | .pass, env => some (.next env)
  | .never, _ => none
def evSs (np : Nat) : List St → En → Option Flow
  | [], env => some (.next env)
  | s :: ss, env => (evS np s env).bind fun f => match f with
    | .next e => evSs np ss e
    | f => some f
end

/-- what comes in: a parameter that is stored to is read alone -/
def inS : List Bool → List Sl → List Sl
  | true :: re, a :: as => (if imm a.d then a else ⟨a.d, .frz⟩) :: inS re as
  | _ :: re, a :: as => a :: inS re as
  | [], as => as
  | _, [] => []
/-- the parameters in the end: as they came in, if they were stored to -/
def outS (env : En) : Nat → List Bool → List Sl → Option (List Sl)
  | _, [], _ => some []
  | _, _, [] => some []
  | n, true :: re, a :: as => (outS env (n + 1) re as).map fun r => a :: r
  | n, false :: re, _ :: as => (getS env n).bind fun s => (outS env (n + 1) re as).map fun r => s :: r

/-- what a def gives -/
def runFn (F : Fn) (as : List Sl) : Option (D × Bool × List Sl) :=
  if as.length = F.re.length then
    (evSs C F.re.length F.body ((inS F.re as).map some ++ List.replicate (F.ns - F.re.length) none)).bind fun f => match f with
      | .ret d o e => (outS e 0 F.re (inS F.re as)).map fun r => (d, o, r)
      | .next e => (outS e 0 F.re (inS F.re as)).map fun r => (.none, true, r)
      | _ => none
  else none
end

/-- the functions, called so deep at most -/
def semF (P : List Fn) : Nat → FS
  | 0 => fun _ _ => none
  | k + 1 => fun f as => (P[f]?).bind fun F => runFn (semF P k) F as
end Ev
set_option maxHeartbeats 1000000
/-! What stands in the heap for a datum, and who has it. -/
namespace Ev
open PySem PySem.Spec PyProof.Rows L2

mutual
inductive Fp (K : PySem.W.Frag) (H : Hp) : V → D → List Addr → Prop
  | non : Fp K H .non .none []
  | bl (b : Bool) : Fp K H (.bl b) (.bool b) []
  | int (i : Int) : Fp K H (.int i) (.int i) []
  | str (x : Str) : Fp K H (.str x) (.str x) []
  | tup {a : Addr} {xs : List V} {ds : List D} {F : List Addr} : SqT K H a xs → FpAll K H xs ds F → Fp K H (.ref a) (.tuple ds) F
  | lst {a : Addr} {xs : List V} {ds : List D} {F : List Addr} : Rd H a (.lst xs) → FpAll K H xs ds F → Fp K H (.ref a) (.list ds) (a :: F)
  | dic {a : Addr} {ks : List Str} {vs : List V} {ds : List D} {F : List Addr} : Rd H a (.dK ((ks.map Sum.inr).zip vs)) → ks.length = vs.length → ks.Nodup → FpAll K H vs ds F → Fp K H (.ref a) (.dict ((ks.map PyData.str).zip ds)) (a :: F)
inductive FpAll (K : PySem.W.Frag) (H : Hp) : List V → List D → List Addr → Prop
  | nil : FpAll K H [] [] []
  | cons {v : V} {vs : List V} {d : D} {ds : List D} {F G : List Addr} : Fp K H v d F → FpAll K H vs ds G → FpAll K H (v :: vs) (d :: ds) (F ++ G)
end

/-- all but what can be changed at M is as it was -/
def Keeps (M : List Addr) (H H' : Hp) : Prop := ∀ a o, H a = some o → (a ∈ M → ¬ Mut (some o)) → (∀ ps, o ≠ .tbl ps) → H' a = some o

section
variable {K : PySem.W.Frag} {H H' H1 : Hp}

theorem FpAll.len : ∀ {vs : List V} {ds : List D} {F : List Addr}, FpAll K H vs ds F → vs.length = ds.length
  | _, _, _, .nil => rfl
  | _, _, _, .cons _ t => by simp [FpAll.len t]

theorem Keeps.refl (M : List Addr) (H : Hp) : Keeps M H H := fun _ _ h _ _ => h
theorem Keeps.trans {M : List Addr} (a : Keeps M H H1) (b : Keeps M H1 H') : Keeps M H H' := fun x o e m t => b x o (a x o e m t) m t
theorem Keeps.of_same {M : List Addr} (s : Same H H') : Keeps M H H' := fun a o e _ _ => s a o e
theorem Keeps.mono {M N : List Addr} (k : Keeps M H H') (s : ∀ a ∈ M, a ∈ N) : Keeps N H H' := fun a o e m t => k a o e (fun h => m (s a h)) t
theorem Keeps.upd {a : Addr} {o : HO} (h : Mut (H a)) : Keeps [a] H (upd H a o) := fun b u e m _ => by
  by_cases q : b = a
  · subst q
    rw [e] at h
    exact absurd h (m (by simp))
  · rw [upd_ne q]; exact e
theorem same_upd {p : Addr} {o : HO} (h : H p = none) : Same H (L2.upd H p o) := fun b x e => by
  rw [upd_ne (ne_of_none e h)]; exact e

theorem SqT.keeps {M : List Addr} {a : Addr} {xs : List V} (h : SqT K H a xs) (k : Keeps M H H') : SqT K H' a xs := by
  rcases h with (h | ⟨o, h⟩) | h
  · exact .inl (.inl (k a _ h (fun _ z => z) (fun ps z => by cases z)))
  · exact .inl (.inr ⟨o, k a _ h (fun _ z => z) (fun ps z => by cases z)⟩)
  · exact .inr h
theorem Rd.keeps {M : List Addr} {a : Addr} {u : HO} (h : Rd H a u) (k : Keeps M H H') (hm : a ∉ M) (hn : ∀ ps, u ≠ .tbl ps := by intro ps z; cases z) : Rd H' a u := by
  rcases h with h | ⟨o, h⟩
  · exact .inl (k a _ h (fun z => absurd z hm) hn)
  · exact .inr ⟨o, k a _ h (fun z => absurd z hm) (fun ps z => by cases z)⟩

mutual
theorem Fp.keeps {M : List Addr} (k : Keeps M H H') : ∀ {v : V} {d : D} {F : List Addr}, Fp K H v d F → (∀ a ∈ F, a ∉ M) → Fp K H' v d F
  | _, _, _, .non, _ => .non
  | _, _, _, .bl b, _ => .bl b
  | _, _, _, .int i, _ => .int i
  | _, _, _, .str x, _ => .str x
  | _, _, _, .tup h t, m => .tup (SqT.keeps h k) (FpAll.keeps k t m)
  | _, _, _, .lst h t, m => .lst (Rd.keeps h k (m _ List.mem_cons_self)) (FpAll.keeps k t fun a ha => m a (List.mem_cons_of_mem _ ha))
  | _, _, _, .dic h hl hn t, m => .dic (Rd.keeps h k (m _ List.mem_cons_self)) hl hn (FpAll.keeps k t fun a ha => m a (List.mem_cons_of_mem _ ha))
theorem FpAll.keeps {M : List Addr} (k : Keeps M H H') : ∀ {vs : List V} {ds : List D} {F : List Addr}, FpAll K H vs ds F → (∀ a ∈ F, a ∉ M) → FpAll K H' vs ds F
  | _, _, _, .nil, _ => .nil
  | _, _, _, .cons h t, m => .cons (Fp.keeps k h fun a ha => m a (List.mem_append_left _ ha)) (FpAll.keeps k t fun a ha => m a (List.mem_append_right _ ha))
end
/-- what is reached is lists and dicts -/
def LD (H : Hp) (a : Addr) : Prop := (∃ xs, Rd H a (.lst xs)) ∨ ∃ kvs, Rd H a (.dK kvs)
mutual
theorem Fp.ld : ∀ {v : V} {d : D} {F : List Addr}, Fp K H v d F → ∀ a ∈ F, LD H a
  | _, _, _, .non, a, h => by cases h
  | _, _, _, .bl b, a, h => by cases h
  | _, _, _, .int i, a, h => by cases h
  | _, _, _, .str x, a, h => by cases h
  | _, _, _, .tup _ t, a, h => FpAll.ld t a h
  | _, _, _, .lst r t, a, h => by
    rcases List.mem_cons.mp h with rfl | h
    · exact .inl ⟨_, r⟩
    · exact FpAll.ld t a h
  | _, _, _, .dic r _ _ t, a, h => by
    rcases List.mem_cons.mp h with rfl | h
    · exact .inr ⟨_, r⟩
    · exact FpAll.ld t a h
theorem FpAll.ld : ∀ {vs : List V} {ds : List D} {F : List Addr}, FpAll K H vs ds F → ∀ a ∈ F, LD H a
  | _, _, _, .nil, a, h => by cases h
  | _, _, _, .cons f t, a, h => by
    rcases List.mem_append.mp h with h | h
    · exact Fp.ld f a h
    · exact FpAll.ld t a h
end
/-- such a thing written, tables stay -/
theorem tab_upd {a : Addr} {o' : HO} {P : Addr} {q : Str} (t : LamX.TabS H P q) (h : LD H a) : LamX.TabS (upd H a o') P q := by
  obtain ⟨ps, h1, h2, h3⟩ := t
  have nt : ∀ b u, H b = some u → (∀ xs, u ≠ .lst xs) → (∀ kvs, u ≠ .dK kvs) → (∀ o w, u ≠ .frz o w) → b ≠ a := fun b u e n1 n2 n3 z => by
    subst z
    rcases h with ⟨xs, h | ⟨o, h⟩⟩ | ⟨kvs, h | ⟨o, h⟩⟩ <;> rw [e] at h <;> cases h
    · exact n1 _ rfl
    · exact n3 _ _ rfl
    · exact n2 _ rfl
    · exact n3 _ _ rfl
  refine ⟨ps, by rw [upd_ne (nt P _ h1 (fun _ z => by cases z) (fun _ z => by cases z) (fun _ _ z => by cases z))]; exact h1, h2, fun pos cv hc => ?_⟩
  obtain ⟨c, e1, e2⟩ := h3 pos cv hc
  refine ⟨c, e1, ?_⟩
  rw [upd_ne (nt c _ e2 (fun _ z => by unfold LamX.CodeO at z; cases z) (fun _ z => by unfold LamX.CodeO at z; cases z) (fun _ _ z => by unfold LamX.CodeO at z; cases z))]
  exact e2
theorem Fp.same (s : Same H H') {v : V} {d : D} {F : List Addr} (h : Fp K H v d F) : Fp K H' v d F := h.keeps (Keeps.of_same (M := []) s) fun _ _ z => by cases z
theorem FpAll.same (s : Same H H') {v : List V} {d : List D} {F : List Addr} (h : FpAll K H v d F) : FpAll K H' v d F := h.keeps (Keeps.of_same (M := []) s) fun _ _ z => by cases z

theorem Rd.there {a : Addr} {u : HO} (h : Rd H a u) : H a ≠ none := by
  rcases h with h | ⟨o, h⟩ <;> (rw [h]; intro z; cases z)
mutual
/-- all of it is tracked -/
theorem Fp.there : ∀ {v : V} {d : D} {F : List Addr}, Fp K H v d F → ∀ a ∈ F, H a ≠ none
  | _, _, _, .non, _, h => by cases h
  | _, _, _, .bl b, _, h => by cases h
  | _, _, _, .int i, _, h => by cases h
  | _, _, _, .str x, _, h => by cases h
  | _, _, _, .tup h t, a, ha => FpAll.there t a ha
  | _, _, _, .lst h t, a, ha => by
    rcases List.mem_cons.mp ha with rfl | ha
    · exact Rd.there h
    · exact FpAll.there t a ha
  | _, _, _, .dic h hl hn t, a, ha => by
    rcases List.mem_cons.mp ha with rfl | ha
    · exact Rd.there h
    · exact FpAll.there t a ha
theorem FpAll.there : ∀ {vs : List V} {ds : List D} {F : List Addr}, FpAll K H vs ds F → ∀ a ∈ F, H a ≠ none
  | _, _, _, .nil, _, h => by cases h
  | _, _, _, .cons h t, a, ha => by
    rcases List.mem_append.mp ha with ha | ha
    · exact Fp.there h a ha
    · exact FpAll.there t a ha
end
mutual
theorem Fp.imm : ∀ {v : V} {d : D} {F : List Addr}, Fp K H v d F → Ev.imm d = true → F = []
  | _, _, _, .non, _ => rfl
  | _, _, _, .bl b, _ => rfl
  | _, _, _, .int i, _ => rfl
  | _, _, _, .str x, _ => rfl
  | _, _, _, .tup h t, e => FpAll.imm t (by simpa [Ev.imm] using e)
  | _, _, _, .lst h t, e => by simp [Ev.imm] at e
  | _, _, _, .dic h hl hn t, e => by simp [Ev.imm] at e
theorem FpAll.imm : ∀ {vs : List V} {ds : List D} {F : List Addr}, FpAll K H vs ds F → immAll ds = true → F = []
  | _, _, _, .nil, _ => rfl
  | _, _, _, .cons h t, e => by
    simp only [immAll, Bool.and_eq_true] at e
    rw [Fp.imm h e.1, FpAll.imm t e.2]; rfl
end

theorem FpAll.get : ∀ {vs : List V} {ds : List D} {F : List Addr} {i : Nat} {d : D}, FpAll K H vs ds F → ds[i]? = some d → ∃ v G, vs[i]? = some v ∧ Fp K H v d G ∧ ∀ a ∈ G, a ∈ F
  | _, _, _, _, _, .nil, e => by simp at e
  | _, _, _, 0, d, .cons (F := F1) (v := v) h t, e => by
    simp at e; subst e
    exact ⟨v, F1, rfl, h, fun a ha => List.mem_append_left _ ha⟩
  | _, _, _, i + 1, d, .cons h t, e => by
    obtain ⟨v, G, e1, e2, e3⟩ := FpAll.get (i := i) t (by simpa using e)
    exact ⟨v, G, by simpa using e1, e2, fun a ha => List.mem_append_right _ (e3 a ha)⟩
theorem FpAll.append : ∀ {vs ws : List V} {ds es : List D} {F G : List Addr}, FpAll K H vs ds F → FpAll K H ws es G → FpAll K H (vs ++ ws) (ds ++ es) (F ++ G)
  | _, _, _, _, _, _, .nil, s => s
  | _, _, _, _, _, _, .cons h t, s => by
    rw [List.append_assoc]
    exact .cons h (FpAll.append t s)
theorem FpAll.take : ∀ {vs : List V} {ds : List D} {F : List Addr} (n : Nat), FpAll K H vs ds F → ∃ G, FpAll K H (vs.take n) (ds.take n) G ∧ ∀ a ∈ G, a ∈ F
  | _, _, _, 0, h => ⟨[], .nil, fun a z => by cases z⟩
  | _, _, _, _ + 1, .nil => ⟨[], .nil, fun a z => by cases z⟩
  | _, _, _, n + 1, .cons h t => by
    obtain ⟨G, h1, h2⟩ := FpAll.take n t
    refine ⟨_, .cons h h1, fun a ha => ?_⟩
    rcases List.mem_append.mp ha with ha | ha
    · exact List.mem_append_left _ ha
    · exact List.mem_append_right _ (h2 a ha)
theorem FpAll.drop : ∀ {vs : List V} {ds : List D} {F : List Addr} (n : Nat), FpAll K H vs ds F → ∃ G, FpAll K H (vs.drop n) (ds.drop n) G ∧ ∀ a ∈ G, a ∈ F
  | _, _, _, 0, h => ⟨_, h, fun a z => z⟩
  | _, _, _, _ + 1, .nil => ⟨[], .nil, fun a z => by cases z⟩
  | _, _, _, n + 1, .cons h t => by
    obtain ⟨G, h1, h2⟩ := FpAll.drop n t
    exact ⟨_, h1, fun a ha => List.mem_append_right _ (h2 a ha)⟩
/-- by places: a list of things that all stand somewhere in F -/
theorem FpAll.of_each : ∀ {vs : List V} {ds : List D} {F : List Addr}, vs.length = ds.length → (∀ (i : Nat) v d, vs[i]? = some v → ds[i]? = some d → ∃ G, Fp K H v d G ∧ ∀ a ∈ G, a ∈ F) → ∃ G, FpAll K H vs ds G ∧ ∀ a ∈ G, a ∈ F
  | [], [], _, _, _ => ⟨[], .nil, fun a z => by cases z⟩
  | v :: vs, d :: ds, F, hl, h => by
    obtain ⟨G, h1, h2⟩ := h 0 v d rfl rfl
    obtain ⟨G', h3, h4⟩ := FpAll.of_each (F := F) (by simpa using hl) fun i v d e1 e2 => h (i + 1) v d (by simpa using e1) (by simpa using e2)
    refine ⟨_, .cons h1 h3, fun a ha => ?_⟩
    rcases List.mem_append.mp ha with ha | ha
    · exact h2 a ha
    · exact h4 a ha

/-! data without dicts, as HandS has it -/
mutual
def noDict : D → Bool
  | .list xs => noDictAll xs
  | .tuple xs => noDictAll xs
  | .dict _ => false
  | _ => true
def noDictAll : List D → Bool
  | [] => true
  | x :: xs => noDict x && noDictAll xs
end
mutual
theorem Fp.dp : ∀ {v : V} {d : D} {F : List Addr}, Fp K H v d F → noDict d = true → Dp K H v d
  | _, _, _, .non, _ => .non
  | _, _, _, .bl b, _ => .bl b
  | _, _, _, .int i, _ => .int i
  | _, _, _, .str x, _ => .str x
  | _, _, _, .tup h t, e => .tup h (FpAll.dp t (by simpa [noDict] using e))
  | _, _, _, .lst h t, e => .lst (.inl h) (FpAll.dp t (by simpa [noDict] using e))
  | _, _, _, .dic h hl hn t, e => by simp [noDict] at e
theorem FpAll.dp : ∀ {vs : List V} {ds : List D} {F : List Addr}, FpAll K H vs ds F → noDictAll ds = true → DpAll K H vs ds
  | _, _, _, .nil, _ => .nil
  | _, _, _, .cons h t, e => by
    simp only [noDictAll, Bool.and_eq_true] at e
    exact .cons (Fp.dp h e.1) (FpAll.dp t e.2)
end
mutual
theorem chk_noDict : ∀ {n : Nat} {d : D}, chk n d = true → noDict d = true
  | _, .none, _ => rfl
  | _, .bool _, _ => rfl
  | _, .int _, _ => rfl
  | _, .str _, _ => rfl
  | 0, .tuple xs, h => by simp [chk] at h
  | n + 1, .tuple xs, h => by
    simp only [chk] at h
    simpa [noDict] using chkAll_noDict h
  | 0, .list xs, h => by simp [chk] at h
  | n + 1, .list xs, h => by
    simp only [chk] at h
    simpa [noDict] using chkAll_noDict h
  | _, .dict _, h => by simp [chk] at h
theorem chkAll_noDict : ∀ {n : Nat} {ds : List D}, chkAll n ds = true → noDictAll ds = true
  | _, [], _ => rfl
  | n, x :: xs, h => by
    simp only [chkAll, Bool.and_eq_true] at h
    simp only [noDictAll, Bool.and_eq_true]
    exact ⟨chk_noDict h.1, chkAll_noDict h.2⟩
end
mutual
theorem chk_lay : ∀ {n : Nat} {d : D}, chk n d = true → d.canLay0 = true ∧ d.depth ≤ n
  | _, .none, _ => ⟨rfl, by simp [PyData.depth]⟩
  | _, .bool _, _ => ⟨rfl, by simp [PyData.depth]⟩
  | _, .int _, _ => ⟨rfl, by simp [PyData.depth]⟩
  | _, .str x, h => ⟨by simpa [chk] using h, by simp [PyData.depth]⟩
  | 0, .tuple xs, h => by simp [chk] at h
  | n + 1, .tuple xs, h => by
    simp only [chk] at h
    have q := chkAll_lay h
    exact ⟨by simpa [PyData.canLay0] using q.1, by simp only [PyData.depth]; omega⟩
  | 0, .list xs, h => by simp [chk] at h
  | n + 1, .list xs, h => by
    simp only [chk] at h
    have q := chkAll_lay h
    exact ⟨by simpa [PyData.canLay0] using q.1, by simp only [PyData.depth]; omega⟩
  | _, .dict _, h => by simp [chk] at h
theorem chkAll_lay : ∀ {n : Nat} {ds : List D}, chkAll n ds = true → PyData.canLayAll0 ds = true ∧ PyData.depthAll ds ≤ n
  | _, [], _ => ⟨rfl, by simp [PyData.depthAll]⟩
  | n, x :: xs, h => by
    simp only [chkAll, Bool.and_eq_true] at h
    have q1 := chk_lay h.1
    have q2 := chkAll_lay h.2
    refine ⟨by simp [PyData.canLayAll0, q1.1, q2.1], ?_⟩
    simp only [PyData.depthAll]
    omega
end
theorem chk_shaped {n : Nat} {d : D} (h : chk n d = true) (hn : n ≤ 64) : SeqAt.shaped d = true := by
  have q := chk_lay h
  simp only [SeqAt.shaped, Bool.and_eq_true, decide_eq_true_eq]
  exact ⟨q.1, by omega⟩
end

/-! ### cells, the whole state -/
structure Cell where
  v : V
  d : D
  F : List Addr
  X : List Addr

inductive Ky where
  | s (i : Nat)
  | t (j : Nat)
  | g (j : Nat)
  deriving DecidableEq

abbrev Cs := Ky → Option Cell
def putC (cs : Cs) (k : Ky) (c : Option Cell) : Cs := fun q => if q = k then c else cs q
theorem putC_same {cs : Cs} {k : Ky} {c : Option Cell} : putC cs k c k = c := by simp [putC]
theorem putC_ne {cs : Cs} {k q : Ky} {c : Option Cell} (h : q ≠ k) : putC cs k c q = cs q := by simp [putC, h]

def Fits : Fl → Cell → Prop
  | .own, c => c.X = c.F ∧ c.F.Nodup
  | .spn, c => ∃ xs a G, c.d = .list xs ∧ c.F = a :: G ∧ c.X = [a] ∧ a ∉ G
  | .lck, c => ∃ xs a G, c.d = .list xs ∧ c.F = a :: G ∧ c.X = [a] ∧ a ∉ G
  | .frz, c => c.X = []
def FitsO (o : Bool) (c : Cell) : Prop := if imm c.d = true ∨ o = true then Fits .own c else Fits .frz c

/-- where one began: the heap, what was one's own there, all that could be reached -/
structure Bd where
  H0 : Hp
  L : List Addr
  R : List Addr

/-- tables of code objects that lambdas are kept in, with the lambdas' names -/
class Tb where
  T : List (Addr × Str)
variable [Tb]
structure Gd (K : PySem.W.Frag) (B : Bd) (H : Hp) (cs : Cs) : Prop where
  kp : Keeps B.L B.H0 H
  al : ∀ a, H a = none → B.H0 a = none
  rc : ∀ k c, cs k = some c → ∀ a ∈ c.F, B.H0 a = none ∨ a ∈ B.R
  fp : ∀ k c, cs k = some c → Fp K H c.v c.d c.F
  wr : ∀ k c, cs k = some c → ∀ a ∈ c.X, a ∈ c.F ∧ Mut (H a) ∧ (B.H0 a = none ∨ a ∈ B.L)
  dis : ∀ k k' c c', k ≠ k' → cs k = some c → cs k' = some c' → ∀ a ∈ c.X, a ∉ c'.F
  tb : ∀ p ∈ Tb.T, LamX.TabS H p.1 p.2

/-- the frame's slots -/
def Mt (env : En) (σ : L2.St) (cs : Cs) : Prop :=
  ∀ i, match getS env i with
    | some s => ∃ c, cs (.s i) = some c ∧ σ[i]? = some (some c.v) ∧ c.d = s.d ∧ Fits s.fl c
    | none => cs (.s i) = none

structure Wd (K : PySem.W.Frag) (B : Bd) (n : Nat) (env : En) (σ : L2.St) (H : Hp) (cs : Cs) : Prop where
  gd : Gd K B H cs
  mt : Mt env σ cs
  tm : ∀ j, n ≤ j → cs (.t j) = none
  len : env.length = σ.length

/-- the cells but those of slots and late temporaries are as they were -/
structure Ext (n : Nat) (cs cs' : Cs) : Prop where
  t : ∀ j, j < n → cs' (.t j) = cs (.t j)
  g : ∀ j, cs' (.g j) = cs (.g j)
theorem Ext.refl {n : Nat} {cs : Cs} : Ext n cs cs := ⟨fun _ _ => rfl, fun _ => rfl⟩
theorem Ext.trans {n m : Nat} {a b c : Cs} (h : n ≤ m) (x : Ext n a b) (y : Ext m b c) : Ext n a c := ⟨fun j hj => (y.t j (by omega)).trans (x.t j hj), fun j => (y.g j).trans (x.g j)⟩

section
variable {K : PySem.W.Frag} {B : Bd} {H H' : Hp} {n : Nat} {env : En} {σ : L2.St} {cs : Cs}

theorem Mt.slot (m : Mt env σ cs) {i : Nat} {s : Sl} (h : getS env i = some s) : ∃ c, cs (.s i) = some c ∧ σ[i]? = some (some c.v) ∧ c.d = s.d ∧ Fits s.fl c := by
  have := m i
  rw [h] at this
  exact this
theorem Mt.no (m : Mt env σ cs) {i : Nat} (h : getS env i = none) : cs (.s i) = none := by
  have := m i
  rw [h] at this
  exact this

/-- the heap grows -/
theorem Gd.grow (g : Gd K B H cs) (s : Same H H') : Gd K B H' cs where
  kp := g.kp.trans (Keeps.of_same s)
  tb := fun p hp => (g.tb p hp).ext s
  al := fun a h => g.al a (s.free h)
  rc := g.rc
  fp := fun k c e => (g.fp k c e).same s
  wr := fun k c e a ha => by
    obtain ⟨h1, h2, h3⟩ := g.wr k c e a ha
    refine ⟨h1, ?_, h3⟩
    cases q : H a with
    | none => rw [q] at h2; exact h2.elim
    | some o => rw [s a o q]; rw [q] at h2; exact h2
  dis := g.dis
theorem Wd.grow (w : Wd K B n env σ H cs) (s : Same H H') : Wd K B n env σ H' cs := ⟨w.gd.grow s, w.mt, w.tm, w.len⟩

/-- a cell taken off -/
theorem Gd.drop (g : Gd K B H cs) (k : Ky) : Gd K B H (putC cs k none) where
  kp := g.kp
  tb := g.tb
  al := g.al
  rc := fun q c e => by
    by_cases h : q = k
    · subst h; rw [putC_same] at e; cases e
    · rw [putC_ne h] at e; exact g.rc q c e
  fp := fun q c e => by
    by_cases h : q = k
    · subst h; rw [putC_same] at e; cases e
    · rw [putC_ne h] at e; exact g.fp q c e
  wr := fun q c e => by
    by_cases h : q = k
    · subst h; rw [putC_same] at e; cases e
    · rw [putC_ne h] at e; exact g.wr q c e
  dis := fun q q' c c' hne e e' => by
    by_cases h : q = k
    · subst h; rw [putC_same] at e; cases e
    · by_cases h' : q' = k
      · subst h'; rw [putC_same] at e'; cases e'
      · rw [putC_ne h] at e; rw [putC_ne h'] at e'; exact g.dis q q' c c' hne e e'

/-- a cell laid at a free place: what it may have for itself, nobody else holds; nothing of it is another's own -/
theorem Gd.lay (g : Gd K B H cs) (k : Ky) (c : Cell) (fp : Fp K H c.v c.d c.F) (wr : ∀ a ∈ c.X, a ∈ c.F ∧ Mut (H a) ∧ (B.H0 a = none ∨ a ∈ B.L))
    (rc : ∀ a ∈ c.F, B.H0 a = none ∨ a ∈ B.R) (d1 : ∀ q c', q ≠ k → cs q = some c' → ∀ a ∈ c.X, a ∉ c'.F) (d2 : ∀ q c', q ≠ k → cs q = some c' → ∀ a ∈ c'.X, a ∉ c.F) : Gd K B H (putC cs k (some c)) where
  kp := g.kp
  tb := g.tb
  al := g.al
  rc := fun q c' e => by
    by_cases h : q = k
    · subst h; rw [putC_same] at e; cases e; exact rc
    · rw [putC_ne h] at e; exact g.rc q c' e
  fp := fun q c' e => by
    by_cases h : q = k
    · subst h; rw [putC_same] at e; cases e; exact fp
    · rw [putC_ne h] at e; exact g.fp q c' e
  wr := fun q c' e => by
    by_cases h : q = k
    · subst h; rw [putC_same] at e; cases e; exact wr
    · rw [putC_ne h] at e; exact g.wr q c' e
  dis := fun q q' c1 c2 hne e e' => by
    by_cases h : q = k
    · subst h
      rw [putC_same] at e; cases e
      rw [putC_ne (Ne.symm hne)] at e'
      exact d1 q' c2 (Ne.symm hne) e'
    · by_cases h' : q' = k
      · subst h'
        rw [putC_same] at e'; cases e'
        rw [putC_ne h] at e
        exact d2 q c1 h e
      · rw [putC_ne h] at e; rw [putC_ne h'] at e'; exact g.dis q q' c1 c2 hne e e'
/-- nothing changeable in it -/
theorem Gd.layImm (g : Gd K B H cs) (k : Ky) {v : V} {d : D} (fp : Fp K H v d []) : Gd K B H (putC cs k (some ⟨v, d, [], []⟩)) :=
  g.lay k ⟨v, d, [], []⟩ fp (fun a h => by cases h) (fun a h => by cases h) (fun _ _ _ _ a h => by cases h) (fun _ _ _ _ a _ h => by cases h)
end
end Ev
set_option maxHeartbeats 1000000
/-! How the state moves: flags, temporaries, stores. -/
namespace Ev
open PySem PySem.Spec PyProof.Rows L2
variable [Tb]

/-- what a datum's things hold, without the list or dict itself -/
def inn (d : D) (F : List Addr) : List Addr := match d with
  | .list _ => F.tail
  | .dict _ => F.tail
  | _ => F
theorem inn_sub {d : D} {F : List Addr} : ∀ a ∈ inn d F, a ∈ F := fun a h => by
  unfold inn at h
  split at h
  · exact List.mem_of_mem_tail h
  · exact List.mem_of_mem_tail h
  · exact h

theorem getS_put {env : En} {i j : Nat} {d : D} {f : Fl} (h : i < env.length) : getS (putS env i d f) j = if j = i then some ⟨d, f⟩ else getS env j := by
  unfold getS putS
  by_cases e : j = i
  · subst e; rw [List.getElem?_set_self h, if_pos rfl]
  · rw [List.getElem?_set_ne (Ne.symm e), if_neg e]
theorem getS_lt {env : En} {i : Nat} {s : Sl} (h : getS env i = some s) : i < env.length := by
  unfold getS at h
  split at h
  · rename_i e
    exact (List.getElem?_eq_some_iff.mp e).1
  · cases h
theorem putS_len {env : En} {i : Nat} {d : D} {f : Fl} : (putS env i d f).length = env.length := by simp [putS]
theorem getS_none {env : En} {i j : Nat} : getS (env.set i none) j = if j = i then none else getS env j := by
  unfold getS
  by_cases e : j = i
  · subst e
    rw [if_pos rfl]
    by_cases h : j < env.length
    · rw [List.getElem?_set_self h]
    · rw [List.getElem?_eq_none (by simpa using h)]
  · rw [List.getElem?_set_ne (Ne.symm e), if_neg e]

section
variable {K : PySem.W.Frag} {B : Bd} {H H' : Hp} {n m : Nat} {env env' : En} {σ : L2.St} {cs cs' : Cs}

/-- less is had alone -/
theorem Gd.shrink (g : Gd K B H cs) {k : Ky} {c : Cell} {X : List Addr} (e : cs k = some c) (hX : ∀ a ∈ X, a ∈ c.X) : Gd K B H (putC cs k (some { c with X := X })) :=
  g.lay k { c with X := X } (g.fp k c e) (fun a ha => g.wr k c e a (hX a ha)) (g.rc k c e) (fun q c' hq e' a ha => g.dis k q c c' (Ne.symm hq) e e' a (hX a ha)) (fun q c' hq e' a ha => g.dis q k c' c hq e' e a ha)

theorem Ky_ts {i j : Nat} : Ky.t i ≠ Ky.s j := fun h => by cases h
theorem Ky_st {i j : Nat} : Ky.s i ≠ Ky.t j := fun h => by cases h

/-- a slot's cell is changed (its value and datum stay), its flag with it -/
theorem Wd.flag (w : Wd K B n env σ H cs) {i : Nat} {s : Sl} {c : Cell} {f : Fl} {X : List Addr} (hs : getS env i = some s) (e : cs (.s i) = some c) (hX : ∀ a ∈ X, a ∈ c.X) (hf : Fits f { c with X := X }) :
    Wd K B n (putS env i s.d f) σ H (putC cs (.s i) (some { c with X := X })) where
  gd := w.gd.shrink e hX
  mt := fun j => by
    rw [getS_put (getS_lt hs)]
    by_cases q : j = i
    · subst q
      rw [if_pos rfl]
      obtain ⟨c', e1, e2, e3, e4⟩ := w.mt.slot hs
      rw [e] at e1; cases e1
      exact ⟨_, putC_same, e2, e3, hf⟩
    · rw [if_neg q]
      have h := w.mt j
      cases hj : getS env j with
      | none =>
        rw [hj] at h
        show putC _ _ _ _ = none
        rw [putC_ne (by intro z; cases z; exact q rfl)]; exact h
      | some s' =>
        rw [hj] at h
        obtain ⟨c', e1, e2⟩ := h
        exact ⟨c', by rw [putC_ne (by intro z; cases z; exact q rfl)]; exact e1, e2⟩
  tm := fun j hj => by rw [putC_ne Ky_ts]; exact w.tm j hj
  len := by rw [putS_len]; exact w.len

/-- how cells go on: the same things, less had alone -/
structure Less (cs cs' : Cs) : Prop where
  t : ∀ j, cs' (.t j) = cs (.t j)
  g : ∀ j, cs' (.g j) = cs (.g j)
  s : ∀ i c', cs' (.s i) = some c' → ∃ c, cs (.s i) = some c ∧ c'.v = c.v ∧ c'.d = c.d ∧ c'.F = c.F ∧ ∀ a ∈ c'.X, a ∈ c.X
  b : ∀ i c, cs (.s i) = some c → ∃ c', cs' (.s i) = some c' ∧ c'.v = c.v ∧ c'.d = c.d ∧ c'.F = c.F ∧ ∀ a ∈ c'.X, a ∈ c.X
theorem Less.refl (cs : Cs) : Less cs cs := ⟨fun _ => rfl, fun _ => rfl, fun _ c e => ⟨c, e, rfl, rfl, rfl, fun _ h => h⟩, fun _ c e => ⟨c, e, rfl, rfl, rfl, fun _ h => h⟩⟩
theorem Less.trans {a b c : Cs} (x : Less a b) (y : Less b c) : Less a c where
  t := fun j => (y.t j).trans (x.t j)
  g := fun j => (y.g j).trans (x.g j)
  s := fun i c' e => by
    obtain ⟨c1, e1, v1, d1, f1, x1⟩ := y.s i c' e
    obtain ⟨c2, e2, v2, d2, f2, x2⟩ := x.s i c1 e1
    exact ⟨c2, e2, v1.trans v2, d1.trans d2, f1.trans f2, fun a h => x2 a (x1 a h)⟩
  b := fun i c' e => by
    obtain ⟨c1, e1, v1, d1, f1, x1⟩ := x.b i c' e
    obtain ⟨c2, e2, v2, d2, f2, x2⟩ := y.b i c1 e1
    exact ⟨c2, e2, v2.trans v1, d2.trans d1, f2.trans f1, fun a h => x1 a (x2 a h)⟩
theorem Less.ext {n : Nat} (x : Less cs cs') : Ext n cs cs' := ⟨fun j _ => x.t j, x.g⟩
theorem Less.put {i : Nat} {c : Cell} {X : List Addr} (e : cs (.s i) = some c) (hX : ∀ a ∈ X, a ∈ c.X) : Less cs (putC cs (.s i) (some { c with X := X })) where
  t := fun j => putC_ne Ky_ts
  g := fun j => putC_ne (by intro z; cases z)
  s := fun j c' h => by
    by_cases q : j = i
    · subst q; rw [putC_same] at h; cases h
      exact ⟨c, e, rfl, rfl, rfl, hX⟩
    · rw [putC_ne (by intro z; cases z; exact q rfl)] at h
      exact ⟨c', h, rfl, rfl, rfl, fun _ h => h⟩
  b := fun j c' h => by
    by_cases q : j = i
    · subst q; rw [e] at h; cases h
      exact ⟨_, putC_same, rfl, rfl, rfl, hX⟩
    · exact ⟨c', by rw [putC_ne (by intro z; cases z; exact q rfl)]; exact h, rfl, rfl, rfl, fun _ h => h⟩

/-- what Fits says of what is had alone -/
theorem Fits.sub {f : Fl} {c : Cell} (h : Fits f c) : ∀ a ∈ c.X, a ∈ c.F := fun a ha => by
  cases f with
  | own => rw [h.1] at ha; exact ha
  | spn => obtain ⟨_, b, G, _, e1, e2, _⟩ := h; rw [e2] at ha; rw [e1]; simp at ha; subst ha; exact List.mem_cons_self
  | lck => obtain ⟨_, b, G, _, e1, e2, _⟩ := h; rw [e2] at ha; rw [e1]; simp at ha; subst ha; exact List.mem_cons_self
  | frz => have h : c.X = [] := h; rw [h] at ha; cases ha

theorem asL_some {d : D} (h : (asL d).isSome = true) : ∃ xs, d = .list xs := by
  cases d <;> simp [asL] at h
  exact ⟨_, rfl⟩
/-- a list's footprint begins with itself -/
theorem Fp.list {v : V} {xs : List D} {F : List Addr} (h : Fp K H v (.list xs) F) : ∃ a vs G, v = .ref a ∧ F = a :: G ∧ Rd H a (.lst vs) ∧ FpAll K H vs xs G := by
  cases h with
  | lst h t => exact ⟨_, _, _, rfl, rfl, h, t⟩
theorem Fp.tuple {v : V} {xs : List D} {F : List Addr} (h : Fp K H v (.tuple xs) F) : ∃ a vs, v = .ref a ∧ SqT K H a vs ∧ FpAll K H vs xs F := by
  cases h with
  | tup h t => exact ⟨_, _, rfl, h, t⟩

theorem freeze1_ok (w : Wd K B n env σ H cs) {i : Nat} {e : En} (h : freeze1 env i = some e) :
    ∃ cs', Wd K B n e σ H cs' ∧ Less cs cs' ∧ ∃ c, cs' (.s i) = some c ∧ c.X = [] := by
  unfold freeze1 at h
  cases hs : getS env i with
  | none => rw [hs] at h; cases h
  | some s =>
    rw [hs] at h
    obtain ⟨c, e1, e2, e3, e4⟩ := w.mt.slot hs
    have go : ∀ f, s.fl = f → some (putS env i s.d .frz) = some e → ∃ cs', Wd K B n e σ H cs' ∧ Less cs cs' ∧ ∃ c, cs' (.s i) = some c ∧ c.X = [] := fun f _ h => by
      cases h
      exact ⟨_, w.flag hs e1 (X := []) (fun a z => by cases z) rfl, Less.put e1 (fun a z => by cases z), _, putC_same, rfl⟩
    simp only [Option.bind_some] at h
    split at h
    · exact go .own (by assumption) h
    · exact go .spn (by assumption) h
    · rename_i hf
      cases h
      rw [hf] at e4
      exact ⟨cs, w, Less.refl cs, c, e1, e4⟩
    · cases h

theorem freezeAll_ok : ∀ {os : List Od} {env e : En} {cs : Cs}, Wd K B n env σ H cs → freezeAll env os = some e →
    ∃ cs', Wd K B n e σ H cs' ∧ Less cs cs' ∧ ∀ i, Od.slot i ∈ os → ∃ c, cs' (.s i) = some c ∧ c.X = []
  | [], env, e, cs, w, h => by cases h; exact ⟨cs, w, Less.refl cs, fun i z => by cases z⟩
  | .slot i :: os, env, e, cs, w, h => by
    unfold freezeAll at h
    obtain ⟨e1, h1, h2⟩ := Option.bind_eq_some_iff.mp h
    obtain ⟨cs1, w1, l1, c, ec, eX⟩ := freeze1_ok w h1
    obtain ⟨cs2, w2, l2, q2⟩ := freezeAll_ok w1 h2
    refine ⟨cs2, w2, l1.trans l2, fun j hj => ?_⟩
    rcases List.mem_cons.mp hj with z | z
    · cases z
      obtain ⟨c', e', _, _, _, x'⟩ := l2.b i c ec
      refine ⟨c', e', ?_⟩
      cases hX : c'.X with
      | nil => rfl
      | cons a r => have := x' a (by rw [hX]; exact List.mem_cons_self); rw [eX] at this; cases this
    · exact q2 j z
  | .tmp d o :: os, env, e, cs, w, h => by
    unfold freezeAll at h
    obtain ⟨cs2, w2, l2, q2⟩ := freezeAll_ok w h
    refine ⟨cs2, w2, l2, fun j hj => ?_⟩
    rcases List.mem_cons.mp hj with z | z
    · cases z
    · exact q2 j z

/-- nothing of what the slot's things hold is had by it alone -/
def Open (c : Cell) : Prop := ∀ a ∈ c.X, a ∉ inn c.d c.F

theorem thaw1_ok (w : Wd K B n env σ H cs) {i : Nat} {e : En} (h : thaw1 env i = some e) :
    ∃ cs', Wd K B n e σ H cs' ∧ Less cs cs' ∧ ∃ c, cs' (.s i) = some c ∧ Open c := by
  unfold thaw1 at h
  cases hs : getS env i with
  | none => rw [hs] at h; cases h
  | some s =>
    rw [hs] at h
    obtain ⟨c, e1, e2, e3, e4⟩ := w.mt.slot hs
    simp only [Option.map_some, Option.some.injEq] at h
    have op1 : ∀ xs a G, c.d = .list xs → c.F = a :: G → c.X = [a] → a ∉ G → Open c := fun xs a G z0 z1 z2 z3 b hb => by
      rw [z2] at hb
      simp at hb
      subst hb
      rw [z0, z1]
      exact z3
    cases hf : s.fl with
    | own =>
      rw [hf] at h e4
      simp only at h
      obtain ⟨f1, f2⟩ := e4
      by_cases hl : (asL s.d).isSome = true
      · rw [if_pos hl] at h
        subst h
        obtain ⟨xs, hd⟩ := asL_some hl
        have hd' : c.d = .list xs := e3.trans hd
        have q := w.gd.fp _ c e1
        rw [hd'] at q
        obtain ⟨a, vs, G, ev, eF, rd, t⟩ := q.list
        have hn : a ∉ G := by rw [eF] at f2; exact (List.nodup_cons.mp f2).1
        have hX : ∀ b ∈ [a], b ∈ c.X := fun b hb => by rw [f1, eF]; simp at hb; subst hb; exact List.mem_cons_self
        refine ⟨_, w.flag hs e1 (f := .spn) (X := [a]) hX ⟨xs, a, G, hd', eF, rfl, hn⟩, Less.put e1 hX, _, putC_same, fun b hb => ?_⟩
        simp at hb
        subst hb
        show b ∉ inn c.d c.F
        rw [hd', eF]
        exact hn
      · rw [if_neg hl] at h
        subst h
        exact ⟨_, w.flag hs e1 (f := .frz) (X := []) (fun a z => by cases z) rfl, Less.put e1 (fun a z => by cases z), _, putC_same, fun b hb => by cases hb⟩
    | spn =>
      rw [hf] at h e4
      subst h
      obtain ⟨xs, a, G, z0, z1, z2, z3⟩ := e4
      exact ⟨cs, w, Less.refl cs, c, e1, op1 xs a G z0 z1 z2 z3⟩
    | lck =>
      rw [hf] at h e4
      subst h
      obtain ⟨xs, a, G, z0, z1, z2, z3⟩ := e4
      exact ⟨cs, w, Less.refl cs, c, e1, op1 xs a G z0 z1 z2 z3⟩
    | frz =>
      rw [hf] at h e4
      subst h
      have e4 : c.X = [] := e4
      exact ⟨cs, w, Less.refl cs, c, e1, fun b hb => by rw [e4] at hb; cases hb⟩

theorem Open.less {c c' : Cell} (h : Open c) (hd : c'.d = c.d) (hF : c'.F = c.F) (hX : ∀ a ∈ c'.X, a ∈ c.X) : Open c' := fun a ha => by
  rw [hd, hF]; exact h a (hX a ha)
theorem thawAll_ok : ∀ {os : List Od} {env e : En} {cs : Cs}, Wd K B n env σ H cs → thawAll env os = some e →
    ∃ cs', Wd K B n e σ H cs' ∧ Less cs cs' ∧ ∀ i, Od.slot i ∈ os → ∃ c, cs' (.s i) = some c ∧ Open c
  | [], env, e, cs, w, h => by cases h; exact ⟨cs, w, Less.refl cs, fun i z => by cases z⟩
  | .slot i :: os, env, e, cs, w, h => by
    unfold thawAll at h
    obtain ⟨e1, h1, h2⟩ := Option.bind_eq_some_iff.mp h
    obtain ⟨cs1, w1, l1, c, ec, eX⟩ := thaw1_ok w h1
    obtain ⟨cs2, w2, l2, q2⟩ := thawAll_ok w1 h2
    refine ⟨cs2, w2, l1.trans l2, fun j hj => ?_⟩
    rcases List.mem_cons.mp hj with z | z
    · cases z
      obtain ⟨c', e', _, d', f', x'⟩ := l2.b i c ec
      exact ⟨c', e', eX.less d' f' x'⟩
    · exact q2 j z
  | .tmp d o :: os, env, e, cs, w, h => by
    unfold thawAll at h
    obtain ⟨cs2, w2, l2, q2⟩ := thawAll_ok w h
    refine ⟨cs2, w2, l2, fun j hj => ?_⟩
    rcases List.mem_cons.mp hj with z | z
    · cases z
    · exact q2 j z

/-! ### temporaries -/
/-- the late temporaries are taken off -/
def cutT (n : Nat) (cs : Cs) : Cs := fun k => match k with
  | .t j => if n ≤ j then none else cs (.t j)
  | .s i => cs (.s i)
  | .g i => cs (.g i)
theorem cutT_s {i : Nat} : cutT n cs (.s i) = cs (.s i) := rfl
theorem cutT_lo {j : Nat} (h : j < n) : cutT n cs (.t j) = cs (.t j) := by simp [cutT, Nat.not_le.mpr h]
theorem cutT_hi {j : Nat} (h : n ≤ j) : cutT n cs (.t j) = none := by simp [cutT, h]
theorem cutT_some {k : Ky} {c : Cell} (h : cutT n cs k = some c) : cs k = some c := by
  cases k with
  | s i => exact h
  | g i => exact h
  | t j =>
    by_cases q : n ≤ j
    · rw [cutT_hi q] at h; cases h
    · rw [cutT_lo (by omega)] at h; exact h
theorem Wd.cut (w : Wd K B m env σ H cs) (n : Nat) : Wd K B n env σ H (cutT n cs) where
  gd := ⟨w.gd.kp, w.gd.al, fun k c e => w.gd.rc k c (cutT_some e), fun k c e => w.gd.fp k c (cutT_some e), fun k c e => w.gd.wr k c (cutT_some e), fun k k' c c' hne e e' => w.gd.dis k k' c c' hne (cutT_some e) (cutT_some e'), w.gd.tb⟩
  mt := fun i => by
    have h := w.mt i
    cases hj : getS env i with
    | none => rw [hj] at h; exact h
    | some s' => rw [hj] at h; exact h
  tm := fun j hj => cutT_hi hj
  len := w.len
theorem Ext.cut {a : Cs} (x : Ext n a cs) : Ext n a (cutT n cs) := ⟨fun j hj => (cutT_lo hj).trans (x.t j hj), x.g⟩

/-- a temporary is laid -/
theorem Wd.push (w : Wd K B n env σ H cs) {c : Cell} (fp : Fp K H c.v c.d c.F) (wr : ∀ a ∈ c.X, a ∈ c.F ∧ Mut (H a) ∧ (B.H0 a = none ∨ a ∈ B.L))
    (rc : ∀ a ∈ c.F, B.H0 a = none ∨ a ∈ B.R) (d1 : ∀ q c', cs q = some c' → ∀ a ∈ c.X, a ∉ c'.F) (d2 : ∀ q c', cs q = some c' → ∀ a ∈ c'.X, a ∉ c.F) : Wd K B (n + 1) env σ H (putC cs (.t n) (some c)) where
  gd := w.gd.lay (.t n) c fp wr rc (fun q c' _ e => d1 q c' e) (fun q c' _ e => d2 q c' e)
  mt := fun i => by
    have h := w.mt i
    cases hj : getS env i with
    | none => rw [hj] at h; show putC _ _ _ _ = none; rw [putC_ne Ky_st]; exact h
    | some s' =>
      rw [hj] at h
      obtain ⟨c', e1, e2⟩ := h
      exact ⟨c', by rw [putC_ne Ky_st]; exact e1, e2⟩
  tm := fun j hj => by
    rw [putC_ne (by intro z; cases z; omega)]
    exact w.tm j (by omega)
  len := w.len
theorem Ext.put {c : Option Cell} : Ext n cs (putC cs (.t n) c) := ⟨fun j hj => putC_ne (by intro z; cases z; omega), fun j => putC_ne (by intro z; cases z)⟩
theorem Wd.pushImm (w : Wd K B n env σ H cs) {v : V} {d : D} (fp : Fp K H v d []) : Wd K B (n + 1) env σ H (putC cs (.t n) (some ⟨v, d, [], []⟩)) :=
  w.push (c := ⟨v, d, [], []⟩) fp (fun a z => by cases z) (fun a z => by cases z) (fun _ _ _ a z => by cases z) (fun _ _ _ a _ z => by cases z)
theorem fitsO_imm {o : Bool} {v : V} {d : D} (h : imm d = true) : FitsO o ⟨v, d, [], []⟩ := by
  unfold FitsO
  rw [if_pos (.inl h)]
  exact ⟨rfl, List.nodup_nil⟩
/-- a new flat thing -/
theorem Wd.pushNew (w : Wd K B n env σ H cs) (s : Same H H') {v : V} {d : D} {G : List Addr} (fp : Fp K H' v d G) (new : ∀ a ∈ G, H a = none) (mu : ∀ a ∈ G, Mut (H' a)) : Wd K B (n + 1) env σ H' (putC cs (.t n) (some ⟨v, d, G, G⟩)) := by
  have no : ∀ q c', cs q = some c' → ∀ a ∈ G, a ∉ c'.F := fun q c' e a ha z => (w.gd.fp q c' e).there a z (new a ha)
  refine (w.grow s).push (c := ⟨v, d, G, G⟩) fp (fun a ha => ⟨ha, mu a ha, .inl (w.gd.al a (new a ha))⟩) (fun a ha => .inl (w.gd.al a (new a ha))) no fun q c' e a ha z => no q c' e a z (w.gd.wr q c' e a ha).1
/-- a thing whose things others have -/
theorem Wd.pushFrz (w : Wd K B n env σ H cs) (s : Same H H') {v : V} {d : D} {G : List Addr} (fp : Fp K H' v d G) (opn : ∀ a ∈ G, H a = none ∨ ∀ q c', cs q = some c' → a ∉ c'.X) (rc : ∀ a ∈ G, H a = none ∨ B.H0 a = none ∨ a ∈ B.R) : Wd K B (n + 1) env σ H' (putC cs (.t n) (some ⟨v, d, G, []⟩)) := by
  refine (w.grow s).push (c := ⟨v, d, G, []⟩) fp (fun a z => by cases z) (fun a ha => (rc a ha).elim (fun z => .inl (w.gd.al a z)) id) (fun _ _ _ a z => by cases z) fun q c' e a ha z => ?_
  rcases opn a z with h | h
  · have := (w.gd.fp q c' e).there a (w.gd.wr q c' e a ha).1
    exact this h
  · exact h q c' e ha
end
end Ev
set_option maxHeartbeats 1000000
/-! Operands, and a primitive's end. -/
namespace Ev
open PySem PySem.Spec PyProof.Rows L2
variable [Tb]

theorem PE_imp {X : Cx} {e : Expr} {t t' : TE} (h : PE X e t) (w : ∀ σ H Q, t' σ H Q → t σ H Q) : PE X e t' := ⟨fun pins s σ H Q I q => h.run pins s σ H Q I (w σ H Q q)⟩

def tmpN : Od → Nat
  | .slot _ => 0
  | .tmp _ _ => 1
def tmpsN : List Od → Nat
  | [] => 0
  | o :: os => tmpN o + tmpsN os

inductive OdV (cs : Cs) (σ : L2.St) (n : Nat) : Od → V → Prop
  | slot {i : Nat} {v : V} : σ[i]? = some (some v) → OdV cs σ n (.slot i) v
  | tmp {d : D} {o : Bool} {v : V} {F X : List Addr} : cs (.t n) = some ⟨v, d, F, X⟩ → FitsO o ⟨v, d, F, X⟩ → OdV cs σ n (.tmp d o) v
inductive OdsV (cs : Cs) (σ : L2.St) : Nat → List Od → List V → Prop
  | nil {n : Nat} : OdsV cs σ n [] []
  | cons {n : Nat} {o : Od} {v : V} {os : List Od} {vs : List V} : OdV cs σ n o v → OdsV cs σ (n + tmpN o) os vs → OdsV cs σ n (o :: os) (v :: vs)

theorem OdV.ext {cs cs' : Cs} {σ : L2.St} {n : Nat} {o : Od} {v : V} (h : OdV cs σ n o v) (x : Ext (n + tmpN o) cs cs') : OdV cs' σ n o v := by
  cases h with
  | slot e => exact .slot e
  | tmp e f => exact .tmp ((x.t n (by simp [tmpN])).trans e) f
theorem OdsV.ext {cs cs' : Cs} {σ : L2.St} : ∀ {n : Nat} {os : List Od} {vs : List V}, OdsV cs σ n os vs → Ext (n + tmpsN os) cs cs' → OdsV cs' σ n os vs
  | _, _, _, .nil, _ => .nil
  | n, o :: os, _, .cons h t, x => .cons (h.ext ⟨fun j hj => x.t j (by simp only [tmpsN]; omega), x.g⟩) (OdsV.ext t ⟨fun j hj => x.t j (by simp only [tmpsN]; omega), x.g⟩)
theorem OdsV.less {cs cs' : Cs} {σ : L2.St} {n : Nat} {os : List Od} {vs : List V} (h : OdsV cs σ n os vs) (x : Less cs cs') : OdsV cs' σ n os vs := h.ext x.ext

inductive FpZ (K : PySem.W.Frag) (H : Hp) : List V → List D → List Addr → Prop
  | nil : FpZ K H [] [] []
  | cons {v : V} {vs : List V} {d : D} {ds : List D} {F J : List Addr} : Fp K H v d F → FpZ K H vs ds J → FpZ K H (v :: vs) (d :: ds) (inn d F ++ J)

section
variable {K : PySem.W.Frag} {B : Bd} {H H' : Hp} {n m : Nat} {env env' : En} {σ : L2.St} {cs cs' : Cs} {C : FS}

/-- an operand's cell -/
theorem OdV.cell {o : Od} {v : V} {d : D} (w : Wd K B m env σ H cs) (h : OdV cs σ n o v) (f : fetch env o = some d) :
    ∃ k c, cs k = some c ∧ c.v = v ∧ c.d = d ∧ (match o with | .slot i => k = .s i | .tmp _ _ => k = .t n) := by
  cases h with
  | slot e =>
    rename_i i
    simp only [fetch, Option.map_eq_some_iff] at f
    obtain ⟨s, e1, e2⟩ := f
    obtain ⟨c, c1, c2, c3, c4⟩ := w.mt.slot e1
    rw [e] at c2
    exact ⟨.s i, c, c1, by simpa using c2.symm, c3.trans e2, rfl⟩
  | tmp e f' =>
    simp only [fetch, Option.some.injEq] at f
    subst f
    exact ⟨.t n, _, e, rfl, rfl, rfl⟩

/-- the operands as data; each address in their things has a cell to which it belongs -/
theorem OdsV.fp (w : Wd K B m env σ H cs) : ∀ {n : Nat} {os : List Od} {vs : List V} {ds : List D}, OdsV cs σ n os vs → fetchAll env os = some ds →
    ∃ J, FpZ K H vs ds J ∧ ∀ a ∈ J, ∃ k c, cs k = some c ∧ a ∈ inn c.d c.F ∧ ((∃ i, k = .s i ∧ Od.slot i ∈ os) ∨ ∃ j, k = .t j ∧ n ≤ j)
  | _, _, _, _, .nil, f => by
    simp only [fetchAll, Option.some.injEq] at f
    subst f
    exact ⟨[], .nil, fun a z => by cases z⟩
  | n, o :: os, v :: vs, ds, .cons h t, f => by
    simp only [fetchAll, Option.bind_eq_some_iff, Option.map_eq_some_iff] at f
    obtain ⟨d, f1, ds', f2, rfl⟩ := f
    obtain ⟨k, c, e1, e2, e3, e4⟩ := h.cell w f1
    obtain ⟨J, q1, q2⟩ := OdsV.fp w t f2
    have fp := w.gd.fp k c e1
    rw [e2, e3] at fp
    refine ⟨_, .cons fp q1, fun a ha => ?_⟩
    rcases List.mem_append.mp ha with ha | ha
    · refine ⟨k, c, e1, by rw [e3]; exact ha, ?_⟩
      cases o with
      | slot i => exact .inl ⟨i, e4, List.mem_cons_self⟩
      | tmp d o => exact .inr ⟨n, e4, Nat.le_refl _⟩
    · obtain ⟨k', c', z1, z2, z3⟩ := q2 a ha
      refine ⟨k', c', z1, z2, ?_⟩
      rcases z3 with ⟨i, y1, y2⟩ | ⟨j, y1, y2⟩
      · exact .inl ⟨i, y1, List.mem_cons_of_mem _ y2⟩
      · exact .inr ⟨j, y1, by omega⟩

/-- what is wanted of a value -/
def PostE (K : PySem.W.Frag) (B : Bd) (n : Nat) (cs : Cs) (σ : L2.St) (r : Rs) (Q : VK) : Prop :=
  ∀ v H' cs' F X, Wd K B (n + 1) r.env σ H' cs' → Ext n cs cs' → cs' (.t n) = some ⟨v, r.d, F, X⟩ → FitsO r.own ⟨v, r.d, F, X⟩ → Q v H'
def tEx (K : PySem.W.Frag) (C : FS) (ex : Ex) : TE := fun σ H Q => ∃ B n env cs r, Wd K B n env σ H cs ∧ evE C ex env = some r ∧ PostE K B n cs σ r Q
def PostO (K : PySem.W.Frag) (B : Bd) (n : Nat) (cs : Cs) (σ : L2.St) (o : Od) (env' : En) (Q : VK) : Prop :=
  ∀ v H' cs', Wd K B (n + tmpN o) env' σ H' cs' → Ext n cs cs' → OdV cs' σ n o v → Q v H'
def tOd (K : PySem.W.Frag) (C : FS) (ex : Ex) : TE := fun σ H Q => ∃ B n env cs o env', Wd K B n env σ H cs ∧ evOs C [ex] env = some ([o], env') ∧ PostO K B n cs σ o env' Q
def PostOs (K : PySem.W.Frag) (B : Bd) (n : Nat) (cs : Cs) (σ : L2.St) (os : List Od) (env' : En) (Q : List V → Hp → Prop) : Prop :=
  ∀ vs H' cs', Wd K B (n + tmpsN os) env' σ H' cs' → Ext n cs cs' → OdsV cs' σ n os vs → Q vs H'
def tOs (K : PySem.W.Frag) (C : FS) (es : List Ex) : TA := fun σ H Q => ∃ B n env cs os env', Wd K B n env σ H cs ∧ evOs C es env = some (os, env') ∧ PostOs K B n cs σ os env' Q

/-- what a primitive's own rule is to give -/
def Post (K : PySem.W.Frag) (p : Pm) (H : Hp) (J : List Addr) (r : D) (Q : VK) : Prop :=
  ∀ v H' G, Same H H' → Fp K H' v r G → (∀ a ∈ G, a ∈ J ∨ H a = none) → (newP p = true → flat r = true → ∀ a ∈ G, H a = none ∧ Mut (H' a)) → Q v H'

theorem finish_ok {p : Pm} {os : List Od} {vs : List V} {ds : List D} {r : D} {rs : Rs} {Q : VK} (w : Wd K B (n + tmpsN os) env σ H cs') (x : Ext n cs cs') (hv : OdsV cs' σ n os vs) (hd : fetchAll env os = some ds)
    (hf : finish p os env r = some rs) (hq : PostE K B n cs σ rs Q) : ∃ J, FpZ K H vs ds J ∧ Post K p H J r Q := by
  obtain ⟨J, z1, z2⟩ := hv.fp w hd
  refine ⟨J, z1, fun v H' G s fp sub new => ?_⟩
  unfold finish at hf
  by_cases hi : imm r = true
  · rw [if_pos (by simp [hi])] at hf
    cases hf
    have eG := fp.imm hi
    subst eG
    have w1 := ((w.cut n).grow s).pushImm fp
    exact hq v H' _ [] [] w1 (x.cut.trans (Nat.le_refl n) Ext.put) putC_same (fitsO_imm hi)
  · by_cases hn : (newP p && flat r) = true
    · rw [if_pos (by simp [hn])] at hf
      cases hf
      simp only [Bool.and_eq_true] at hn
      have nw := new hn.1 hn.2
      have w1 := (w.cut n).pushNew s fp (fun a ha => (nw a ha).1) fun a ha => (nw a ha).2
      refine hq v H' _ G G w1 (x.cut.trans (Nat.le_refl n) Ext.put) putC_same ?_
      unfold FitsO
      rw [if_pos (.inr rfl)]
      refine ⟨rfl, ?_⟩
      -- a flat list holds itself alone
      cases r with
      | list xs =>
        obtain ⟨a, us, G', _, eG, _, t⟩ := fp.list
        have : G' = [] := t.imm (by simpa [flat] using hn.2)
        subst this
        show G.Nodup
        rw [eG]
        simp
      | _ => simp [flat] at hn
    · rw [if_neg (by simp [hi]; simpa using hn)] at hf
      simp only [Option.map_eq_some_iff] at hf
      obtain ⟨e, h1, rfl⟩ := hf
      obtain ⟨cs1, w1, l1, o1⟩ := thawAll_ok w h1
      have w2 := (w1.cut n).pushFrz s fp fun a ha => by
        rcases sub a ha with h | h
        · right
          intro q c' e' hX
          obtain ⟨k, c, ek, ea, hk⟩ := z2 a h
          have e'' := cutT_some e'
          rcases hk with ⟨i, rfl, hi⟩ | ⟨j, rfl, hj⟩
          · obtain ⟨c1, f1, f2⟩ := o1 i hi
            obtain ⟨c0, g1, g2, g3, g4, g5⟩ := l1.s i c1 f1
            rw [ek] at g1; cases g1
            have ea' : a ∈ inn c1.d c1.F := by rw [g3, g4]; exact ea
            by_cases hq' : q = .s i
            · subst hq'
              rw [f1] at e''; cases e''
              exact f2 a hX ea'
            · exact w1.gd.dis q (.s i) c' c1 hq' e'' f1 a hX (inn_sub a ea')
          · have f1 : cs1 (.t j) = some c := (l1.t j).trans ek
            have hq' : q ≠ .t j := fun z => by subst z; rw [cutT_hi hj] at e'; cases e'
            exact w1.gd.dis q (.t j) c' c hq' e'' f1 a hX (inn_sub a ea)
        · exact .inl h
      have w2 := w2 fun a ha => by
        rcases sub a ha with h | h
        · obtain ⟨k, c, ek, ea, hk⟩ := z2 a h
          exact .inr (w.gd.rc k c ek a (inn_sub a ea))
        · exact .inl h
      refine hq v H' _ G [] w2 ((x.trans (Nat.le_refl n) l1.ext).cut.trans (Nat.le_refl n) Ext.put) putC_same ?_
      unfold FitsO
      rw [if_neg (by rintro (z | z); exact hi z; cases z)]
      exact rfl
end

/-! ### operands of one kind after another -/
section
variable {C : FS}
theorem evOs_cons {e : Ex} {es : List Ex} {env : En} {q : List Od × En} (h : evOs C (e :: es) env = some q) : ∃ o e1 os, evOs C [e] env = some ([o], e1) ∧ evOs C es e1 = some (os, q.2) ∧ q.1 = o :: os := by
  by_cases hv : ∃ i, e = .var i
  · obtain ⟨i, rfl⟩ := hv
    rw [evOs] at h
    simp only [Option.bind_eq_some_iff, Option.map_eq_some_iff] at h
    obtain ⟨s, h1, q', h2, rfl⟩ := h
    exact ⟨_, env, q'.1, by rw [evOs]; simp [h1, evOs], h2, rfl⟩
  · have hv' : ∀ i, e ≠ .var i := fun i z => hv ⟨i, z⟩
    have e1 : ∀ es env, evOs C (e :: es) env = (evE C e env).bind fun r => (evOs C es r.env).map fun q => (.tmp r.d r.own :: q.1, q.2) := fun es env => by
      cases e <;> first | rfl | exact absurd rfl (hv' _) | (rw [evOs]; intro i z; exact hv' i z)
    rw [e1] at h
    simp only [Option.bind_eq_some_iff, Option.map_eq_some_iff] at h
    obtain ⟨r, h1, q', h2, rfl⟩ := h
    exact ⟨_, r.env, q'.1, by rw [e1]; simp [h1, evOs], h2, rfl⟩
theorem evOs_one {e : Ex} {env : En} {q : List Od × En} (h : evOs C [e] env = some q) : ∃ o e1, q = ([o], e1) := by
  obtain ⟨o, e1, os, h1, h2, h3⟩ := evOs_cons h
  simp only [evOs, Option.some.injEq, Prod.mk.injEq] at h2
  exact ⟨o, q.2, by rw [← h2.1] at h3; rw [← h3]⟩
theorem evOs_ex {e : Ex} (hv : ∀ i, e ≠ .var i) (env : En) : evOs C [e] env = (evE C e env).map fun r => ([.tmp r.d r.own], r.env) := by
  cases e <;> first | exact absurd rfl (hv _) | (simp only [evOs, Option.map_some]; cases evE C _ env <;> rfl)
end
end Ev
set_option maxHeartbeats 1000000
set_option maxRecDepth 100000
/-! zip of a list and a tuple: each of the two may be either. -/
namespace Ev
open PySem PySem.Spec PyProof.Rows L2 PySem.W

/-- a list (false) or a tuple (true) -/
def Sx (h : Heap) (l : Addr) (t : Bool) (xs : Array Value) : Prop := match t with
  | true => h.IsTuple l xs
  | false => h.IsList l xs
/-- what walks it -/
def Si (h : Heap) (it l : Addr) (t : Bool) (k : Nat) : Prop := match t with
  | true => h.IsTupleIter it l k
  | false => h.IsListIter it l k
def itO (t : Bool) (l : Addr) : Obj := match t with
  | true => { cls := .type "tuple_iterator", data := .fields #[.ref l, .int 0 0] }
  | false => { cls := .type "list_iterator", data := .fields #[.ref l, .int 0 0] }
def SqX (K : PySem.W.Frag) (H : Hp) (t : Bool) (a : Addr) (xs : List V) : Prop := match t with
  | true => SqT K H a xs
  | false => SqL K H a xs
theorem Si.obj {h : Heap} {it l : Addr} {t : Bool} {k : Nat} (x : Si h it l t k) : ∃ o, h.get? it = some o ∧ ∀ v, o.data ≠ .cell v := by
  cases t
  · obtain ⟨o, e, _, d⟩ := x
    exact ⟨o, e, fun v q => by rw [d] at q; cases q⟩
  · obtain ⟨o, e, _, d⟩ := x
    exact ⟨o, e, fun v q => by rw [d] at q; cases q⟩
theorem Si.at {h h' : Heap} {it l : Addr} {t : Bool} {k : Nat} (x : Si h it l t k) (hk : ∀ o, h.get? it = some o → h'.get? it = some o) : Si h' it l t k := by
  cases t
  · obtain ⟨o, e, r⟩ := x
    exact ⟨o, hk o e, r⟩
  · obtain ⟨o, e, r⟩ := x
    exact ⟨o, hk o e, r⟩
theorem Si.new {h : Heap} {it l : Addr} {t : Bool} (e : h.get? it = some (itO t l)) : Si h it l t 0 := by
  cases t
  · exact ⟨_, e, rfl, rfl⟩
  · exact ⟨_, e, rfl, rfl⟩
theorem draws_x {P : Program} {w : World} {A : Around} (hh : A.handled = none) (it l : Addr) (hne : l ≠ it) (t : Bool) (xs : Array Value) :
    Draws P w A it [it, l] xs.size (fun i v => xs[i]? = some v) (fun i h => Si h it l t i ∧ Sx h l t xs) := by
  cases t
  · exact Draws.list hh it l hne xs
  · exact Draws.tuple hh it l hne xs
theorem begins_x (t : Bool) (l : Addr) (xs : Array Value) : Begins (.ref l) (itO t l) fun h => Sx h l t xs := by
  cases t
  · exact begins_list l xs
  · exact begins_tuple l xs
section
variable {X : Cx} {pins : List (Addr × Obj)} {σ : L2.St} {H : Hp} {s : Shared} {t : Bool} {a : Addr} {xs ys : List V}
theorem inv_sqX (I : Inv X pins σ H s) (h : SqX X.K H t a xs) : ∃ its : List Value, Vals xs its ∧ Sx s.heap a t its.toArray := by
  cases t
  · obtain ⟨its, r, p, _⟩ := I.list h
    exact ⟨its, r, p.isList⟩
  · obtain ⟨its, r, p, _⟩ := I.tuple h
    exact ⟨its, r, p⟩
theorem inv_injX (I : Inv X pins σ H s) (h : SqX X.K H t a xs) (h' : SqX X.K H t a ys) : xs = ys := by
  cases t
  · exact I.list_inj h h'
  · exact I.tuple_inj h h'
theorem Sx.lt {h : Heap} {vs : Array Value} (x : Sx h a t vs) : a < h.objs.size := by
  cases t
  · obtain ⟨_, e, _⟩ := x; exact Heap.lt_size e
  · obtain ⟨_, e, _⟩ := x; exact Heap.lt_size e
end
/-- the things of the two as they stand at each turn, in new pairs -/
def ItzM (K : PySem.W.Frag) (ta tb : Bool) (a b : Addr) : It :=
  ⟨fun i H => ∃ (xs ys : List V) (x y : V), SqX K H ta a xs ∧ SqX K H tb b ys ∧ xs[i]? = some x ∧ ys[i]? = some y,
    fun i H v H' => ∃ T x y, v = .ref T ∧ H T = none ∧ H' = upd H T (.tup [x, y]) ∧ (∀ xs, SqX K H ta a xs → xs[i]? = some x) ∧ ∀ ys, SqX K H tb b ys → ys[i]? = some y,
    fun i H => ∃ xs ys : List V, SqX K H ta a xs ∧ SqX K H tb b ys ∧ i ≤ xs.length ∧ i ≤ ys.length ∧ (i = xs.length ∨ i = ys.length)⟩
theorem sep_of {z TI TO i1 i2 a b : Addr} (D : ZipApart z TI TO i1 i2 a b) : ZipSep2 z TI TO i1 i2 [i1, a] [i2, b] where
  TIz := D.TIz
  TOz := D.TOz
  TITO := D.TITO
  TIi1 := D.TIi1
  mem1 := by simp
  zf1 := by simp [Ne.symm D.i1z, Ne.symm D.l1z]
  Tf1 := by simp [D.TOi1, Ne.symm D.l1TO]
  TIi2 := D.TIi2
  mem2 := by simp
  zf2 := by simp [Ne.symm D.i2z, Ne.symm D.l2z]
  Tf2 := by simp [D.TOi2, Ne.symm D.l2TO]
  sep1_2 := by simp [D.i12, Ne.symm D.l2i1]
  sep2_1 := by simp [Ne.symm D.i12, Ne.symm D.l1i2]
theorem turn_zipM {P : Program} {w : World} {K : PySem.W.Frag} {elts : List Expr} {kk : Nat} {tpos : Pos} {ta tb : Bool} {a b z TI TO i1 i2 : Addr} (D : ZipApart z TI TO i1 i2 a b) :
    Turn P w K (.Tuple elts kk tpos) (ItzM K ta tb a b) [z, TI, TO, i1, i2] z (fun i h => IsZip h z TI TO .none ∧ IsTupOf2 h TI (.ref i1) (.ref i2) ∧ (∃ x y, IsTupOf2 h TO x y) ∧ Si h i1 a ta i ∧ Si h i2 b tb i) where
  mem := by simp
  obj := fun i h st c hc => by
    obtain ⟨hz, hTI, ⟨x, y, hTO⟩, h1, h2⟩ := st
    have e' : c = z ∨ c = TI ∨ c = TO ∨ c = i1 ∨ c = i2 := by simpa using hc
    rcases e' with rfl | rfl | rfl | rfl | rfl
    · exact ⟨_, hz, fun v q => nomatch q⟩
    · exact ⟨_, hTI, fun v q => nomatch q⟩
    · exact ⟨_, hTO, fun v q => nomatch q⟩
    · exact h1.obj
    · exact h2.obj
  keep := fun i h h' st k => by
    obtain ⟨hz, hTI, ⟨x, y, hTO⟩, h1, h2⟩ := st
    exact ⟨k z (by simp) _ hz, k TI (by simp) _ hTI, ⟨x, y, k TO (by simp) _ hTO⟩, h1.at fun o q => k i1 (by simp) o q, h2.at fun o q => k i2 (by simp) o q⟩
  item := by
    intro X hP hw hK hc i pins s σ H E I hf st hg
    subst hP hw hK
    obtain ⟨hz, hTI, ⟨x0, y0, hTO⟩, h1, h2⟩ := st
    obtain ⟨xs, ys, x, y, hqx, hqy, hx, hy⟩ := hg
    obtain ⟨its, rv, p⟩ := inv_sqX I hqx
    obtain ⟨its2, rv2, p2⟩ := inv_sqX I hqy
    obtain ⟨u, hu, ru⟩ := rv.get hx
    obtain ⟨u2, hu2, ru2⟩ := rv2.get hy
    have hh : X.A.in1.handled = none := I.ok.hd hc
    have hzl : z < s.heap.objs.size := Heap.lt_size hz
    have hi1 : i < its.toArray.size := by rw [List.size_toArray]; exact (List.getElem?_eq_some_iff.mp hu).1
    have hi2 : i < its2.toArray.size := by rw [List.size_toArray]; exact (List.getElem?_eq_some_iff.mp hu2).1
    refine wpAny_pyNext_zipD2_item (sep_of D) (draws_x hh i1 a D.l1i1 ta its.toArray) (draws_x hh i2 b D.l2i2 tb its2.toArray) hz hTI hTO ⟨h1, p⟩ ⟨h2, p2⟩ hi1 hi2 fun y1 y2 h' tk e1 e2 z' TO' n1 n2 hT hsz hk => ?_
    have e1 : y1 = u := by
      rw [List.getElem?_toArray, hu] at e1
      exact (Option.some.inj e1).symm
    have e2 : y2 = u2 := by
      rw [List.getElem?_toArray, hu2] at e2
      exact (Option.some.inj e2).symm
    subst e1 e2
    refine ⟨_, rfl, wpAny_letOwnedTupleGo_zip (s := { s with heap := h', toks := tk }) z' fun h'' z'' sb => ?_⟩
    have ne : ∀ c, c ≠ z → h''.get? c = h'.get? c := fun c hc => sb.2 c hc
    have hT2 : h''.get? s.heap.objs.size = some { cls := .type "tuple", data := .seq #[y1, y2] } := (ne _ (Nat.ne_of_gt hzl)).trans hT
    have I1 : Inv X pins σ (upd H s.heap.objs.size (.tup [x, y])) { s with heap := h'', toks := tk } :=
      I.turnedNew (ch := [z, TI, TO, i1, i2]) (fun c o hb q => by
        simp only [List.mem_cons, List.not_mem_nil, or_false, not_or] at hb
        obtain ⟨b1, b2, b3, b4, b5⟩ := hb
        exact (ne c b1).trans (hk c o b1 b3 b4 b5 q)) hf (Nat.le_refl _) ⟨by show 2 ≤ sizeLine; decide, [y1, y2], .cons ru (.cons ru2 .nil), ⟨_, hT2, rfl, _, rfl⟩⟩
    refine ⟨.ref s.heap.objs.size, _, I1, rfl, ⟨_, x, y, rfl, I.hok.fresh (Nat.le_refl _), rfl, fun l hl => by rw [inv_injX I hl hqx]; exact hx, fun l hl => by rw [inv_injX I hl hqy]; exact hy⟩, ⟨z'', (ne _ D.TIz).trans (hk _ _ D.TIz D.TITO D.TIi1 D.TIi2 hTI), ⟨y1, y2, (ne _ D.TOz).trans TO'⟩, n1.1.at fun o q => (ne _ D.i1z).trans q, n2.1.at fun o q => (ne _ D.i2z).trans q⟩, fun c hcm => ?_⟩
    have hlt : c < s.heap.objs.size := by
      have e' : c = z ∨ c = TI ∨ c = TO ∨ c = i1 ∨ c = i2 := by simpa using hcm
      rcases e' with rfl | rfl | rfl | rfl | rfl
      · exact hzl
      · exact Heap.lt_size hTI
      · exact Heap.lt_size hTO
      · obtain ⟨_, q, _⟩ := h1.obj; exact Heap.lt_size q
      · obtain ⟨_, q, _⟩ := h2.obj; exact Heap.lt_size q
    rw [upd_ne (Nat.ne_of_lt hlt)]
    exact (hf c hcm).1
  done := by
    intro X hP hw hK hc i pins s σ H E I hf st hg
    subst hP hw hK
    obtain ⟨hz, hTI, ⟨x0, y0, hTO⟩, h1, h2⟩ := st
    obtain ⟨xs, ys, hqx, hqy, l1, l2, hend⟩ := hg
    obtain ⟨its, rv, p⟩ := inv_sqX I hqx
    obtain ⟨its2, rv2, p2⟩ := inv_sqX I hqy
    have hh : X.A.in1.handled = none := I.ok.hd hc
    rw [rv.length] at l1 hend
    rw [rv2.length] at l2 hend
    exact wpAny_pyNext_zipD2_end (sep_of D) (draws_x hh i1 a D.l1i1 ta its.toArray) (draws_x hh i2 b D.l2i2 tb its2.toArray) hz hTI hTO ⟨h1, p⟩ ⟨h2, p2⟩ (by rw [List.size_toArray]; exact l1) (by rw [List.size_toArray]; exact l2) (by rw [List.size_toArray, List.size_toArray]; exact hend) fun h' tk hk => ⟨rfl, I.turnedL (ch := [z, TI, TO, i1, i2]) (fun c o hb q => by
      simp only [List.mem_cons, List.not_mem_nil, or_false, not_or] at hb
      obtain ⟨b1, b2, b3, b4, b5⟩ := hb
      exact hk c o b1 b3 b4 b5 q) hf⟩
  self := fun A i s Q E st h => wpAny_pyIter_zip st.1 h
def iZipM (K : PySem.W.Frag) (ta : TA) : TI := fun σ H R => ta σ H fun vs H1 => ∃ a b ua ub xs ys, vs = [.ref a, .ref b] ∧ SqX K H1 ua a xs ∧ SqX K H1 ub b ys ∧ R (ItzM K ua ub a b) H1
theorem pi_zipM {X : Cx} {e e2 : Expr} {ta : TA} {p pos tpos : Pos} {elts : List Expr} {kk : Nat} (hg : Gl X "zip") (hm : X.mg "zip" = none) (ha : PA X [e, e2] ta)
    (hs : starEach [e, e2] X.env = (false, eval e X.env) :: starEach [e2] X.env) (hpl : (PySem.backTo pos (starEach [e2] X.env)).any (·.1) = false) :
    PI X (.Tuple elts kk tpos) (.Call (.Name "zip" p) [e, e2] [] pos) (iZipM X.K ta) := by
  refine ⟨fun pins s σ H R I h => ?_⟩
  refine Call_ (ld_blt I hg hm PyProof.Rows.boot_zip (PyProof.Rows.callWith_type1 (thn (ha.run pos pins s σ H _ I h) fun us s1 ⟨vs, H1, I1, r1, q1⟩ => ?_) hs hpl))
  obtain ⟨a, b, ua, ub, xs, ys, rfl, hqx, hqy, q⟩ := q1
  obtain ⟨v1, v2, rfl, r, r'⟩ : ∃ v1 v2, us = [v1, v2] ∧ RelV (.ref a) v1 ∧ RelV (.ref b) v2 := by
    cases r1 with
    | cons r rr =>
      cases rr with
      | cons r' rr => cases rr; exact ⟨_, _, rfl, r, r'⟩
  have r : v1 = .ref a := r
  have r' : v2 = .ref b := r'
  subst r r'
  obtain ⟨its, rv, p1⟩ := inv_sqX I1 hqx
  obtain ⟨its2, rv2, p2⟩ := inv_sqX I1 hqy
  refine zip_begins2 (begins_x ua a its.toArray) (begins_x ub b its2.toArray) p1 p2 fun h' hz hTI hTO h1 h2 hsz hk => wpAny_pyIter_zip hz ?_
  have fresh5 : ∀ c, c ∈ [s1.heap.objs.size + 4, s1.heap.objs.size + 2, s1.heap.objs.size + 3, s1.heap.objs.size, s1.heap.objs.size + 1] → FpOk X pins H1 c := fun c hcm => by
    have hle : s1.heap.objs.size ≤ c := by
      simp only [List.mem_cons, List.not_mem_nil, or_false] at hcm
      rcases hcm with z | z | z | z | z <;> rw [z] <;> first | exact Nat.le_refl _ | exact Nat.le_add_right _ _
    exact I1.fpOk hle (I1.hok.fresh hle)
  exact ⟨s1.heap.objs.size + 4, [s1.heap.objs.size + 4, s1.heap.objs.size + 2, s1.heap.objs.size + 3, s1.heap.objs.size, s1.heap.objs.size + 1], _, _, H1, rfl, I1.kept (t' := s1.toks) hk, turn_zipM (PySem.W.ktu_apart s1.heap.objs.size a b p1.lt p2.lt), ⟨hz, hTI, ⟨_, _, hTO⟩, .new h1, .new h2⟩, fresh5, q⟩
end Ev
set_option maxHeartbeats 1000000
/-! What each form computes, as HandS's rules say it. -/
namespace Ev
open PySem PySem.Spec PyProof.Rows L2
variable [Tb]

abbrev SE (X : Cx) (C : FS) (ex : Ex) (e : Expr) : Prop := PE X e (tEx X.K C ex)
abbrev SO (X : Cx) (C : FS) (ex : Ex) (e : Expr) : Prop := PE X e (tOd X.K C ex)
def tTt (K : PySem.W.Frag) (C : FS) (ex : Ex) : TT := fun σ H Q => ∃ B n env cs r k, Wd K B n env σ H cs ∧ evE C ex env = some r ∧ asB r.d = some k ∧ ∀ H' cs', Wd K B n r.env σ H' cs' → Ext n cs cs' → Q k H'
abbrev ST (X : Cx) (C : FS) (ex : Ex) (e : Expr) : Prop := PT X e (tTt X.K C ex)

def PrOk2 (K : PySem.W.Frag) (p : Pm) (R : R2) : Prop := ∀ x y dx dy F G r H Q, Fp K H x dx F → Fp K H y dy G → pm2 p dx dy = some r → Post K p H (inn dx F ++ (inn dy G ++ [])) r Q → R x y H Q
def PrOk1 (K : PySem.W.Frag) (p : Pm) (R : V → Hp → VK → Prop) : Prop := ∀ x dx F r H Q, Fp K H x dx F → pm1 p dx = some r → Post K p H (inn dx F ++ []) r Q → R x H Q

section
variable {X : Cx} {C : FS}

theorem so_of_se {ex : Ex} {e : Expr} (hv : ∀ i, ex ≠ .var i) (h : SE X C ex e) : SO X C ex e := PE_imp h fun σ H Q q => by
  obtain ⟨B, n, env, cs, o, env', w, ho, hq⟩ := q
  rw [evOs_ex hv] at ho
  simp only [Option.map_eq_some_iff, Prod.mk.injEq, List.cons.injEq, and_true] at ho
  obtain ⟨r, h1, h2, rfl⟩ := ho
  subst h2
  exact ⟨B, n, env, cs, r, w, h1, fun v H' cs' F X' w' x e1 f => hq v H' cs' w' x (.tmp e1 f)⟩

/-- a test from a value -/
theorem asB_eq {d : D} {k : Bool} (h : asB d = some k) : d = .bool k := by
  cases d <;> simp [asB] at h
  rw [h]
theorem st_of_se {ex : Ex} {e : Expr} (h : SE X C ex e) (he : ∀ whole, isTrue e X.env whole = (do let v ← whole; standAt e.pos; holding [v] (truthy v))) : ST X C ex e := by
  have p := pt_val h he
  refine ⟨fun pins s σ H Q I q => p.run pins s σ H Q I ?_⟩
  obtain ⟨B, n, env, cs, r, k, w, h1, h2, hq⟩ := q
  refine ⟨B, n, env, cs, r, w, h1, fun v H' cs' F X' w' x e1 f => ?_⟩
  have fp := w'.gd.fp _ _ e1
  rw [asB_eq h2] at fp
  cases fp
  exact ⟨k, rfl, hq H' _ (w'.cut n) x.cut⟩
theorem PT_imp {e : Expr} {t t' : TT} (h : PT X e t) (w : ∀ σ H Q, t' σ H Q → t σ H Q) : PT X e t' := ⟨fun pins s σ H Q I q => h.run pins s σ H Q I (w σ H Q q)⟩

/-- how a value that is a truth value goes on -/
theorem bool_post {K : PySem.W.Frag} {B : Bd} {n : Nat} {cs : Cs} {σ : L2.St} {k : Bool} {e : En} {Q : VK} (hq : PostE K B n cs σ ⟨.bool k, true, e⟩ Q) {H' : Hp} {cs' : Cs} (w : Wd K B n e σ H' cs') (x : Ext n cs cs') : Q (.bl k) H' :=
  hq (.bl k) H' _ [] [] (w.pushImm (.bl k)) (x.trans (Nat.le_refl n) Ext.put) putC_same (fitsO_imm rfl)

theorem se_cst {e : Expr} {v : V} {d : D} (h : PE X e (tC v)) (hd : ∀ H, Fp X.K H v d []) (hi : imm d = true) : SE X C (.cst d) e := PE_imp h fun σ H Q q => by
  obtain ⟨B, n, env, cs, r, w, h1, hq⟩ := q
  simp only [evE, Option.some.injEq] at h1
  subst h1
  exact hq v H _ [] [] (w.pushImm (hd H)) Ext.put putC_same (fitsO_imm hi)

/-- a slot read -/
theorem so_var {e : Expr} {i : Nat} (h : PE X e (tVar i)) : SO X C (.var i) e := PE_imp h fun σ H Q q => by
  obtain ⟨B, n, env, cs, o, env', w, ho, hq⟩ := q
  simp only [evOs, Option.bind_eq_some_iff, Option.map_eq_some_iff, Option.some.injEq] at ho
  obtain ⟨s, h1, q', rfl, h2⟩ := ho
  simp only [Prod.mk.injEq, List.cons.injEq, and_true] at h2
  obtain ⟨rfl, rfl⟩ := h2
  obtain ⟨c, c1, c2, c3, c4⟩ := w.mt.slot h1
  refine ⟨c.v, c2, ?_⟩
  by_cases hi : imm s.d = true
  · rw [if_pos hi] at hq
    have fp := w.gd.fp _ c c1
    rw [c3] at fp
    have eF := fp.imm hi
    rw [eF] at fp
    exact hq c.v H _ (w.pushImm fp) Ext.put (.tmp putC_same (fitsO_imm hi))
  · rw [if_neg hi] at hq
    exact hq c.v H cs w Ext.refl (.slot c2)

theorem se_var {e : Expr} {i : Nat} (h : PE X e (tVar i)) : SE X C (.var i) e := PE_imp h fun σ H Q q => by
  obtain ⟨B, n, env, cs, r, w, h1, hq⟩ := q
  simp only [evE, readV, Option.bind_eq_some_iff] at h1
  obtain ⟨s, h1, h2⟩ := h1
  obtain ⟨c, c1, c2, c3, c4⟩ := w.mt.slot h1
  refine ⟨c.v, c2, ?_⟩
  by_cases hi : imm s.d = true
  · rw [if_pos hi] at h2
    cases h2
    have fp := w.gd.fp _ c c1
    rw [c3] at fp
    have eF := fp.imm hi
    rw [eF] at fp
    exact hq c.v H _ _ _ (w.pushImm fp) Ext.put putC_same (fitsO_imm hi)
  · rw [if_neg hi] at h2
    simp only [Option.map_eq_some_iff] at h2
    obtain ⟨e', h3, rfl⟩ := h2
    obtain ⟨cs1, w1, l1, c', e1, e2⟩ := freeze1_ok w h3
    obtain ⟨c0, g1, g2, g3, g4, g5⟩ := l1.s i c' e1
    rw [c1] at g1; cases g1
    have fp := w1.gd.fp _ c' e1
    rw [g2, g3, c3] at fp
    refine hq c.v H _ c'.F [] (w1.pushFrz (Same.refl H) fp (fun a ha => .inr fun q cq eq hX => ?_) fun a ha => .inr (w1.gd.rc _ c' e1 a ha)) (l1.ext.trans (Nat.le_refl n) Ext.put) putC_same ?_
    · by_cases hk : q = .s i
      · subst hk; rw [e1] at eq; cases eq; rw [e2] at hX; cases hX
      · exact w1.gd.dis q (.s i) cq c' hk eq e1 a hX ha
    · unfold FitsO
      rw [if_neg (by rintro (z | z); exact hi z; cases z)]
      exact rfl

/-- one operand, then another -/
theorem tOd2 {a b : Ex} {K : PySem.W.Frag} {σ : L2.St} {H : Hp} {B : Bd} {n : Nat} {env : En} {cs : Cs} {os : List Od} {env' : En} {R : V → V → Hp → Prop}
    (w : Wd K B n env σ H cs) (h : evOs C [a, b] env = some (os, env')) (hq : ∀ x y H' cs', Wd K B (n + tmpsN os) env' σ H' cs' → Ext n cs cs' → OdsV cs' σ n os [x, y] → R x y H') :
    tOd K C a σ H fun x H1 => tOd K C b σ H1 fun y H2 => R x y H2 := by
  obtain ⟨oa, e1, os1, h1, h2, h3⟩ := evOs_cons h
  obtain ⟨ob, e2, h4⟩ := evOs_one h2
  simp only [Prod.mk.injEq] at h4
  obtain ⟨rfl, rfl⟩ := h4
  have h3 : os = [oa, ob] := h3
  subst h3
  refine ⟨B, n, env, cs, oa, e1, w, h1, fun x H1 cs1 w1 x1 v1 => ?_⟩
  refine ⟨B, n + tmpN oa, e1, cs1, ob, _, w1, h2, fun y H2 cs2 w2 x2 v2 => ?_⟩
  refine hq x y H2 cs2 (by simpa [tmpsN, Nat.add_assoc] using w2) (x1.trans (Nat.le_add_right _ _) x2) (.cons (v1.ext x2) (.cons v2 .nil))

theorem fetchAll_len {env : En} : ∀ {os : List Od} {ds : List D}, fetchAll env os = some ds → ds.length = os.length
  | [], ds, h => by simp only [fetchAll, Option.some.injEq] at h; subst h; rfl
  | o :: os, ds, h => by
    simp only [fetchAll, Option.bind_eq_some_iff, Option.map_eq_some_iff] at h
    obtain ⟨d, h1, ds', h2, rfl⟩ := h
    simp [fetchAll_len h2]
theorem evOs_len {env : En} : ∀ {es : List Ex} {q : List Od × En}, evOs C es env = some q → q.1.length = es.length := by
  intro es
  induction es generalizing env with
  | nil => intro q h; simp only [evOs, Option.some.injEq] at h; subst h; rfl
  | cons e es ih =>
    intro q h
    obtain ⟨o, e1, os, h1, h2, h3⟩ := evOs_cons h
    rw [h3]
    have := ih h2
    simp at this ⊢
    exact this

theorem se_prim2 {p : Pm} {a b : Ex} {e : Expr} {R : R2} (h : PE X e (tOp R (tOd X.K C a) (tOd X.K C b))) (hp : PrOk2 X.K p R) : SE X C (.prim p [a, b]) e := PE_imp h fun σ H Q q => by
  obtain ⟨B, n, env, cs, r, w, h1, hq⟩ := q
  simp only [evE, Option.bind_eq_some_iff] at h1
  obtain ⟨⟨os, e1⟩, h1, ds, h2, d, h3, h4⟩ := h1
  refine tOd2 w h1 fun x y H' cs' w' x' v' => ?_
  obtain ⟨J, z, hP⟩ := finish_ok w' x' v' h2 h4 hq
  obtain ⟨⟩ | ⟨f1, t⟩ := z
  obtain ⟨⟩ | ⟨f2, t⟩ := t
  cases t
  exact hp _ _ _ _ _ _ _ _ _ f1 f2 h3 hP

theorem se_prim1 {p : Pm} {a : Ex} {e : Expr} {R : V → Hp → VK → Prop} (h : PE X e (tUn R (tOd X.K C a))) (hp : PrOk1 X.K p R) : SE X C (.prim p [a]) e := PE_imp h fun σ H Q q => by
  obtain ⟨B, n, env, cs, r, w, h1, hq⟩ := q
  simp only [evE, Option.bind_eq_some_iff] at h1
  obtain ⟨⟨os, e1⟩, h1, ds, h2, d, h3, h4⟩ := h1
  obtain ⟨o, e2, h5⟩ := evOs_one h1
  simp only [Prod.mk.injEq] at h5
  obtain ⟨rfl, rfl⟩ := h5
  refine ⟨B, n, env, cs, o, _, w, h1, fun x H' cs' w' x' v' => ?_⟩
  obtain ⟨J, z, hP⟩ := finish_ok (os := [o]) (by simpa [tmpsN] using w') x' (.cons v' .nil) h2 h4 hq
  obtain ⟨⟩ | ⟨f1, t⟩ := z
  cases t
  exact hp _ _ _ _ _ _ f1 h3 hP

/-! ### and, or, not, if -/
theorem se_not {a : Ex} {ea e : Expr} (h : ∀ ta, PE X ea ta → PE X e (tNotV ta)) (ha : SE X C a ea) : SE X C (.notE a) e := PE_imp (h _ ha) fun σ H Q q => by
  obtain ⟨B, n, env, cs, r, w, h1, hq⟩ := q
  simp only [evE, Option.bind_eq_some_iff, Option.map_eq_some_iff] at h1
  obtain ⟨r1, h1, k, h2, rfl⟩ := h1
  refine ⟨B, n, env, cs, r1, w, h1, fun v H' cs' F X' w' x e1 f => ?_⟩
  have fp := w'.gd.fp _ _ e1
  rw [asB_eq h2] at fp
  cases fp
  exact ⟨k, rfl, bool_post hq (w'.cut n) x.cut⟩
theorem st_not {a : Ex} {ea : Expr} {pos : Pos} (ha : ST X C a ea) : ST X C (.notE a) (.UnaryOp .Not ea pos) := PT_imp (pt_not ha) fun σ H Q q => by
  obtain ⟨B, n, env, cs, r, k, w, h1, h2, hq⟩ := q
  simp only [evE, Option.bind_eq_some_iff, Option.map_eq_some_iff] at h1
  obtain ⟨r1, h1, k1, h3, rfl⟩ := h1
  have : k = !k1 := by simpa [asB] using h2.symm
  subst this
  exact ⟨B, n, env, cs, r1, k1, w, h1, h3, hq⟩

theorem se_and {a b : Ex} {ea eb : Expr} {rest : List Expr} {pos : Pos} (ha : SE X C a ea) (hb : SE X C b (.BoolOp .And (eb :: rest) pos)) : SE X C (.andE a b) (.BoolOp .And (ea :: eb :: rest) pos) :=
  PE_imp (pe_and ha hb) fun σ H Q q => by
    obtain ⟨B, n, env, cs, r, w, h1, hq⟩ := q
    simp only [evE, Option.bind_eq_some_iff] at h1
    obtain ⟨r1, h1, k, h2, h3⟩ := h1
    refine ⟨B, n, env, cs, r1, w, h1, fun v H' cs' F X' w' x e1 f => ?_⟩
    have fp := w'.gd.fp _ _ e1
    rw [asB_eq h2] at fp
    cases fp
    refine ⟨k, rfl, ?_⟩
    cases k with
    | false =>
      simp only [Bool.false_eq_true, if_false, Option.some.injEq] at h3 ⊢
      subst h3
      exact bool_post hq (w'.cut n) x.cut
    | true =>
      simp only [if_true, Option.bind_eq_some_iff, Option.map_eq_some_iff] at h3 ⊢
      obtain ⟨r2, h4, k2, h5, rfl⟩ := h3
      refine ⟨B, n, r1.env, _, r2, w'.cut n, h4, fun v2 H2 cs2 F2 X2 w2 x2 e2 f2 => ?_⟩
      have fp := w2.gd.fp _ _ e2
      rw [asB_eq h5] at fp
      cases fp
      exact bool_post hq (w2.cut n) ((x.cut.trans (Nat.le_refl n) x2).cut)
theorem se_or {a b : Ex} {ea eb : Expr} {rest : List Expr} {pos : Pos} (ha : SE X C a ea) (hb : SE X C b (.BoolOp .Or (eb :: rest) pos)) : SE X C (.orE a b) (.BoolOp .Or (ea :: eb :: rest) pos) :=
  PE_imp (pe_or ha hb) fun σ H Q q => by
    obtain ⟨B, n, env, cs, r, w, h1, hq⟩ := q
    simp only [evE, Option.bind_eq_some_iff] at h1
    obtain ⟨r1, h1, k, h2, h3⟩ := h1
    refine ⟨B, n, env, cs, r1, w, h1, fun v H' cs' F X' w' x e1 f => ?_⟩
    have fp := w'.gd.fp _ _ e1
    rw [asB_eq h2] at fp
    cases fp
    refine ⟨k, rfl, ?_⟩
    cases k with
    | true =>
      simp only [if_true, Option.some.injEq] at h3 ⊢
      subst h3
      exact bool_post hq (w'.cut n) x.cut
    | false =>
      simp only [Bool.false_eq_true, if_false, Option.bind_eq_some_iff, Option.map_eq_some_iff] at h3 ⊢
      obtain ⟨r2, h4, k2, h5, rfl⟩ := h3
      refine ⟨B, n, r1.env, _, r2, w'.cut n, h4, fun v2 H2 cs2 F2 X2 w2 x2 e2 f2 => ?_⟩
      have fp := w2.gd.fp _ _ e2
      rw [asB_eq h5] at fp
      cases fp
      exact bool_post hq (w2.cut n) ((x.cut.trans (Nat.le_refl n) x2).cut)
/-- as tests; W the rule's own form -/
abbrev SW (X : Cx) (C : FS) (ex : Ex) (e : Expr) : Prop := PW X e (tTt X.K C ex)
theorem PW_imp {e : Expr} {t t' : TT} (h : PW X e t) (w : ∀ σ H Q, t' σ H Q → t σ H Q) : PW X e t' := ⟨fun wh pins s σ H Q I q => h.run wh pins s σ H Q I (w σ H Q q)⟩
theorem sw_and {a b : Ex} {ea eb : Expr} {rest : List Expr} {pos : Pos} (ha : ST X C a ea) (hb : SW X C b (.BoolOp .And (eb :: rest) pos)) : SW X C (.andE a b) (.BoolOp .And (ea :: eb :: rest) pos) :=
  PW_imp (pw_and ha hb) fun σ H Q q => by
    obtain ⟨B, n, env, cs, r, k, w, h1, hk, hq⟩ := q
    simp only [evE, Option.bind_eq_some_iff] at h1
    obtain ⟨r1, h1, k1, h2, h3⟩ := h1
    refine ⟨B, n, env, cs, r1, k1, w, h1, h2, fun H' cs' w' x => ?_⟩
    cases k1 with
    | false =>
      simp only [Bool.false_eq_true, if_false, Option.some.injEq] at h3 ⊢
      subst h3
      have : k = false := by simpa [asB] using hk.symm
      subst this
      exact hq H' cs' w' x
    | true =>
      simp only [if_true, Option.bind_eq_some_iff, Option.map_eq_some_iff] at h3 ⊢
      obtain ⟨r2, h4, k2, h5, rfl⟩ := h3
      have : k = k2 := by simpa [asB] using hk.symm
      subst this
      exact ⟨B, n, r1.env, cs', r2, k, w', h4, h5, fun H2 cs2 w2 x2 => hq H2 cs2 w2 (x.trans (Nat.le_refl n) x2)⟩
theorem sw_or {a b : Ex} {ea eb : Expr} {rest : List Expr} {pos : Pos} (ha : ST X C a ea) (hb : SW X C b (.BoolOp .Or (eb :: rest) pos)) : SW X C (.orE a b) (.BoolOp .Or (ea :: eb :: rest) pos) :=
  PW_imp (pw_or ha hb) fun σ H Q q => by
    obtain ⟨B, n, env, cs, r, k, w, h1, hk, hq⟩ := q
    simp only [evE, Option.bind_eq_some_iff] at h1
    obtain ⟨r1, h1, k1, h2, h3⟩ := h1
    refine ⟨B, n, env, cs, r1, k1, w, h1, h2, fun H' cs' w' x => ?_⟩
    cases k1 with
    | true =>
      simp only [if_true, Option.some.injEq] at h3 ⊢
      subst h3
      have : k = true := by simpa [asB] using hk.symm
      subst this
      exact hq H' cs' w' x
    | false =>
      simp only [Bool.false_eq_true, if_false, Option.bind_eq_some_iff, Option.map_eq_some_iff] at h3 ⊢
      obtain ⟨r2, h4, k2, h5, rfl⟩ := h3
      have : k = k2 := by simpa [asB] using hk.symm
      subst this
      exact ⟨B, n, r1.env, cs', r2, k, w', h4, h5, fun H2 cs2 w2 x2 => hq H2 cs2 w2 (x.trans (Nat.le_refl n) x2)⟩
theorem sw_and1 {a : Ex} {ea : Expr} {pos : Pos} (ha : ST X C a ea) : SW X C a (.BoolOp .And [ea] pos) := pw_and1 ha
theorem sw_or1 {a : Ex} {ea : Expr} {pos : Pos} (ha : ST X C a ea) : SW X C a (.BoolOp .Or [ea] pos) := pw_or1 ha

theorem se_ite {c a b : Ex} {ec ea eb : Expr} {pos : Pos} (hc : ST X C c ec) (ha : SE X C a ea) (hb : SE X C b eb) : SE X C (.ite c a b) (.IfExp ec ea eb pos) := PE_imp (pe_ifExp hc ha hb) fun σ H Q q => by
  obtain ⟨B, n, env, cs, r, w, h1, hq⟩ := q
  simp only [evE, Option.bind_eq_some_iff] at h1
  obtain ⟨r1, h1, k1, h2, h3⟩ := h1
  refine ⟨B, n, env, cs, r1, k1, w, h1, h2, fun H' cs' w' x => ?_⟩
  cases k1 with
  | true => exact ⟨B, n, r1.env, cs', r, w', by simpa using h3, fun v H2 cs2 F X' w2 x2 e f => hq v H2 cs2 F X' w2 (x.trans (Nat.le_refl n) x2) e f⟩
  | false => exact ⟨B, n, r1.env, cs', r, w', by simpa using h3, fun v H2 cs2 F X' w2 x2 e f => hq v H2 cs2 F X' w2 (x.trans (Nat.le_refl n) x2) e f⟩
end
end Ev
set_option maxHeartbeats 1000000
/-! Arguments, displays, calls. -/
namespace Ev
open PySem PySem.Spec PyProof.Rows L2
variable [Tb]

/-- operands and their texts -/
inductive SOs (X : Cx) (C : FS) : List Ex → List Expr → Prop
  | nil : SOs X C [] []
  | cons {a : Ex} {e : Expr} {as : List Ex} {es : List Expr} : SO X C a e → (∀ x p, e ≠ .Starred x p) → SOs X C as es → SOs X C (a :: as) (e :: es)

theorem star_no {e : Expr} {es : List Expr} {env : Env} (h : ∀ x p, e ≠ .Starred x p) : starEach (e :: es) env = (false, eval e env) :: starEach es env := by
  cases e <;> first | rfl | exact absurd rfl (h _ _)

section
variable {X : Cx} {C : FS}
theorem PA_imp {es : List Expr} {t t' : TA} (h : PA X es t) (w : ∀ σ H Q, t' σ H Q → t σ H Q) : PA X es t' := ⟨fun pos pins s σ H Q I q => h.run pos pins s σ H Q I (w σ H Q q)⟩

theorem sos_pa : ∀ {as : List Ex} {es : List Expr}, SOs X C as es → PA X es (tOs X.K C as)
  | _, _, .nil => PA_imp pa_nil fun σ H Q q => by
    obtain ⟨B, n, env, cs, os, env', w, h1, hq⟩ := q
    simp only [evOs, Option.some.injEq, Prod.mk.injEq] at h1
    obtain ⟨rfl, rfl⟩ := h1
    exact hq [] H cs (by simpa [tmpsN] using w) Ext.refl .nil
  | _, _, .cons (a := a) (as := as) h hs t => PA_imp (pa_cons h (sos_pa t) (star_no hs)) fun σ H Q q => by
    obtain ⟨B, n, env, cs, os, env', w, h1, hq⟩ := q
    obtain ⟨o, e1, os', h2, h3, h4⟩ := evOs_cons h1
    have h4 : os = o :: os' := h4
    subst h4
    refine ⟨B, n, env, cs, o, e1, w, h2, fun x H1 cs1 w1 x1 v1 => ?_⟩
    refine ⟨B, n + tmpN o, e1, cs1, os', env', w1, h3, fun xs H2 cs2 w2 x2 v2 => ?_⟩
    refine hq (x :: xs) H2 cs2 (by simpa [tmpsN, Nat.add_assoc] using w2) (x1.trans (Nat.le_add_right _ _) x2) (.cons (v1.ext ⟨fun j hj => x2.t j (by omega), x2.g⟩) v2)
theorem OdsV.len {cs : Cs} {σ : L2.St} : ∀ {n : Nat} {os : List Od} {vs : List V}, OdsV cs σ n os vs → vs.length = os.length
  | _, _, _, .nil => rfl
  | _, _, _, .cons _ t => by simp [OdsV.len t]
end

section
variable {K : PySem.W.Frag} {B : Bd} {H H' : Hp} {m : Nat} {σ : L2.St}

theorem readV_ok {n : Nat} {env : En} {cs : Cs} {i : Nat} {r : Rs} (w : Wd K B n env σ H cs) (h : readV env i = some r) :
    ∃ cs1 c, Wd K B n r.env σ H cs1 ∧ Less cs cs1 ∧ cs1 (.s i) = some c ∧ σ[i]? = some (some c.v) ∧ c.d = r.d ∧ ((imm r.d = true ∧ r.own = true ∧ c.F = [] ∧ c.X = []) ∨ (imm r.d = false ∧ r.own = false ∧ c.X = [])) := by
  simp only [readV, Option.bind_eq_some_iff] at h
  obtain ⟨s, h1, h2⟩ := h
  obtain ⟨c, c1, c2, c3, c4⟩ := w.mt.slot h1
  by_cases hi : imm s.d = true
  · rw [if_pos hi] at h2
    cases h2
    have fp := w.gd.fp _ c c1
    rw [c3] at fp
    have eF := fp.imm hi
    refine ⟨cs, c, w, Less.refl cs, c1, c2, c3, .inl ⟨hi, rfl, eF, ?_⟩⟩
    cases hX : c.X with
    | nil => rfl
    | cons a r => have := c4.sub a (by rw [hX]; exact List.mem_cons_self); rw [eF] at this; cases this
  · rw [if_neg hi] at h2
    simp only [Option.map_eq_some_iff] at h2
    obtain ⟨e', h3, rfl⟩ := h2
    obtain ⟨cs1, w1, l1, c', e1, e2⟩ := freeze1_ok w h3
    obtain ⟨c0, g1, g2, g3, g4, g5⟩ := l1.s i c' e1
    rw [c1] at g1; cases g1
    exact ⟨cs1, c', w1, l1, e1, by rw [g2]; exact c2, by rw [g3]; exact c3, .inr ⟨by simpa using hi, rfl, e2⟩⟩

theorem Less.at {cs cs' : Cs} (l : Less cs cs') {k : Ky} {c : Cell} (e : cs k = some c) : ∃ c', cs' k = some c' ∧ c'.v = c.v ∧ c'.d = c.d ∧ c'.F = c.F ∧ ∀ a ∈ c'.X, a ∈ c.X := by
  cases k with
  | s i => exact l.b i c e
  | t j => exact ⟨c, by rw [l.t]; exact e, rfl, rfl, rfl, fun _ h => h⟩
  | g j => exact ⟨c, by rw [l.g]; exact e, rfl, rfl, rfl, fun _ h => h⟩
theorem nil_of {α : Type} {X Y : List α} (h : ∀ a ∈ X, a ∈ Y) (e : Y = []) : X = [] := by
  cases X with
  | nil => rfl
  | cons a r => have := h a List.mem_cons_self; rw [e] at this; cases this

theorem things_cons {d : D} {o : Bool} {rs : List (D × Bool)} : things ((d, o) :: rs) = d :: things rs := rfl
theorem allOwn_cons {d : D} {o : Bool} {rs : List (D × Bool)} : allOwn ((d, o) :: rs) = ((imm d || o) && allOwn rs) := rfl

theorem gather_ok : ∀ {os : List Od} {vs : List V} {n : Nat} {env : En} {cs : Cs} {q : List (D × Bool) × En}, Wd K B m env σ H cs → OdsV cs σ n os vs → gather env os = some q →
    ∃ cs1 F, Wd K B m q.2 σ H cs1 ∧ Less cs cs1 ∧ FpAll K H vs (things q.1) F ∧
      (∀ a ∈ F, ∃ k c, cs1 k = some c ∧ a ∈ c.F ∧ ((∃ j, k = .t j ∧ n ≤ j) ∨ c.X = [])) ∧
      (allOwn q.1 = true → F.Nodup ∧ ∀ a ∈ F, ∃ j c, n ≤ j ∧ cs1 (.t j) = some c ∧ a ∈ c.X)
  | [], _, n, env, cs, q, w, .nil, h => by
    simp only [gather, Option.some.injEq] at h
    subst h
    exact ⟨cs, [], w, Less.refl cs, .nil, fun a z => (by cases z), fun _ => ⟨List.nodup_nil, fun a z => (by cases z)⟩⟩
  | o :: os, v :: vs, n, env, cs, q, w, .cons hv t, h => by
    simp only [gather, Option.bind_eq_some_iff, Option.map_eq_some_iff] at h
    obtain ⟨r, h1, q', h2, rfl⟩ := h
    cases hv with
    | slot e =>
      rename_i i
      have h1 : readV env i = some r := h1
      obtain ⟨cs1, c, w1, l1, c1, c2, c3, c4⟩ := readV_ok w h1
      obtain ⟨cs2, F, w2, l2, f2, A, B⟩ := gather_ok w1 (t.less l1) h2
      obtain ⟨c', d1, d2, d3, d4, d5⟩ := l2.at c1
      have fp := w2.gd.fp _ c' d1
      rw [e] at c2
      have ev : c.v = v := by simpa using c2.symm
      rw [d2, d3, ev, c3] at fp
      have X0 : c'.X = [] := nil_of d5 (c4.elim (fun z => z.2.2.2) fun z => z.2.2)
      refine ⟨cs2, c'.F ++ F, w2, l1.trans l2, .cons fp f2, fun a ha => ?_, fun hO => ?_⟩
      · rcases List.mem_append.mp ha with ha | ha
        · exact ⟨_, c', d1, ha, .inr X0⟩
        · obtain ⟨k, c0, z1, z2, z3⟩ := A a ha
          refine ⟨k, c0, z1, z2, ?_⟩
          rcases z3 with ⟨j, y1, y2⟩ | z3
          · exact .inl ⟨j, y1, by simpa [tmpN] using y2⟩
          · exact .inr z3
      · rw [allOwn_cons, Bool.and_eq_true] at hO
        obtain ⟨b1, b2⟩ := B hO.2
        have eF : c'.F = [] := by
          rcases c4 with z | z
          · rw [d4]; exact z.2.2.1
          · rw [z.1, z.2.1] at hO; simp at hO
        rw [eF]
        refine ⟨b1, fun a ha => ?_⟩
        obtain ⟨j, c0, z1, z2⟩ := b2 a ha
        exact ⟨j, c0, by simpa [tmpN] using z1, z2⟩
    | tmp e f =>
      rename_i d o F1 X1
      simp only [odOwn, Option.some.injEq] at h1
      subst h1
      obtain ⟨cs2, F, w2, l2, f2, A, B⟩ := gather_ok w t h2
      have e' : cs2 (.t n) = some ⟨v, d, F1, X1⟩ := (l2.t n).trans e
      have fp := w2.gd.fp _ _ e'
      refine ⟨cs2, F1 ++ F, w2, l2, .cons fp f2, fun a ha => ?_, fun hO => ?_⟩
      · rcases List.mem_append.mp ha with ha | ha
        · exact ⟨_, _, e', ha, .inl ⟨n, rfl, Nat.le_refl n⟩⟩
        · obtain ⟨k, c0, z1, z2, z3⟩ := A a ha
          refine ⟨k, c0, z1, z2, ?_⟩
          rcases z3 with ⟨j, y1, y2⟩ | z3
          · exact .inl ⟨j, y1, by simp only [tmpN] at y2; omega⟩
          · exact .inr z3
      · rw [allOwn_cons, Bool.and_eq_true] at hO
        obtain ⟨b1, b2⟩ := B hO.2
        have own : imm d = true ∨ o = true := by simpa using hO.1
        unfold FitsO at f
        rw [if_pos own] at f
        obtain ⟨f1, f2'⟩ := f
        have f1 : X1 = F1 := f1
        have f2' : F1.Nodup := f2'
        refine ⟨List.nodup_append.mpr ⟨f2', b1, fun a ha b hb z => ?_⟩, fun a ha => ?_⟩
        · subst z
          obtain ⟨j, c0, z1, z2, z3⟩ := b2 a hb
          exact w2.gd.dis (.t j) (.t n) c0 _ (by intro z; cases z; simp only [tmpN] at z1; omega) z2 e' a z3 ha
        · rcases List.mem_append.mp ha with ha | ha
          · exact ⟨n, _, Nat.le_refl n, e', by rw [f1]; exact ha⟩
          · obtain ⟨j, c0, z1, z2⟩ := b2 a ha
            exact ⟨j, c0, by simp only [tmpN] at z1; omega, z2⟩

/-- what was gathered goes into a new thing at p; the temporaries are taken off -/
theorem gather_end {n : Nat} {env : En} {cs1 : Cs} {F : List Addr} {own : Bool} (w : Wd K B m env σ H cs1)
    (A : ∀ a ∈ F, ∃ k c, cs1 k = some c ∧ a ∈ c.F ∧ ((∃ j, k = .t j ∧ n ≤ j) ∨ c.X = [])) (B1 : own = true → F.Nodup ∧ ∀ a ∈ F, ∃ j c, n ≤ j ∧ cs1 (.t j) = some c ∧ a ∈ c.X) :
    (∀ a ∈ F, (∀ q c, cutT n cs1 q = some c → a ∉ c.X) ∧ (B.H0 a = none ∨ a ∈ B.R)) ∧ (own = true → F.Nodup ∧ ∀ a ∈ F, (∀ q c, cutT n cs1 q = some c → a ∉ c.F) ∧ Mut (H a) ∧ (B.H0 a = none ∨ a ∈ B.L)) := by
  refine ⟨fun a ha => ⟨fun q c e hX => ?_, by obtain ⟨k, c0, e1, e2, _⟩ := A a ha; exact w.gd.rc k c0 e1 a e2⟩, fun hO => ⟨(B1 hO).1, fun a ha => ?_⟩⟩
  · obtain ⟨k, c0, e1, e2, e3⟩ := A a ha
    have e' := cutT_some e
    rcases e3 with ⟨j, rfl, hj⟩ | hX0
    · exact w.gd.dis q (.t j) c c0 (fun z => by subst z; rw [cutT_hi hj] at e; cases e) e' e1 a hX e2
    · by_cases hq : q = k
      · subst hq; rw [e1] at e'; cases e'; rw [hX0] at hX; cases hX
      · exact w.gd.dis q k c c0 hq e' e1 a hX e2
  · obtain ⟨j, c0, e1, e2, e3⟩ := (B1 hO).2 a ha
    obtain ⟨z1, z2, z3⟩ := w.gd.wr _ c0 e2 a e3
    exact ⟨fun q c e hF => w.gd.dis (.t j) q c0 c (fun z => by subst z; rw [cutT_hi e1] at e; cases e) e2 (cutT_some e) a e3 hF, z2, z3⟩

/-- a thing is laid that gathers others: nobody has it -/
theorem Wd.pushGot {n : Nat} {env : En} {cs : Cs} {F T : List Addr} {own : Bool} {v : V} {d : D} (w : Wd K B n env σ H cs) (s : Same H H') (fp : Fp K H' v d (T ++ F)) (new : ∀ a ∈ T, H a = none ∧ Mut (H' a)) (nT : T.Nodup)
    (A : ∀ a ∈ F, (∀ q c, cs q = some c → a ∉ c.X) ∧ (B.H0 a = none ∨ a ∈ B.R)) (B' : own = true → F.Nodup ∧ ∀ a ∈ F, (∀ q c, cs q = some c → a ∉ c.F) ∧ Mut (H a) ∧ (B.H0 a = none ∨ a ∈ B.L)) (th : ∀ a ∈ F, H a ≠ none) :
    Wd K B (n + 1) env σ H' (putC cs (.t n) (some ⟨v, d, T ++ F, if own then T ++ F else []⟩)) ∧ (own = true → (T ++ F).Nodup) := by
  have nd : own = true → (T ++ F).Nodup := fun hO => List.nodup_append.mpr ⟨nT, (B' hO).1, fun a ha b hb z => by subst z; exact th a hb (new a ha).1⟩
  refine ⟨?_, nd⟩
  have noT : ∀ q c', cs q = some c' → ∀ a ∈ T, a ∉ c'.F := fun q c' e a ha z => (w.gd.fp q c' e).there a z (new a ha).1
  refine (w.grow s).push (c := ⟨v, d, T ++ F, _⟩) fp (fun a ha => ?_) (fun a ha => (List.mem_append.mp ha).elim (fun z => .inl (w.gd.al a (new a z).1)) fun z => (A a z).2) (fun q c' e a ha => ?_) fun q c' e a ha z => ?_
  · cases own with
    | false => simp at ha
    | true =>
      simp only [if_true] at ha
      refine ⟨ha, ?_⟩
      rcases List.mem_append.mp ha with h | h
      · exact ⟨(new a h).2, .inl (w.gd.al a (new a h).1)⟩
      · obtain ⟨_, b1, b2⟩ := (B' rfl).2 a h
        refine ⟨?_, b2⟩
        cases q : H a with
        | none => rw [q] at b1; exact b1.elim
        | some o => rw [s a o q]; rw [q] at b1; exact b1
  · cases own with
    | false => simp at ha
    | true =>
      simp only [if_true] at ha
      rcases List.mem_append.mp ha with h | h
      · exact noT q c' e a h
      · exact ((B' rfl).2 a h).1 q c' e
  · rcases List.mem_append.mp z with h | h
    · exact noT q c' e a h (w.gd.wr q c' e a ha).1
    · exact (A a h).1 q c' e ha
end

section
variable {X : Cx} {C : FS}
theorem immAll_append : ∀ {xs ys : List D}, immAll (xs ++ ys) = (immAll xs && immAll ys)
  | [], _ => by simp [immAll]
  | x :: xs, ys => by simp only [List.cons_append, immAll, immAll_append, Bool.and_assoc]

theorem fitsO_of {own : Bool} {v : V} {d : D} {G : List Addr} (h1 : own = true → G.Nodup) (h2 : imm d = true → G = []) : FitsO own ⟨v, d, G, if own then G else []⟩ := by
  unfold FitsO
  by_cases hi : imm d = true
  · rw [if_pos (.inl hi)]
    have e := h2 hi
    refine ⟨?_, ?_⟩
    · show (if own = true then G else []) = G
      rw [e]; simp
    · show G.Nodup
      rw [e]; exact List.nodup_nil
  · by_cases ho : own = true
    · rw [if_pos (.inr ho)]
      exact ⟨if_pos ho, h1 ho⟩
    · rw [if_neg (by rintro (z | z); exact hi z; exact ho z)]
      exact if_neg ho

theorem se_tup {as : List Ex} {es : List Expr} {k : Nat} {pos : Pos} (h : SOs X C as es) (hz : as.length ≤ 100) : SE X C (.tup as) (.Tuple es k pos) := PE_imp (pe_tup (sos_pa h)) fun σ H Q q => by
  obtain ⟨B, n, env, cs, r, w, h1, hq⟩ := q
  simp only [evE, Option.bind_eq_some_iff, Option.map_eq_some_iff] at h1
  obtain ⟨⟨os, e1⟩, h1, z, h2, rfl⟩ := h1
  refine ⟨B, n, env, cs, os, e1, w, h1, fun vs H' cs' w' x v' => ?_⟩
  have hl : vs.length = as.length := v'.len.trans (evOs_len h1)
  refine ⟨Nat.le_trans (by omega : vs.length ≤ 100) (by decide), fun p hp => ?_⟩
  obtain ⟨cs1, F, w1, l1, f1, A, B1⟩ := gather_ok w' v' h2
  obtain ⟨A', B'⟩ := gather_end (own := allOwn z.1) (n := n) w1 A B1
  have sm := same_upd (o := .tup vs) hp
  have fp : Fp X.K (upd H' p (.tup vs)) (.ref p) (.tuple (things z.1)) ([] ++ F) := .tup (SqT.of upd_same) (f1.same sm)
  obtain ⟨w2, nd⟩ := (w1.cut n).pushGot (own := allOwn z.1) (T := []) sm fp (fun a z => by cases z) List.nodup_nil A' B' fun a ha => f1.there a ha
  exact hq _ _ _ _ _ w2 ((x.trans (Nat.le_refl n) l1.ext).cut.trans (Nat.le_refl n) Ext.put) putC_same (fitsO_of nd fun hi => fp.imm hi)

theorem se_lst {as : List Ex} {es : List Expr} {pos : Pos} (h : SOs X C as es) (hz : as.length ≤ 100) : SE X C (.lst as) (.List es pos) := PE_imp (pe_lst (sos_pa h)) fun σ H Q q => by
  obtain ⟨B, n, env, cs, r, w, h1, hq⟩ := q
  simp only [evE, Option.bind_eq_some_iff, Option.map_eq_some_iff] at h1
  obtain ⟨⟨os, e1⟩, h1, z, h2, rfl⟩ := h1
  refine ⟨B, n, env, cs, os, e1, w, h1, fun vs H' cs' w' x v' => ?_⟩
  have hl : vs.length = as.length := v'.len.trans (evOs_len h1)
  refine ⟨Nat.le_trans (by omega : vs.length ≤ 100) (by decide), fun p hp => ?_⟩
  obtain ⟨cs1, F, w1, l1, f1, A, B1⟩ := gather_ok w' v' h2
  obtain ⟨A', B'⟩ := gather_end (own := allOwn z.1) (n := n) w1 A B1
  have sm := same_upd (o := .lst vs) hp
  have fp : Fp X.K (upd H' p (.lst vs)) (.ref p) (.list (things z.1)) ([p] ++ F) := .lst (.inl upd_same) (f1.same sm)
  obtain ⟨w2, nd⟩ := (w1.cut n).pushGot (own := allOwn z.1) (T := [p]) sm fp (fun a ha => by simp at ha; subst ha; exact ⟨hp, by rw [upd_same]; trivial⟩) (by simp) A' B' fun a ha => f1.there a ha
  exact hq _ _ _ _ _ w2 ((x.trans (Nat.le_refl n) l1.ext).cut.trans (Nat.le_refl n) Ext.put) putC_same (fitsO_of nd fun hi => by simp [imm] at hi)
end
end Ev
set_option maxHeartbeats 1000000
/-! Calls of defs: the promise, and a call by it. -/
namespace Ev
open PySem PySem.Spec PyProof.Rows L2
variable [Tb]

/-- a def's promise: from its parameters' things to what it gives, and what these hold then -/
def spF (K : PySem.W.Frag) (C : FS) (f np : Nat) : Sp := fun vs H Q _ => vs.length = np ∧ ∃ L R cs as q, Gd K ⟨H, L, R⟩ H cs ∧ Mt (as.map some) (vs.map some) cs ∧ (∀ j, cs (.t j) = none) ∧ (∀ j, cs (.g j) = none) ∧
  as.length = np ∧ C f as = some q ∧ ∀ v H' cs' F X, Gd K ⟨H, L, R⟩ H' cs' → Mt (q.2.2.map some) (vs.map some) cs' → q.2.2.length = np → cs' (.t 0) = some ⟨v, q.1, F, X⟩ → FitsO q.2.1 ⟨v, q.1, F, X⟩ → Q v H'

/-- the cells of operands -/
def keysO : Nat → List Od → List Ky
  | _, [] => []
  | n, .slot i :: os => .s i :: keysO n os
  | n, .tmp _ _ :: os => .t n :: keysO (n + 1) os
theorem keysO_len : ∀ {n : Nat} {os : List Od}, (keysO n os).length = os.length
  | _, [] => rfl
  | _, .slot _ :: os => by simp [keysO, keysO_len]
  | _, .tmp _ _ :: os => by simp [keysO, keysO_len]
theorem keysO_t : ∀ {n : Nat} {os : List Od} {k : Ky}, k ∈ keysO n os → (∃ i, k = .s i ∧ i ∈ slotsIn os) ∨ ∃ j, k = .t j ∧ n ≤ j
  | _, [], _, h => by cases h
  | n, .slot i :: os, k, h => by
    rcases List.mem_cons.mp h with rfl | h
    · exact .inl ⟨i, rfl, List.mem_cons_self⟩
    · rcases keysO_t h with ⟨i', e, m⟩ | ⟨j, e, m⟩
      · exact .inl ⟨i', e, List.mem_cons_of_mem _ m⟩
      · exact .inr ⟨j, e, m⟩
  | n, .tmp _ _ :: os, k, h => by
    rcases List.mem_cons.mp h with rfl | h
    · exact .inr ⟨n, rfl, Nat.le_refl n⟩
    · rcases keysO_t h with ⟨i', e, m⟩ | ⟨j, e, m⟩
      · exact .inl ⟨i', e, m⟩
      · exact .inr ⟨j, e, by omega⟩
theorem keysO_nodup : ∀ {n : Nat} {os : List Od}, (slotsIn os).Nodup → (keysO n os).Nodup
  | _, [], _ => List.nodup_nil
  | n, .slot i :: os, h => by
    have h := List.nodup_cons.mp (show (i :: slotsIn os).Nodup from h)
    refine List.nodup_cons.mpr ⟨fun z => ?_, keysO_nodup h.2⟩
    rcases keysO_t z with ⟨i', e, m⟩ | ⟨j, e, m⟩
    · cases e; exact h.1 m
    · cases e
  | n, .tmp _ _ :: os, h => by
    refine List.nodup_cons.mpr ⟨fun z => ?_, keysO_nodup (show (slotsIn os).Nodup from h)⟩
    rcases keysO_t z with ⟨i', e, m⟩ | ⟨j, e, m⟩
    · cases e
    · cases e; omega

def subC (cs : Cs) (ks : List Ky) : Cs := fun k => match k with
  | .s j => (ks[j]?).bind cs
  | _ => none
theorem subC_some {cs : Cs} {ks : List Ky} {k : Ky} {c : Cell} (h : subC cs ks k = some c) : ∃ j q, k = .s j ∧ ks[j]? = some q ∧ cs q = some c := by
  cases k with
  | s j =>
    simp only [subC, Option.bind_eq_some_iff] at h
    obtain ⟨q, h1, h2⟩ := h
    exact ⟨j, q, rfl, h1, h2⟩
  | t j => simp [subC] at h
  | g j => simp [subC] at h

section
variable {K : PySem.W.Frag} {B : Bd} {H H' : Hp} {m : Nat} {σ : L2.St}

theorem getS_map {as : List Sl} {i : Nat} : getS (as.map some) i = as[i]? := by
  unfold getS
  rw [List.getElem?_map]
  cases as[i]? <;> rfl

/-- the arguments' cells, one by one -/
theorem args_at {env : En} {cs : Cs} (w : Wd K B m env σ H cs) : ∀ {os : List Od} {n : Nat} {vs : List V} {as : List Sl}, OdsV cs σ n os vs → argsOf env os = some as → as.length = os.length ∧
    ∀ (j : Nat) (s : Sl), as[j]? = some s → ∃ k c v, (keysO n os)[j]? = some k ∧ cs k = some c ∧ vs[j]? = some v ∧ c.v = v ∧ c.d = s.d ∧ Fits s.fl c
  | [], n, _, as, .nil, h => by
    simp only [argsOf, Option.some.injEq] at h
    subst h
    exact ⟨rfl, fun j s e => by simp at e⟩
  | o :: os, n, v :: vs, as, .cons hv t, h => by
    simp only [argsOf, Option.bind_eq_some_iff, Option.map_eq_some_iff] at h
    obtain ⟨a, h1, r, h2, rfl⟩ := h
    cases hv with
    | slot e =>
      rename_i i
      obtain ⟨l, ih⟩ := args_at w t h2
      refine ⟨by simp [l], fun j s ej => ?_⟩
      cases j with
      | zero =>
        simp only [List.getElem?_cons_zero, Option.some.injEq] at ej
        subst ej
        simp only [argOf, Option.bind_eq_some_iff] at h1
        obtain ⟨s, g1, g2⟩ := h1
        split at g2
        · cases g2
        · cases g2
          obtain ⟨c, c1, c2, c3, c4⟩ := w.mt.slot g1
          rw [e] at c2
          exact ⟨.s i, c, v, rfl, c1, rfl, by simpa using c2.symm, c3, c4⟩
      | succ j =>
        obtain ⟨k, c, v', z1, z2, z3, z4⟩ := ih j s (by simpa using ej)
        exact ⟨k, c, v', by simpa [keysO, tmpN] using z1, z2, by simpa using z3, z4⟩
    | tmp e f =>
      rename_i d o F X1
      obtain ⟨l, ih⟩ := args_at w t h2
      refine ⟨by simp [l], fun j s ej => ?_⟩
      cases j with
      | zero =>
        simp only [List.getElem?_cons_zero, Option.some.injEq] at ej
        subst ej
        simp only [argOf, Option.some.injEq] at h1
        subst h1
        refine ⟨.t n, _, v, rfl, e, rfl, rfl, rfl, ?_⟩
        unfold FitsO at f
        by_cases hi : imm d = true ∨ o = true
        · rw [if_pos hi] at f
          have : (imm d || o) = true := by simpa using hi
          rw [this]
          exact f
        · rw [if_neg hi] at f
          have : (imm d || o) = false := by
            cases h1 : imm d <;> cases h2 : o <;> simp_all
          rw [this]
          exact f
      | succ j =>
        obtain ⟨k, c, v', z1, z2, z3, z4⟩ := ih j s (by simpa using ej)
        exact ⟨k, c, v', by simpa [keysO, tmpN] using z1, z2, by simpa using z3, z4⟩

/-- what the caller lends -/
def lent (cs : Cs) : List Ky → List Addr
  | [] => []
  | k :: ks => (match cs k with | some c => c.X | none => []) ++ lent cs ks
def reach (cs : Cs) : List Ky → List Addr
  | [] => []
  | k :: ks => (match cs k with | some c => c.F | none => []) ++ reach cs ks
theorem mem_lent {cs : Cs} : ∀ {ks : List Ky} {a : Addr}, a ∈ lent cs ks ↔ ∃ k c, k ∈ ks ∧ cs k = some c ∧ a ∈ c.X
  | [], a => by simp [lent]
  | k :: ks, a => by
    simp only [lent, List.mem_append, mem_lent]
    constructor
    · rintro (h | ⟨k', c, h1, h2, h3⟩)
      · cases e : cs k with
        | none => rw [e] at h; cases h
        | some c => rw [e] at h; exact ⟨k, c, List.mem_cons_self, e, h⟩
      · exact ⟨k', c, List.mem_cons_of_mem _ h1, h2, h3⟩
    · rintro ⟨k', c, h1, h2, h3⟩
      rcases List.mem_cons.mp h1 with rfl | h1
      · left; rw [h2]; exact h3
      · exact .inr ⟨k', c, h1, h2, h3⟩
theorem mem_reach {cs : Cs} : ∀ {ks : List Ky} {a : Addr}, a ∈ reach cs ks ↔ ∃ k c, k ∈ ks ∧ cs k = some c ∧ a ∈ c.F
  | [], a => by simp [reach]
  | k :: ks, a => by
    simp only [reach, List.mem_append, mem_reach]
    constructor
    · rintro (h | ⟨k', c, h1, h2, h3⟩)
      · cases e : cs k with
        | none => rw [e] at h; cases h
        | some c => rw [e] at h; exact ⟨k, c, List.mem_cons_self, e, h⟩
      · exact ⟨k', c, List.mem_cons_of_mem _ h1, h2, h3⟩
    · rintro ⟨k', c, h1, h2, h3⟩
      rcases List.mem_cons.mp h1 with rfl | h1
      · left; rw [h2]; exact h3
      · exact .inr ⟨k', c, h1, h2, h3⟩

/-- the callee's beginning -/
theorem sub_gd {cs : Cs} (g : Gd K B H cs) {ks : List Ky} (nd : ks.Nodup) : Gd K ⟨H, lent cs ks, reach cs ks⟩ H (subC cs ks) where
  kp := Keeps.refl _ _
  tb := g.tb
  al := fun a h => h
  rc := fun k c e a ha => by
    obtain ⟨j, q, _, e1, e2⟩ := subC_some e
    exact .inr (mem_reach.mpr ⟨q, c, List.mem_of_getElem? e1, e2, ha⟩)
  fp := fun k c e => by
    obtain ⟨j, q, _, e1, e2⟩ := subC_some e
    exact g.fp q c e2
  wr := fun k c e a ha => by
    obtain ⟨j, q, _, e1, e2⟩ := subC_some e
    obtain ⟨z1, z2, _⟩ := g.wr q c e2 a ha
    exact ⟨z1, z2, .inr (mem_lent.mpr ⟨q, c, List.mem_of_getElem? e1, e2, ha⟩)⟩
  dis := fun k k' c c' hne e e' => by
    obtain ⟨j, q, rfl, e1, e2⟩ := subC_some e
    obtain ⟨j', q', rfl, e1', e2'⟩ := subC_some e'
    refine g.dis q q' c c' (fun z => ?_) e2 e2'
    subst z
    exact hne (congrArg Ky.s (by
      obtain ⟨h1, g1⟩ := List.getElem?_eq_some_iff.mp e1
      obtain ⟨h2, g2⟩ := List.getElem?_eq_some_iff.mp e1'
      exact (List.getElem_inj nd).mp (g1.trans g2.symm)))

/-- where in the arguments a slot stands -/
def placeOf (i : Nat) : List Od → Option Nat
  | [] => none
  | .slot i' :: os => if i' = i then some 0 else (placeOf i os).map (· + 1)
  | .tmp _ _ :: os => (placeOf i os).map (· + 1)
theorem placeOf_slot {i i' : Nat} {os : List Od} : placeOf i (.slot i' :: os) = if i' = i then some 0 else (placeOf i os).map (· + 1) := rfl
theorem placeOf_tmp {i : Nat} {d : D} {o : Bool} {os : List Od} : placeOf i (.tmp d o :: os) = (placeOf i os).map (· + 1) := rfl
theorem placeOf_some : ∀ {os : List Od} {i j n : Nat}, placeOf i os = some j → (keysO n os)[j]? = some (.s i)
  | [], _, _, _, h => by cases h
  | .slot i' :: os, i, j, n, h => by
    unfold placeOf at h
    split at h
    · rename_i e; subst e; cases h; rfl
    · simp only [Option.map_eq_some_iff] at h
      obtain ⟨j', h1, rfl⟩ := h
      simpa [keysO] using placeOf_some (n := n) h1
  | .tmp _ _ :: os, i, j, n, h => by
    unfold placeOf at h
    simp only [Option.map_eq_some_iff] at h
    obtain ⟨j', h1, rfl⟩ := h
    simpa [keysO] using placeOf_some (n := n + 1) h1
theorem placeOf_none : ∀ {os : List Od} {i : Nat}, placeOf i os = none → i ∉ slotsIn os
  | [], _, _ => by simp [slotsIn]
  | .slot i' :: os, i, h => by
    unfold placeOf at h
    split at h
    · cases h
    · rename_i e
      simp only [Option.map_eq_none_iff] at h
      simp only [slotsIn, List.mem_cons, not_or]
      exact ⟨fun z => e z.symm, placeOf_none h⟩
  | .tmp _ _ :: os, i, h => by
    rw [placeOf_tmp] at h
    simp only [Option.map_eq_none_iff] at h
    exact fun z => placeOf_none h z

/-- the frame behind a call -/
theorem backTo_get {keep : Bool} : ∀ {os : List Od} {env e : En} {ts : List Sl}, backTo keep env os ts = some e → (slotsIn os).Nodup → ts.length = os.length ∧ e.length = env.length ∧
    ∀ i, (getS e i = getS env i ∧ ((∃ s, getS env i = some s ∧ s.fl = .frz) ∨ placeOf i os = none)) ∨ (∃ j t, placeOf i os = some j ∧ ts[j]? = some t ∧ getS e i = some ⟨t.d, if keep then t.fl else .frz⟩ ∧ ∃ s, getS env i = some s ∧ s.fl ≠ .frz)
  | [], env, e, ts, h, _ => by
    cases ts with
    | nil => simp only [backTo, Option.some.injEq] at h; subst h; exact ⟨rfl, rfl, fun i => .inl ⟨rfl, .inr rfl⟩⟩
    | cons _ _ => simp [backTo] at h
  | .slot i' :: os, env, e, ts, h, nd => by
    cases ts with
    | nil => simp [backTo] at h
    | cons t ts =>
      simp only [backTo, Option.bind_eq_some_iff] at h
      obtain ⟨s, h1, h2⟩ := h
      have nd := List.nodup_cons.mp (show (i' :: slotsIn os).Nodup from nd)
      have np : placeOf i' os = none := by
        cases q : placeOf i' os with
        | none => rfl
        | some j =>
          have := placeOf_some (n := 0) q
          have m := List.mem_of_getElem? this
          rcases keysO_t m with ⟨i2, z1, z2⟩ | ⟨j2, z1, z2⟩
          · cases z1; exact absurd z2 nd.1
          · cases z1
      obtain ⟨l1, l2, ih⟩ := backTo_get h2 nd.2
      refine ⟨by simp [l1], by rw [l2]; split; rfl; exact putS_len, fun i => ?_⟩
      by_cases e0 : i' = i
      · subst e0
        have hi := (ih i').resolve_right (by rintro ⟨j, t, z, _⟩; rw [np] at z; cases z)
        by_cases hf : s.fl = .frz
        · rw [if_pos hf] at hi
          exact .inl ⟨hi.1, .inl ⟨s, h1, hf⟩⟩
        · rw [if_neg hf] at hi
          refine .inr ⟨0, t, by rw [placeOf_slot, if_pos rfl], rfl, ?_, s, h1, hf⟩
          rw [hi.1, getS_put (getS_lt h1), if_pos rfl]
      · have eg : getS (if s.fl = .frz then env else putS env i' t.d (if keep then t.fl else .frz)) i = getS env i := by
          split
          · rfl
          · rw [getS_put (getS_lt h1), if_neg (Ne.symm e0)]
        have hi := ih i
        rw [eg] at hi
        rcases hi with ⟨z1, z2⟩ | ⟨j, t', z1, z2, z3, z4⟩
        · refine .inl ⟨z1, ?_⟩
          rcases z2 with z2 | z2
          · exact .inl z2
          · exact .inr (by rw [placeOf_slot, if_neg e0, z2]; rfl)
        · exact .inr ⟨j + 1, t', by rw [placeOf_slot, if_neg e0, z1]; rfl, by simpa using z2, z3, z4⟩
  | .tmp _ _ :: os, env, e, ts, h, nd => by
    cases ts with
    | nil => simp [backTo] at h
    | cons t ts =>
      simp only [backTo] at h
      obtain ⟨l1, l2, ih⟩ := backTo_get h (show (slotsIn os).Nodup from nd)
      refine ⟨by simp [l1], l2, fun i => ?_⟩
      rcases ih i with ⟨z1, z2⟩ | ⟨j, t', z1, z2, z3, z4⟩
      · refine .inl ⟨z1, ?_⟩
        rcases z2 with z2 | z2
        · exact .inl z2
        · exact .inr (by rw [placeOf_tmp, z2]; rfl)
      · exact .inr ⟨j + 1, t', by rw [placeOf_tmp, z1]; rfl, by simpa using z2, z3, z4⟩

/-- the caller's cells behind a call -/
def afterC (n : Nat) (os : List Od) (env : En) (keep : Bool) (cs cs2 : Cs) (r : Cell) : Cs := fun k => match k with
  | .s i => match placeOf i os, getS env i with
    | some j, some s => if s.fl = .frz then cs (.s i) else (cs2 (.s j)).map fun c => if keep then c else { c with X := [] }
    | _, _ => cs (.s i)
  | .t j => if j < n then cs (.t j) else if j = n then some r else none
  | .g j => cs (.g j)

/-- whence a cell behind a call comes -/
theorem afterC_some {n : Nat} {os : List Od} {env : En} {keep : Bool} {cs cs2 : Cs} {r : Cell} {k : Ky} {c : Cell} (h : afterC n os env keep cs cs2 r k = some c) :
    (cs k = some c ∧ (k ∉ keysO n os ∨ (∃ i s, k = .s i ∧ getS env i = some s ∧ s.fl = .frz) ∨ ∃ i, k = .s i ∧ getS env i = none) ∧ ∀ j, k = .t j → j < n) ∨ (∃ q c0, cs2 q = some c0 ∧ c.v = c0.v ∧ c.d = c0.d ∧ c.F = c0.F ∧ (∀ a ∈ c.X, a ∈ c0.X) ∧ ∃ i j, k = .s i ∧ q = .s j ∧ placeOf i os = some j ∧ (keep = false → c.X = [])) ∨ (k = .t n ∧ c = r) := by
  cases k with
  | s i =>
    simp only [afterC] at h
    cases q : placeOf i os with
    | none =>
      rw [q] at h
      have h : cs (.s i) = some c := h
      refine .inl ⟨h, .inl fun z => ?_, fun j z => by cases z⟩
      rcases keysO_t z with ⟨i2, z1, z2⟩ | ⟨j2, z1, z2⟩
      · cases z1; exact placeOf_none q z2
      · cases z1
    | some j =>
      rw [q] at h
      cases hs : getS env i with
      | none =>
        rw [hs] at h
        have h : cs (.s i) = some c := h
        exact .inl ⟨h, .inr (.inr ⟨i, rfl, hs⟩), fun j z => by cases z⟩
      | some s =>
      rw [hs] at h
      simp only at h
      by_cases hf : s.fl = .frz
      · rw [if_pos hf] at h
        exact .inl ⟨h, .inr (.inl ⟨i, s, rfl, hs, hf⟩), fun j z => by cases z⟩
      rw [if_neg hf] at h
      simp only [Option.map_eq_some_iff] at h
      obtain ⟨c0, h1, rfl⟩ := h
      refine .inr (.inl ⟨.s j, c0, h1, ?_, ?_, ?_, ?_, i, j, rfl, rfl, q, ?_⟩)
      · cases keep <;> rfl
      · cases keep <;> rfl
      · cases keep <;> rfl
      · cases keep
        · intro a z; cases z
        · intro a z; exact z
      · intro z; subst z; rfl
  | t j =>
    simp only [afterC] at h
    split at h
    · rename_i hj
      refine .inl ⟨h, .inl fun z => ?_, fun j' z => by cases z; exact hj⟩
      rcases keysO_t z with ⟨i2, z1, z2⟩ | ⟨j2, z1, z2⟩
      · cases z1
      · cases z1; omega
    · split at h
      · rename_i e; subst e; cases h; exact .inr (.inr ⟨rfl, rfl⟩)
      · cases h
  | g j =>
    refine .inl ⟨h, .inl fun z => ?_, fun j' z => by cases z⟩
    rcases keysO_t z with ⟨i2, z1, z2⟩ | ⟨j2, z1, z2⟩ <;> cases z1
end
end Ev
set_option maxHeartbeats 1000000
namespace Ev
open PySem PySem.Spec PyProof.Rows L2
variable [Tb]
section
variable {K : PySem.W.Frag} {B : Bd} {H H' : Hp} {m : Nat} {σ : L2.St}

theorem place_val {cs : Cs} : ∀ {os : List Od} {n i j : Nat} {vs : List V}, OdsV cs σ n os vs → placeOf i os = some j → ∃ v, vs[j]? = some v ∧ σ[i]? = some (some v)
  | [], _, _, _, _, .nil, h => by cases h
  | .slot i' :: os, n, i, j, v :: vs, .cons hv t, h => by
    rw [placeOf_slot] at h
    cases hv with
    | slot e =>
      split at h
      · rename_i q; subst q; cases h; exact ⟨v, rfl, e⟩
      · simp only [Option.map_eq_some_iff] at h
        obtain ⟨j', h1, rfl⟩ := h
        obtain ⟨v', z1, z2⟩ := place_val t h1
        exact ⟨v', by simpa using z1, z2⟩
  | .tmp _ _ :: os, n, i, j, v :: vs, .cons hv t, h => by
    rw [placeOf_tmp] at h
    simp only [Option.map_eq_some_iff] at h
    obtain ⟨j', h1, rfl⟩ := h
    obtain ⟨v', z1, z2⟩ := place_val t h1
    exact ⟨v', by simpa using z1, z2⟩

theorem call_ok {n : Nat} {os : List Od} {vs : List V} {env e : En} {cs cs2 : Cs} {outs : List Sl} {keep : Bool} {rc : Cell} (w : Wd K B m env σ H cs) (hv : OdsV cs σ n os vs) (nd : (slotsIn os).Nodup)
    (hb : backTo keep env os outs = some e) (g2 : Gd K ⟨H, lent cs (keysO n os), reach cs (keysO n os)⟩ H' cs2) (m2 : Mt (outs.map some) (vs.map some) cs2) (hr : cs2 (.t 0) = some rc) :
    Wd K B (n + 1) e σ H' (afterC n os env keep cs cs2 rc) := by
  obtain ⟨l1, l2, bg⟩ := backTo_get hb nd
  have inL : ∀ a ∈ lent cs (keysO n os), ∃ k c, k ∈ keysO n os ∧ cs k = some c ∧ a ∈ c.X ∧ Mut (H a) ∧ (B.H0 a = none ∨ a ∈ B.L) := fun a ha => by
    obtain ⟨k, c, h1, h2, h3⟩ := mem_lent.mp ha
    obtain ⟨z1, z2, z3⟩ := w.gd.wr k c h2 a h3
    exact ⟨k, c, h1, h2, h3, z2, z3⟩
  -- an untouched cell's things are not lent
  have noL : ∀ k c, cs k = some c → (k ∉ keysO n os ∨ c.X = []) → ∀ a ∈ c.F, a ∉ lent cs (keysO n os) := fun k c e hk a ha z => by
    obtain ⟨k', c', h1, h2, h3, _⟩ := inL a z
    by_cases q : k' = k
    · subst q
      rw [e] at h2; cases h2
      rcases hk with hk | hk
      · exact hk h1
      · rw [hk] at h3; cases h3
    · exact w.gd.dis k' k c' c q h2 e a h3 ha
  -- what the callee's cells hold is no untouched cell's own
  have out : ∀ q c2, cs2 q = some c2 → ∀ a ∈ c2.F, ∀ k c, cs k = some c → (k ∉ keysO n os ∨ c.X = []) → a ∉ c.X := fun q c2 e2 a ha k c e hk hX => by
    have hk : k ∉ keysO n os := hk.resolve_right (fun z => by rw [z] at hX; cases hX)
    rcases g2.rc q c2 e2 a ha with h | h
    · have h : H a = none := h
      exact (w.gd.fp k c e).there a (w.gd.wr k c e a hX).1 h
    · obtain ⟨k', c', h1, h2, h3⟩ := mem_reach.mp h
      exact w.gd.dis k k' c c' (fun q => by subst q; exact hk h1) e h2 a hX h3
  -- what the callee's cells have for themselves, no untouched cell holds
  have ownO : ∀ q c2, cs2 q = some c2 → ∀ a ∈ c2.X, ∀ k c, cs k = some c → (k ∉ keysO n os ∨ c.X = []) → a ∉ c.F := fun q c2 e2 a ha k c e hk hF => by
    obtain ⟨_, _, h⟩ := g2.wr q c2 e2 a ha
    rcases h with h | h
    · have h : H a = none := h
      exact (w.gd.fp k c e).there a hF h
    · exact noL k c e hk a hF h
  have unt : ∀ {k c}, cs k = some c → (k ∉ keysO n os ∨ (∃ i s, k = .s i ∧ getS env i = some s ∧ s.fl = .frz) ∨ ∃ i, k = .s i ∧ getS env i = none) → (k ∉ keysO n os ∨ c.X = []) := fun {k c} e h => by
    rcases h with h | ⟨i, s, rfl, h1, h2⟩ | ⟨i, rfl, h1⟩
    · exact .inl h
    · obtain ⟨c', z1, z2, z3, z4⟩ := w.mt.slot h1
      rw [e] at z1; cases z1
      rw [h2] at z4
      exact .inr z4
    · have := w.mt.no h1
      rw [e] at this; cases this
  refine ⟨⟨fun a o e0 hm ht => ?_, fun a h => w.gd.al a (g2.al a h), fun k c ek a ha => ?_, fun k c ek => ?_, fun k c ek a ha => ?_, fun k k' c c' hne ek ek' a ha => ?_, g2.tb⟩, fun i => ?_, fun j hj => ?_, by rw [l2]; exact w.len⟩
  · -- what stood
    refine g2.kp a o (w.gd.kp a o e0 hm ht) (fun aL => ?_) ht
    obtain ⟨k, c, h1, h2, h3, h4, h5⟩ := inL a aL
    rcases h5 with h5 | h5
    · rw [e0] at h5; cases h5
    · exact hm h5
  · -- reach
    have go : ∀ q c2, cs2 q = some c2 → a ∈ c2.F → B.H0 a = none ∨ a ∈ B.R := fun q c2 e2 h2 => by
      rcases g2.rc q c2 e2 a h2 with h | h
      · exact .inl (w.gd.al a h)
      · obtain ⟨k', c', h1, h2, h3⟩ := mem_reach.mp h
        exact w.gd.rc k' c' h2 a h3
    rcases afterC_some ek with ⟨h1, _⟩ | ⟨q, c0, h1, _, _, h4, _⟩ | ⟨_, rfl⟩
    · exact w.gd.rc k c h1 a ha
    · exact go q c0 h1 (by rw [← h4]; exact ha)
    · exact go _ _ hr ha
  · -- things
    rcases afterC_some ek with ⟨h1, h2, _⟩ | ⟨q, c0, h1, hv', hd, h4, _⟩ | ⟨_, rfl⟩
    · exact (w.gd.fp k c h1).keeps g2.kp fun a ha => noL k c h1 (unt h1 h2) a ha
    · rw [hv', hd, h4]; exact g2.fp q c0 h1
    · exact g2.fp _ _ hr
  · -- own ones
    have go : ∀ q c2, cs2 q = some c2 → a ∈ c2.X → a ∈ c2.F ∧ Mut (H' a) ∧ (B.H0 a = none ∨ a ∈ B.L) := fun q c2 e2 h2 => by
      obtain ⟨z1, z2, z3⟩ := g2.wr q c2 e2 a h2
      refine ⟨z1, z2, ?_⟩
      rcases z3 with z | z
      · exact .inl (w.gd.al a z)
      · obtain ⟨_, _, _, _, _, _, h⟩ := inL a z; exact h
    rcases afterC_some ek with ⟨h1, h2, _⟩ | ⟨q, c0, h1, _, _, h4, h5, _⟩ | ⟨_, rfl⟩
    · obtain ⟨z1, z2, z3⟩ := w.gd.wr k c h1 a ha
      refine ⟨z1, ?_, z3⟩
      cases q : H a with
      | none => rw [q] at z2; exact z2.elim
      | some o =>
        rw [g2.kp a o q (fun z => absurd z (noL k c h1 (unt h1 h2) a z1)) (fun ps z => by subst z; rw [q] at z2; exact z2)]
        rw [q] at z2; exact z2
    · obtain ⟨z1, z2, z3⟩ := go q c0 h1 (h5 a ha)
      exact ⟨by rw [h4]; exact z1, z2, z3⟩
    · exact go _ _ hr ha
  · -- apart
    rcases afterC_some ek with ⟨h1, h2, h3⟩ | ⟨q, c0, h1, _, _, h4, h5, i, j, rfl, rfl, hp, _⟩ | ⟨rfl, rfl⟩
    · rcases afterC_some ek' with ⟨h1', _⟩ | ⟨q', c0', h1', _, _, h4', _⟩ | ⟨_, rfl⟩
      · exact w.gd.dis k k' c c' hne h1 h1' a ha
      · rw [h4']; exact fun z => out q' c0' h1' a z k c h1 (unt h1 h2) ha
      · exact fun z => out _ _ hr a z k c h1 (unt h1 h2) ha
    · rcases afterC_some ek' with ⟨h1', h2', _⟩ | ⟨q', c0', h1', _, _, h4', _, i', j', rfl, rfl, hp', _⟩ | ⟨rfl, rfl⟩
      · exact ownO _ c0 h1 a (h5 a ha) k' c' h1' (unt h1' h2')
      · rw [h4']
        refine g2.dis (.s j) (.s j') c0 c0' (fun z => ?_) h1 h1' a (h5 a ha)
        cases z
        have z1 := placeOf_some (n := 0) hp
        have z2 := placeOf_some (n := 0) hp'
        rw [z1] at z2; cases z2
        exact hne rfl
      · exact g2.dis (.s j) (.t 0) c0 _ (fun z => by cases z) h1 hr a (h5 a ha)
    · rcases afterC_some ek' with ⟨h1', h2', _⟩ | ⟨q', c0', h1', _, _, h4', _, i', j', rfl, rfl, hp', _⟩ | ⟨rfl, _⟩
      · exact ownO _ _ hr a ha k' c' h1' (unt h1' h2')
      · rw [h4']
        exact g2.dis (.t 0) (.s j') _ c0' (fun z => by cases z) hr h1' a ha
      · exact absurd rfl hne
  · -- the frame
    rcases bg i with ⟨h1, h2⟩ | ⟨j, t, h1, h2, h3, s, h4, h5⟩
    · have h := w.mt i
      have e1 : afterC n os env keep cs cs2 rc (.s i) = cs (.s i) := by
        rcases h2 with ⟨s, z1, z2⟩ | z
        · cases q : placeOf i os <;> simp [afterC, q, z1, z2]
        · simp [afterC, z]
      rw [h1]
      cases hj : getS env i with
      | none =>
        rw [hj] at h
        show afterC n os env keep cs cs2 rc (.s i) = none
        rw [e1]; exact h
      | some s' =>
        rw [hj] at h
        obtain ⟨c', z1, z2⟩ := h
        exact ⟨c', by rw [e1]; exact z1, z2⟩
    · have h := m2 j
      rw [getS_map, h2] at h
      obtain ⟨c, z1, z2, z3, z4⟩ := h
      obtain ⟨v, y1, y2⟩ := place_val hv h1
      rw [List.getElem?_map, y1] at z2
      have ev : v = c.v := by simpa using z2
      rw [h3]
      refine ⟨if keep then c else { c with X := [] }, by simp [afterC, h1, h4, h5, z1], ?_, ?_, ?_⟩
      · cases keep <;> (simp only [Bool.false_eq_true, if_false, if_true]; rw [y2, ev])
      · cases keep <;> exact z3
      · cases keep
        · exact rfl
        · exact z4
  · simp only [afterC]
    rw [if_neg (by omega), if_neg (by omega)]
end

section
variable {X : Cx} {C : FS}
theorem PE_call {f np : Nat} {as : List Ex} {e : Expr} {t : TE} (hp : PE X e t) (ht : ∀ σ H Q, tCall (spF X.K C f np) [] E0 (tOs X.K C as) σ H Q → t σ H Q) (hn : as.length = np) : SE X C (.call f as) e := PE_imp hp fun σ H Q q => by
  obtain ⟨B, n, env, cs, r, w, h1, hq⟩ := q
  simp only [evE, Option.bind_eq_some_iff] at h1
  obtain ⟨⟨os, e1⟩, h1, h2⟩ := h1
  unfold doCall at h2
  simp only [Option.bind_eq_some_iff] at h2
  obtain ⟨sl, h2, h3⟩ := h2
  by_cases nd : (slotsIn os).Nodup
  · rw [if_pos nd] at h3
    simp only [Option.bind_eq_some_iff, Option.map_eq_some_iff] at h3
    obtain ⟨q, h4, e2, h5, rfl⟩ := h3
    refine ht σ H Q ⟨B, n, env, cs, os, e1, w, h1, fun vs H1 cs1 w1 x1 v1 => ?_⟩
    show spF X.K C f np (vs ++ []) H1 Q E0
    rw [List.append_nil]
    have hl := evOs_len h1
    obtain ⟨al, at'⟩ := args_at w1 v1 h2
    refine ⟨v1.len.trans (by rw [← hn]; exact hl), lent cs1 (keysO n os), reach cs1 (keysO n os), subC cs1 (keysO n os), sl, q, sub_gd w1.gd (keysO_nodup nd), fun i => ?_, fun j => rfl, fun j => rfl, by rw [al]; exact hl.trans hn, h4, fun v H2 cs2 F X2 g2 m2 ln r2 f2 => ?_⟩
    · rw [getS_map]
      cases hs : sl[i]? with
      | none =>
        show (((keysO n os)[i]?).bind cs1) = none
        have : (keysO n os)[i]? = none := List.getElem?_eq_none (by rw [keysO_len, ← al]; exact List.getElem?_eq_none_iff.mp hs)
        rw [this]; rfl
      | some s =>
        obtain ⟨k, c, v, z1, z2, z3, z4, z5, z6⟩ := at' i s hs
        refine ⟨c, ?_, ?_, z5, z6⟩
        · show (((keysO n os)[i]?).bind cs1) = some c
          rw [z1]; exact z2
        · rw [List.getElem?_map, z3, z4]; rfl
    · have w2 := call_ok w1 v1 nd h5 g2 m2 r2
      refine hq v H2 _ F X2 w2 ⟨fun j hj => ?_, fun j => ?_⟩ ?_ ?_
      · show (if j < n then cs1 (.t j) else _) = _
        rw [if_pos hj]; exact x1.t j hj
      · exact x1.g j
      · show (if n < n then _ else if n = n then some _ else none) = _
        rw [if_neg (Nat.lt_irrefl n), if_pos rfl]
      · unfold FitsO at f2 ⊢
        by_cases hi : imm q.1 = true ∨ q.2.1 = true
        · rw [if_pos hi] at f2
          rw [if_pos (.inr (by simpa using hi))]
          exact f2
        · rw [if_neg hi] at f2
          rw [if_neg (by rintro (z | z); exact hi (.inl z); exact hi (by simpa using z))]
          exact f2
  · rw [if_neg nd] at h3; cases h3

theorem sos_star : ∀ {as : List Ex} {es : List Expr} {pos : Pos}, SOs X C as es → (PySem.backTo pos (starEach es X.env)).any (·.1) = false
  | _, _, _, .nil => rfl
  | _, _, pos, .cons h hs t => by
    rw [star_no hs]
    show (false || (PySem.backTo pos (starEach _ X.env)).any (·.1)) = false
    rw [sos_star t]; rfl
theorem se_call {k f np : Nat} {a : Addr} {fd : FuncData} {ps : List Str} {x : Str} {as : List Ex} {e : Expr} {es : List Expr} {p pos : Pos} (F : FnOk X.prog X.w X.K X.mg X.base CX0 k a fd ps (spF X.K C f np)) (hr : Room k X.A) (hg : Gl X x) (hm : X.mg x = some (.ref a))
    (hk : PySem.W.keepIn X.K (.ref a) = true) (hb : Binds X.K fd ps []) (ha : SOs X C as (e :: es)) (hn : as.length = np) (hdb : (x == ("__debug__" : Str)) = false) : SE X C (.call f as) (.Call (.Name x p) (e :: es) [] pos) := by
  cases ha with
  | cons h hs t => exact PE_call (pe_call F hr hg hm hk hb .nil pass0 (sos_pa (.cons h hs t)) hdb (star_no hs) (sos_star t)) (fun _ _ _ h => h) hn
end
end Ev
set_option maxHeartbeats 1000000
/-! What is locked or read alone stays as it is. -/
namespace Ev
open PySem PySem.Spec PyProof.Rows L2
variable [Tb]

def Still (s : Sl) : Prop := s.fl = .lck ∨ s.fl = .frz
structure Kept (env env' : En) : Prop where
  len : env'.length = env.length
  st : ∀ i s, getS env i = some s → Still s → getS env' i = some s
structure KeptB (own : List Nat) (env env' : En) : Prop where
  len : env'.length = env.length
  st : ∀ i s, i ∉ own → getS env i = some s → Still s → getS env' i = some s
theorem Kept.refl (env : En) : Kept env env := ⟨rfl, fun _ _ h _ => h⟩
theorem Kept.trans {a b c : En} (x : Kept a b) (y : Kept b c) : Kept a c := ⟨y.len.trans x.len, fun i s h k => y.st i s (x.st i s h k) k⟩
theorem Kept.b {own : List Nat} {a b : En} (x : Kept a b) : KeptB own a b := ⟨x.len, fun i s _ h k => x.st i s h k⟩
theorem KeptB.trans {own : List Nat} {a b c : En} (x : KeptB own a b) (y : KeptB own b c) : KeptB own a c := ⟨y.len.trans x.len, fun i s n h k => y.st i s n (x.st i s n h k) k⟩
/-- a slot that isn't still is changed -/
theorem Kept.put {env : En} {i : Nat} {s : Sl} {d : D} {f : Fl} (h : getS env i = some s) (hn : ¬ Still s) : Kept env (putS env i d f) := ⟨putS_len, fun j t e k => by
  rw [getS_put (getS_lt h)]
  by_cases q : j = i
  · subst q; rw [h] at e; cases e; exact absurd k hn
  · rw [if_neg q]; exact e⟩

theorem freeze1_kept {env e : En} {i : Nat} (h : freeze1 env i = some e) : Kept env e := by
  simp only [freeze1, Option.bind_eq_some_iff] at h
  obtain ⟨s, h1, h2⟩ := h
  split at h2
  · rename_i q; cases h2; exact Kept.put h1 (by rw [Still, q]; rintro (z | z) <;> cases z)
  · rename_i q; cases h2; exact Kept.put h1 (by rw [Still, q]; rintro (z | z) <;> cases z)
  · cases h2; exact Kept.refl _
  · cases h2
theorem freezeAll_kept : ∀ {os : List Od} {env e : En}, freezeAll env os = some e → Kept env e
  | [], env, e, h => by cases h; exact Kept.refl _
  | .slot i :: os, env, e, h => by
    simp only [freezeAll, Option.bind_eq_some_iff] at h
    obtain ⟨e1, h1, h2⟩ := h
    exact (freeze1_kept h1).trans (freezeAll_kept h2)
  | .tmp _ _ :: os, env, e, h => freezeAll_kept (os := os) h
theorem thaw1_kept {env e : En} {i : Nat} (h : thaw1 env i = some e) : Kept env e := by
  simp only [thaw1, Option.map_eq_some_iff] at h
  obtain ⟨s, h1, rfl⟩ := h
  split
  · rename_i q; exact Kept.put h1 (by rw [Still, q]; rintro (z | z) <;> cases z)
  · exact Kept.refl _
theorem thawAll_kept : ∀ {os : List Od} {env e : En}, thawAll env os = some e → Kept env e
  | [], env, e, h => by cases h; exact Kept.refl _
  | .slot i :: os, env, e, h => by
    simp only [thawAll, Option.bind_eq_some_iff] at h
    obtain ⟨e1, h1, h2⟩ := h
    exact (thaw1_kept h1).trans (thawAll_kept h2)
  | .tmp _ _ :: os, env, e, h => thawAll_kept (os := os) h
theorem finish_kept {p : Pm} {os : List Od} {env : En} {d : D} {r : Rs} (h : finish p os env d = some r) : Kept env r.env := by
  unfold finish at h
  split at h
  · cases h; exact Kept.refl _
  · simp only [Option.map_eq_some_iff] at h
    obtain ⟨e, h1, rfl⟩ := h
    exact thawAll_kept h1
theorem readV_kept {env : En} {i : Nat} {r : Rs} (h : readV env i = some r) : Kept env r.env := by
  simp only [readV, Option.bind_eq_some_iff] at h
  obtain ⟨s, h1, h2⟩ := h
  split at h2
  · cases h2; exact Kept.refl _
  · simp only [Option.map_eq_some_iff] at h2
    obtain ⟨e, h3, rfl⟩ := h2
    exact freeze1_kept h3
theorem gather_kept : ∀ {os : List Od} {env : En} {q : List (D × Bool) × En}, gather env os = some q → Kept env q.2
  | [], env, q, h => by cases h; exact Kept.refl _
  | o :: os, env, q, h => by
    simp only [gather, Option.bind_eq_some_iff, Option.map_eq_some_iff] at h
    obtain ⟨r, h1, q', h2, rfl⟩ := h
    have k2 := gather_kept h2
    refine Kept.trans ?_ k2
    cases o with
    | slot i => exact readV_kept h1
    | tmp d o => cases h1; exact Kept.refl _
theorem argsOf_lck {env : En} : ∀ {os : List Od} {as : List Sl}, argsOf env os = some as → ∀ i ∈ slotsIn os, ∃ s, getS env i = some s ∧ s.fl ≠ .lck
  | [], _, _, _, h => by cases h
  | .slot i' :: os, as, h, i, hi => by
    simp only [argsOf, Option.bind_eq_some_iff, Option.map_eq_some_iff] at h
    obtain ⟨a, h1, r, h2, rfl⟩ := h
    rcases List.mem_cons.mp (show i ∈ i' :: slotsIn os from hi) with rfl | hi
    · simp only [argOf, Option.bind_eq_some_iff] at h1
      obtain ⟨s, g1, g2⟩ := h1
      refine ⟨s, g1, fun z => ?_⟩
      rw [if_pos z] at g2; cases g2
    · exact argsOf_lck h2 i hi
  | .tmp _ _ :: os, as, h, i, hi => by
    simp only [argsOf, Option.bind_eq_some_iff, Option.map_eq_some_iff] at h
    obtain ⟨a, h1, r, h2, rfl⟩ := h
    exact argsOf_lck h2 i hi
theorem doCall_kept {C : FS} {f : Nat} {os : List Od} {env : En} {r : Rs} (h : doCall C f os env = some r) : Kept env r.env := by
  unfold doCall at h
  simp only [Option.bind_eq_some_iff] at h
  obtain ⟨sl, h2, h3⟩ := h
  split at h3
  · rename_i nd
    simp only [Option.bind_eq_some_iff, Option.map_eq_some_iff] at h3
    obtain ⟨q, h4, e2, h5, rfl⟩ := h3
    obtain ⟨l1, l2, bg⟩ := backTo_get h5 nd
    refine ⟨l2, fun i s e k => ?_⟩
    rcases bg i with ⟨z1, _⟩ | ⟨j, t, z1, z2, z3, s', z4, z5⟩
    · rw [z1]; exact e
    · rw [e] at z4; cases z4
      have m := List.mem_of_getElem? (placeOf_some (n := 0) z1)
      rcases keysO_t m with ⟨i2, y1, y2⟩ | ⟨j2, y1, y2⟩
      · cases y1
        obtain ⟨s2, y3, y4⟩ := argsOf_lck h2 i y2
        rw [e] at y3; cases y3
        rcases k with k | k
        · exact absurd k y4
        · exact absurd k z5
      · cases y1
  · cases h3
theorem lock1_kept {env e : En} {i : Nat} (h : lock1 env i = some e) : Kept env e := by
  simp only [lock1, Option.map_eq_some_iff] at h
  obtain ⟨s, h1, rfl⟩ := h
  split
  · rename_i q
    split <;> exact Kept.put h1 (by rw [Still, q]; rintro (z | z) <;> cases z)
  · rename_i q; exact Kept.put h1 (by rw [Still, q]; rintro (z | z) <;> cases z)
  · exact Kept.refl _
theorem lockAll_kept : ∀ {os : List Od} {env e : En}, lockAll env os = some e → Kept env e
  | [], env, e, h => by cases h; exact Kept.refl _
  | .slot i :: os, env, e, h => by
    simp only [lockAll, Option.bind_eq_some_iff] at h
    obtain ⟨e1, h1, h2⟩ := h
    exact (lock1_kept h1).trans (lockAll_kept h2)
  | .tmp _ _ :: os, env, e, h => lockAll_kept (os := os) h

theorem getS_wipe {own : List Nat} {env : En} {i : Nat} : getS (wipeE env own) i = if i ∈ own then none else getS env i := by
  induction own with
  | nil => simp [wipeE]
  | cons j r ih =>
    show getS ((wipeE env r).set j none) i = _
    rw [getS_none, ih]
    by_cases h : i = j
    · simp [h]
    · simp [h]
theorem wipeE_len {own : List Nat} {env : En} : (wipeE env own).length = env.length := by
  induction own with
  | nil => rfl
  | cons j r ih => simp [wipeE, ih]
theorem wipe_kept {own : List Nat} {env : En} : KeptB own env (wipeE env own) := ⟨wipeE_len, fun i s n h _ => by rw [getS_wipe, if_neg n]; exact h⟩
theorem store_kept {own : List Nat} {env e : En} {i : Nat} {d : D} {o : Bool} (hi : i ∈ own) (h : store env i d o = some e) : KeptB own env e := by
  unfold store at h
  split at h
  · rename_i hl
    cases h
    refine ⟨putS_len, fun j s n e1 k => ?_⟩
    rw [getS_put hl, if_neg (by rintro rfl; exact n hi)]
    exact e1
  · cases h
theorem storeAll_kept {own : List Nat} : ∀ {is : List Nat} {ds : List D} {env e : En}, (∀ i ∈ is, i ∈ own) → storeAll env is ds = some e → KeptB own env e
  | [], [], env, e, _, h => by cases h; exact (Kept.refl _).b
  | i :: is, d :: ds, env, e, hi, h => by
    simp only [storeAll, Option.bind_eq_some_iff] at h
    obtain ⟨e1, h1, h2⟩ := h
    exact (store_kept (hi i List.mem_cons_self) h1).trans (storeAll_kept (fun j hj => hi j (List.mem_cons_of_mem _ hj)) h2)
  | [], _ :: _, _, _, _, h => by cases h
  | _ :: _, [], _, _, _, h => by cases h
theorem assignT_kept {own : List Nat} {t : Tg} {env e : En} {d : D} {o : Bool} (ht : tgIn t own = true) (h : assignT env t d o = some e) : KeptB own env e := by
  cases t with
  | nm i => exact store_kept (by simpa [tgIn] using ht) h
  | tp is =>
    have h2 : ∃ ds, storeAll env is ds = some e := by
      cases d <;> simp [assignT] at h
      exact ⟨_, h⟩
    obtain ⟨ds, h2⟩ := h2
    have ht' : ∀ x ∈ is, x ∈ own := by simpa [tgIn] using ht
    exact storeAll_kept ht' h2
theorem KeptB.mono {own own2 : List Nat} {a b : En} (x : KeptB own a b) (h : ∀ i ∈ own, i ∈ own2) : KeptB own2 a b := ⟨x.len, fun i s n e k => x.st i s (fun z => n (h i z)) e k⟩
theorem KeptB.refl (own : List Nat) (env : En) : KeptB own env env := (Kept.refl env).b
theorem compLoop_kept {tg : Tg} {own own2 : List Nat} {tst : En → Option (Bool × En)} {elt : En → Option Rs} (ht : tgIn tg own = true) (ho : ∀ i ∈ own, i ∈ own2) (h1 : ∀ env q, tst env = some q → KeptB own2 env q.2) (h2 : ∀ env r, elt env = some r → KeptB own2 env r.env) :
    ∀ {xs : List D} {env : En} {z : List (D × Bool) × En}, compLoop tg own tst elt xs env = some z → KeptB own2 env z.2
  | [], env, z, h => by cases h; exact KeptB.refl _ _
  | x :: xs, env, z, h => by
    simp only [compLoop, Option.bind_eq_some_iff] at h
    obtain ⟨e1, g1, q, g2, g3⟩ := h
    have k1 : KeptB own2 env q.2 := ((wipe_kept.trans (assignT_kept ht g1)).mono ho).trans (h1 _ _ g2)
    split at g3
    · simp only [Option.bind_eq_some_iff, Option.map_eq_some_iff] at g3
      obtain ⟨r, g4, z', g5, rfl⟩ := g3
      have k3 := compLoop_kept ht ho h1 h2 g5
      exact (k1.trans (h2 _ _ g4)).trans k3
    · exact k1.trans (compLoop_kept ht ho h1 h2 g3)
theorem unlock1_kept {was env : En} {i j : Nat} {s : Sl} (h1 : getS was j = some s) (h2 : getS env j = some s) (k : Still s) : getS (unlock1 was env i) j = some s := by
  unfold unlock1
  split
  · rename_i s' t e1 e2
    split
    · rename_i hf
      rw [getS_put (getS_lt e2)]
      split
      · rename_i q; subst q
        rw [h1] at e1; cases e1
        rw [h2] at e2; cases e2
        rw [if_pos hf, ← hf]
      · exact h2
    · exact h2
  · exact h2
theorem unlockAll_kept {was : En} {j : Nat} {s : Sl} (h1 : getS was j = some s) (k : Still s) : ∀ {os : List Od} {env : En}, getS env j = some s → getS (unlockAll was env os) j = some s
  | [], env, h2 => h2
  | .slot i :: os, env, h2 => unlockAll_kept h1 k (os := os) (unlock1_kept h1 h2 k)
  | .tmp _ _ :: os, env, h2 => unlockAll_kept h1 k (os := os) h2
theorem still_change {s : Sl} (h : canChange s.fl = true) : ¬ Still s := by
  rintro (k | k) <;> (rw [k] at h; simp [canChange] at h)

theorem unlock1_len {was env : En} {i : Nat} : (unlock1 was env i).length = env.length := by
  unfold unlock1
  split
  · split
    · exact putS_len
    · rfl
  · rfl
theorem unlockAll_len {was : En} : ∀ {os : List Od} {env : En}, (unlockAll was env os).length = env.length
  | [], _ => rfl
  | .slot i :: os, env => (unlockAll_len (os := os)).trans unlock1_len
  | .tmp _ _ :: os, env => unlockAll_len (os := os)
theorem sub1 {own a b : List Nat} (h : ∀ i ∈ a ++ b, i ∈ own) : ∀ i ∈ a, i ∈ own := fun i z => h i (List.mem_append_left _ z)
theorem sub2 {own a b : List Nat} (h : ∀ i ∈ a ++ b, i ∈ own) : ∀ i ∈ b, i ∈ own := fun i z => h i (List.mem_append_right _ z)
section
variable {C : FS} {own : List Nat}
mutual
theorem evE_kept : ∀ (ex : Ex) {env : En} {r : Rs}, (∀ i ∈ ownsE ex, i ∈ own) → evE C ex env = some r → KeptB own env r.env
  | .var i, env, r, _, h => (readV_kept h).b
  | .cst d, env, r, _, h => by cases h; exact KeptB.refl _ _
  | .prim p es, env, r, hs, h => by
    simp only [evE, Option.bind_eq_some_iff] at h
    obtain ⟨q, h1, ds, h2, d, h3, h4⟩ := h
    exact (evOs_kept es hs h1).trans (finish_kept h4).b
  | .tup es, env, r, hs, h => by
    simp only [evE, Option.bind_eq_some_iff, Option.map_eq_some_iff] at h
    obtain ⟨q, h1, z, h2, rfl⟩ := h
    exact (evOs_kept es hs h1).trans (gather_kept h2).b
  | .lst es, env, r, hs, h => by
    simp only [evE, Option.bind_eq_some_iff, Option.map_eq_some_iff] at h
    obtain ⟨q, h1, z, h2, rfl⟩ := h
    exact (evOs_kept es hs h1).trans (gather_kept h2).b
  | .andE a b, env, r, hs, h => by
    simp only [evE, Option.bind_eq_some_iff] at h
    obtain ⟨r1, h1, k, h2, h3⟩ := h
    have k1 := evE_kept a (sub1 hs) h1
    split at h3
    · simp only [Option.bind_eq_some_iff, Option.map_eq_some_iff] at h3
      obtain ⟨r2, h4, k2, h5, rfl⟩ := h3
      have k2 := evE_kept b (sub2 hs) h4
      exact k1.trans k2
    · cases h3
      exact k1
  | .orE a b, env, r, hs, h => by
    simp only [evE, Option.bind_eq_some_iff] at h
    obtain ⟨r1, h1, k, h2, h3⟩ := h
    have k1 := evE_kept a (sub1 hs) h1
    split at h3
    · cases h3
      exact k1
    · simp only [Option.bind_eq_some_iff, Option.map_eq_some_iff] at h3
      obtain ⟨r2, h4, k2, h5, rfl⟩ := h3
      have k2 := evE_kept b (sub2 hs) h4
      exact k1.trans k2
  | .notE a, env, r, hs, h => by
    simp only [evE, Option.bind_eq_some_iff, Option.map_eq_some_iff] at h
    obtain ⟨r1, h1, k, h2, rfl⟩ := h
    have k1 := evE_kept a hs h1
    exact k1
  | .ite c a b, env, r, hs, h => by
    simp only [evE, Option.bind_eq_some_iff] at h
    obtain ⟨r1, h1, k, h2, h3⟩ := h
    have k1 := evE_kept c (sub1 hs) h1
    split at h3
    · exact k1.trans (evE_kept a (sub1 (sub2 hs)) h3)
    · exact k1.trans (evE_kept b (sub2 (sub2 hs)) h3)
  | .chain p q a b c, env, r, hs, h => by
    simp only [evE, Option.bind_eq_some_iff] at h
    obtain ⟨ra, h1, rb, h2, h3⟩ := h
    have k1 := evE_kept a (sub1 hs) h1
    have k2 := evE_kept b (sub1 (sub2 hs)) h2
    split at h3
    · simp only [Option.bind_eq_some_iff] at h3
      obtain ⟨k, _, k1', _, h4⟩ := h3
      split at h4
      · simp only [Option.bind_eq_some_iff] at h4
        obtain ⟨rc, h5, h6⟩ := h4
        split at h6
        · simp only [Option.bind_eq_some_iff, Option.map_eq_some_iff] at h6
          obtain ⟨_, _, _, _, rfl⟩ := h6
          have k3 := evE_kept c (sub2 (sub2 hs)) h5
          exact (k1.trans k2).trans k3
        · cases h6
      · cases h4
        exact k1.trans k2
    · cases h3
  | .call f es, env, r, hs, h => by
    simp only [evE, Option.bind_eq_some_iff] at h
    obtain ⟨q, h1, h2⟩ := h
    exact (evOs_kept es hs h1).trans (doCall_kept h2).b
  | .comp elt tg k its ifs own', env, r, hs, h => by
    simp only [evE, Option.bind_eq_some_iff] at h
    obtain ⟨q, h1, ds, h2, xs, h3, h4⟩ := h
    split at h4
    · rename_i hc
      simp only [Bool.and_eq_true] at hc
      simp only [Option.bind_eq_some_iff, Option.map_eq_some_iff] at h4
      obtain ⟨e1, h5, z, h6, rfl⟩ := h4
      have hk := compLoop_kept (own2 := own) hc.1.1 (sub1 hs) (fun env q h => evTs_kept ifs (sub1 (sub2 (sub2 hs))) h) (fun env r h => evE_kept elt (sub1 (sub2 hs)) h) h6
      have hlk := lockAll_kept h5
      have k0 := evOs_kept its (sub2 (sub2 (sub2 hs))) h1
      have k1 : KeptB own q.2 (wipeE z.2 own') := (hlk.b.trans hk).trans (wipe_kept.mono (sub1 hs))
      refine k0.trans ⟨unlockAll_len.trans k1.len, fun i s n e st => unlockAll_kept e st (k1.st i s n e st)⟩
    · cases h4
  | .sortk es rg v body, env, r, hs, h => by
    simp only [evE, Option.bind_eq_some_iff] at h
    obtain ⟨q, h1, ds, h2, xs, h3, ks, h4, h5⟩ := h
    split at h5
    · cases h5; exact evOs_kept es hs h1
    · cases h5
  | .meth m i es, env, r, hs, h => by
    simp only [evE, Option.bind_eq_some_iff] at h
    obtain ⟨s0, _, _, _, q, h1, z, h2, s, h3, xs, h4, w, h5, h6⟩ := h
    split at h6
    · rename_i hc
      cases h6
      exact ((evOs_kept es hs h1).trans (gather_kept h2).b).trans (Kept.put h3 (still_change hc)).b
    · cases h6
  | .methAt m i k es, env, r, hs, h => by
    simp only [evE, Option.bind_eq_some_iff] at h
    obtain ⟨dk, h1, as, h2, s, h4, l, h5, xs, h6, w, h7, d', h8, h9⟩ := h
    split at h9
    · rename_i hc
      simp only [Bool.and_eq_true, decide_eq_true_eq] at hc
      cases h9
      refine (Kept.put h4 ?_).b
      rintro (z | z) <;> (rw [hc.1] at z; cases z)
    · cases h9
  | .lenAt p i k, env, r, hs, h => by
    simp only [evE, Option.bind_eq_some_iff] at h
    obtain ⟨dk, h1, s, h2, d, h3, r', h4, h5⟩ := h
    split at h5
    · cases h5; exact KeptB.refl _ _
    · cases h5
  | .dictS ks es, env, r, hs, h => by
    simp only [evE, Option.bind_eq_some_iff] at h
    obtain ⟨q, h1, z, h2, h3⟩ := h
    split at h3
    · cases h3; exact (evOs_kept es hs h1).trans (gather_kept h2).b
    · cases h3
theorem evOs_kept : ∀ (es : List Ex) {env : En} {q : List Od × En}, (∀ i ∈ ownsEs es, i ∈ own) → evOs C es env = some q → KeptB own env q.2
  | [], env, q, _, h => by cases h; exact KeptB.refl _ _
  | e :: es, env, q, hs, h => by
    by_cases hv : ∃ i, e = .var i
    · obtain ⟨i, rfl⟩ := hv
      rw [evOs] at h
      simp only [Option.bind_eq_some_iff, Option.map_eq_some_iff] at h
      obtain ⟨s, h1, q', h2, rfl⟩ := h
      have k2 := evOs_kept es (sub2 hs) h2
      exact k2
    · have hv' : ∀ i, e ≠ .var i := fun i z => hv ⟨i, z⟩
      have e1 : evOs C (e :: es) env = (evE C e env).bind fun r => (evOs C es r.env).map fun q => (.tmp r.d r.own :: q.1, q.2) := by
        cases e <;> first | rfl | exact absurd rfl (hv' _)
      rw [e1] at h
      simp only [Option.bind_eq_some_iff, Option.map_eq_some_iff] at h
      obtain ⟨r, h1, q', h2, rfl⟩ := h
      have k1 := evE_kept e (sub1 hs) h1
      have k2 := evOs_kept es (sub2 hs) h2
      exact k1.trans k2
theorem evTs_kept : ∀ (cs : List Ex) {env : En} {q : Bool × En}, (∀ i ∈ ownsEs cs, i ∈ own) → evTs C cs env = some q → KeptB own env q.2
  | [], env, q, _, h => by cases h; exact KeptB.refl _ _
  | c :: cs, env, q, hs, h => by
    simp only [evTs, Option.bind_eq_some_iff] at h
    obtain ⟨r, h1, k, h2, h3⟩ := h
    have k1 := evE_kept c (sub1 hs) h1
    split at h3
    · exact k1.trans (evTs_kept cs (sub2 hs) h3)
    · cases h3
      exact k1
end
end
end Ev
set_option maxHeartbeats 2000000
set_option maxRecDepth 100000
/-! What is walked. -/
namespace Ev
open PySem PySem.Spec PyProof.Rows L2 RZ RT
variable [Tb]

/-! ### enumerate of a tuple -/
set_option maxHeartbeats 4000000 in
theorem meets_enum1 {v : Value} {o : Obj} {H : Heap → Prop} (B : Begins v o H) :
    Meets (Builtin.«enumerate.__new__» ⟨[.type "enumerate", v], []⟩) (fun _ R s => H s.heap ∧
      R (.ok (.ret (.ref (s.heap.push o).objs.size))) { s with heap := (s.heap.push o).push { cls := .type "enumerate", data := .fields #[.none, .bool false, .ref s.heap.objs.size, rawInt 0, .none, .none] } }) :=
  .of_wp fun prog w A R s h => by
    obtain ⟨hp, g, d, tk, os⟩ := s; obtain ⟨h1, h⟩ := h
    have hsub := sub_enumerate
    have q1 : ∀ {A' : Around} {E : Value → Shared → Prop} {Q : Value → Shared → Prop}, Q (.ref hp.objs.size) ⟨hp.push o, g, d, tk, os⟩ → wpAny (model prog w) A' (pyIter v) Q E ⟨hp, g, d, tk, os⟩ :=
      fun q => B.iter prog w _ _ ⟨hp, g, d, tk, os⟩ _ h1 q
    wp_walk using q1
    refine wpAny_stack_any fun st => wpAny_pure ?_
    split
    · rename_i c _ _ _ _ _
      cases (c == Value.type "enumerate")
      · wp_walk using q1
        exact ⟨_, rfl, h⟩
      · wp_walk using q1
        exact ⟨_, rfl, h⟩
    · wp_walk using q1
      exact ⟨_, rfl, h⟩

theorem enum_begin1 {prog : Program} {w : World} {A : Around} {E : Value → Shared → Prop} {s : Shared} {v : Value} {o : Obj} {H : Heap → Prop} {Q : Value → Shared → Prop} (B : Begins v o H) (h1 : H s.heap)
    (h : ∀ h', IsEnum h' (s.heap.objs.size + 1) s.heap.objs.size 0 .none → h'.get? s.heap.objs.size = some o → h'.objs.size = s.heap.objs.size + 2 →
      (∀ b o, s.heap.get? b = some o → h'.get? b = some o) → Q (.ref (s.heap.objs.size + 1)) { s with heap := h' }) :
    wpAny (model prog w) A (call (.type "enumerate") [v]) Q E s := by
  refine callType_new F.called_enumerate (by decide) (F.typeCall_enumerate_1 _) (F.newCall_enumerate_1 _) (fun obj => F.args_object_init_2 obj _) F.entry_enumerate_new
    (meets_enum1 B) ⟨h1, ?_⟩
  have hz : (s.heap.push o).objs.size = s.heap.objs.size + 1 := Heap.size_push ..
  show _ ∧ _
  rw [hz]
  have he : IsEnum ((s.heap.push o).push { cls := .type "enumerate", data := .fields #[.none, .bool false, .ref s.heap.objs.size, rawInt 0, .none, .none] }) (s.heap.objs.size + 1) s.heap.objs.size 0 .none := by
    have := Heap.get?_push_size (s.heap.push o) (o := { cls := .type "enumerate", data := .fields #[.none, .bool false, .ref s.heap.objs.size, rawInt 0, .none, .none] }) rfl
    rw [hz] at this; exact this
  refine ⟨⟨_, he, rfl⟩, h _ he (Heap.get?_push_of_some _ (Heap.get?_push_size _ B.free)) (by rw [Heap.size_push, hz]) fun b o x => Heap.get?_push_of_some _ (Heap.get?_push_of_some _ x)⟩

/-- the tuple at a, each item in a new pair -/
def IteT (K : PySem.W.Frag) (a : Addr) : It :=
  ⟨fun i H => ∃ (xs : List V) (x : V), SqT K H a xs ∧ xs[i]? = some x, fun i H v H' => ∃ T x, v = .ref T ∧ H T = none ∧ H' = upd H T (.tup [.int (i : Nat), x]) ∧ ∀ xs, SqT K H a xs → xs[i]? = some x, fun i H => ∃ xs : List V, SqT K H a xs ∧ xs.length = i⟩
theorem turn_enumT {P : Program} {w : World} {K : PySem.W.Frag} {elts : List Expr} {kk : Nat} {tpos : Pos} (a e it : Addr) :
    Turn P w K (.Tuple elts kk tpos) (IteT K a) [e, it] e (fun i h => (∃ old, IsEnum h e it ((i : Nat) : Int) old) ∧ h.IsTupleIter it a i ∧ e ≠ it ∧ a ≠ it ∧ a ≠ e) where
  mem := by simp
  obj := fun i h st b hb => by
    obtain ⟨⟨old, he⟩, ⟨o, ho, hc, hd⟩, _⟩ := st
    have e' : b = e ∨ b = it := by simpa using hb
    rcases e' with z | z
    · rw [z]; exact ⟨_, he, fun v q => nomatch q⟩
    · rw [z]; exact ⟨o, ho, fun v q => by rw [hd] at q; cases q⟩
  keep := fun i h h' st k => let ⟨⟨old, he⟩, hi, hne⟩ := st; ⟨⟨old, k e (by simp) _ he⟩, hi.at fun o q => k it (by simp) o q, hne⟩
  item := by
    intro X hP hw hK hc i pins s σ H E I hf st hg
    subst hP hw hK
    obtain ⟨⟨old, he⟩, hit, hne, ha1, ha2⟩ := st
    obtain ⟨xs, x, hq, hx⟩ := hg
    obtain ⟨its, rv, p, hz⟩ := I.tuple hq
    obtain ⟨u, hu, ru⟩ := rv.get hx
    have hel : e < s.heap.objs.size := Heap.lt_size he
    have hil : it < s.heap.objs.size := by obtain ⟨_, q, _⟩ := hit; exact Heap.lt_size q
    have D := Draws.tuple (prog := X.prog) (w := X.w) (A := X.A.in1) (show X.A.in1.handled = none from I.ok.hd hc) it a ha1 its.toArray
    have hlt : i < its.toArray.size := by
      rw [List.size_toArray]
      exact (List.getElem?_eq_some_iff.mp hu).1
    refine wpAny_pyNext_enum_itemD D he ⟨hit, p⟩ hlt hne (by simp [hne, Ne.symm ha2]) fun y h' tk hy ho st' hT hsz hk => ?_
    have ey : y = u := by
      have hy' : its.toArray[i]? = some y := hy
      rw [List.getElem?_toArray, hu] at hy'
      exact (Option.some.inj hy').symm
    subst ey
    obtain ⟨hit', _⟩ := st'
    refine ⟨_, rfl, wpAny_letOwnedTupleGo_enum (s := { s with heap := h', toks := tk + 1 }) ho fun h'' he' sb => ?_⟩
    have hT2 : h''.get? s.heap.objs.size = some { cls := .type "tuple", data := .seq #[.int i tk, y] } := (sb.2 _ (Nat.ne_of_gt hel)).trans hT
    have new : ObjOk X.prog X.w (upd H s.heap.objs.size (.tup [.int (i : Nat), x])) h'' s.heap.objs.size (.tup [.int (i : Nat), x]) :=
      ⟨by show 2 ≤ sizeLine; decide, [.int i tk, y], .cons ⟨_, rfl⟩ (.cons ru .nil), ⟨_, hT2, rfl, _, rfl⟩⟩
    have I1 : Inv X pins σ (upd H s.heap.objs.size (.tup [.int (i : Nat), x])) { s with heap := h'', toks := tk + 1 } :=
      I.turnedNew (ch := [e, it]) (fun b ob hb q => (sb.2 b (fun z => hb (by simp [z]))).trans (hk b ob (fun z => hb (by simp [z])) (fun z => hb (by simp [z])) q)) hf (Nat.le_refl _) new
    refine ⟨.ref s.heap.objs.size, _, I1, rfl, ⟨_, x, rfl, I.hok.fresh (Nat.le_refl _), rfl, fun ys hy => by rw [I.tuple_inj hy hq]; exact hx⟩, ⟨⟨y, ?_⟩, hit'.at fun o q => (sb.2 it (Ne.symm hne)).trans q, hne, ha1, ha2⟩, fun b hb => ?_⟩
    · have e1 : ((i + 1 : Nat) : Int) = (i : Int) + 1 := by omega
      rw [e1]; exact he'
    · have hb' : b < s.heap.objs.size := by
        have e' : b = e ∨ b = it := by simpa using hb
        rcases e' with z | z
        · rw [z]; exact hel
        · rw [z]; exact hil
      rw [upd_ne (Nat.ne_of_lt hb')]
      exact (hf b hb).1
  done := by
    intro X hP hw hK hc i pins s σ H E I hf st hg
    subst hP hw hK
    obtain ⟨⟨old, he⟩, hit, hne, ha1, ha2⟩ := st
    obtain ⟨xs, hq, hx⟩ := hg
    obtain ⟨its, rv, p, hz⟩ := I.tuple hq
    obtain ⟨f0, f1, f2, f3, f4, f5⟩ := hf it (by simp)
    have hl := rv.length
    have D := Draws.tuple (prog := X.prog) (w := X.w) (A := X.A.in1) (show X.A.in1.handled = none from I.ok.hd hc) it a ha1 its.toArray
    have hi : i = its.toArray.size := by rw [List.size_toArray]; omega
    subst hi
    exact wpAny_pyNext_enum_endD D he ⟨hit, p⟩ fun h' eb => ⟨rfl, I.turned (t' := s.toks) (fun b o hb q => eb b o hb q) f0 f1 f3 f4 f5⟩
  self := fun A i s Q E st h => let ⟨⟨_, he⟩, _⟩ := st; wpAny_pyIter_enum he h
def iEnumA (K : PySem.W.Frag) (ta : TA) : TI := fun σ H R => ta σ H fun vs H1 => ∃ a xs, vs = [.ref a] ∧ ((SqL K H1 a xs ∧ R (Ite K a) H1) ∨ (SqT K H1 a xs ∧ R (IteT K a) H1))
theorem pi_enumA {X : Cx} {e : Expr} {ta : TA} {p pos tpos : Pos} {elts : List Expr} {kk : Nat} (hg : Gl X "enumerate") (hm : X.mg "enumerate" = none) (ha : PA X [e] ta) (hs : starEach [e] X.env = [(false, eval e X.env)]) :
    PI X (.Tuple elts kk tpos) (.Call (.Name "enumerate" p) [e] [] pos) (iEnumA X.K ta) := by
  refine ⟨fun pins s σ H R I h => ?_⟩
  refine Call_ (ld_blt I hg hm boot_enumerate (PyProof.Rows.callWith_type1 (thn (ha.run pos pins s σ H _ I h) fun us s1 ⟨vs, H1, I1, r1, q1⟩ => ?_) hs rfl))
  obtain ⟨a, xs, ex, q⟩ := q1
  subst ex
  cases r1 with
  | cons r rr =>
    cases rr
    cases r
    rcases q with ⟨hq, q⟩ | ⟨hq, q⟩
    · obtain ⟨its, rv, p', hz⟩ := I1.list hq
      refine call_enumerate_list p'.isList fun h' he hit hsz hk => wpAny_pyIter_enum he ?_
      have I2 : Inv X pins σ H1 { s1 with heap := h' } := I1.kept (t' := s1.toks) hk
      refine ⟨s1.heap.objs.size + 1, [s1.heap.objs.size + 1, s1.heap.objs.size], _, _, H1, rfl, I2, turn_enum a (s1.heap.objs.size + 1) s1.heap.objs.size, ⟨⟨.none, he⟩, hit, Nat.succ_ne_self _⟩, fun b hb => ?_, q⟩
      have e' : b = s1.heap.objs.size + 1 ∨ b = s1.heap.objs.size := by simpa using hb
      have hle : s1.heap.objs.size ≤ b := by
        rcases e' with z | z
        · rw [z]; exact Nat.le_add_right _ _
        · rw [z]; exact Nat.le_refl _
      exact I1.fpOk hle (I1.hok.fresh hle)
    · obtain ⟨its, rv, p', hz⟩ := I1.tuple hq
      have hal : a < s1.heap.objs.size := p'.lt
      refine enum_begin1 (begins_tuple a its.toArray) (show s1.heap.IsTuple a its.toArray from p') fun h' he hit hsz hk => wpAny_pyIter_enum he ?_
      have I2 : Inv X pins σ H1 { s1 with heap := h' } := I1.kept (t' := s1.toks) hk
      refine ⟨s1.heap.objs.size + 1, [s1.heap.objs.size + 1, s1.heap.objs.size], _, _, H1, rfl, I2, turn_enumT a (s1.heap.objs.size + 1) s1.heap.objs.size, ⟨⟨.none, he⟩, ⟨_, hit, rfl, rfl⟩, Nat.succ_ne_self _, Nat.ne_of_lt hal, Nat.ne_of_lt (Nat.lt_succ_of_lt hal)⟩, fun b hb => ?_, q⟩
      have e' : b = s1.heap.objs.size + 1 ∨ b = s1.heap.objs.size := by simpa using hb
      have hle : s1.heap.objs.size ≤ b := by
        rcases e' with z | z
        · rw [z]; exact Nat.le_add_right _ _
        · rw [z]; exact Nat.le_refl _
      exact I1.fpOk hle (I1.hok.fresh hle)

/-! ### a list or a tuple, whichever it is -/
def iSeq (K : PySem.W.Frag) (tl : TE) : TI := fun σ H R => tl σ H fun x H1 => ∃ a, x = .ref a ∧ (((∃ xs, SqL K H1 a xs) ∧ R (Itl K a) H1) ∨ ((∃ xs, SqT K H1 a xs) ∧ R (Itt K a) H1))
theorem pi_seq {X : Cx} {tg l : Expr} {tl : TE} (hl : PE X l tl) : PI X tg l (iSeq X.K tl) := by
  refine ⟨fun pins s σ H R I h => ?_⟩
  refine thn (hl.run pins s σ H _ I h) fun v s1 ⟨x, H1, I1, r1, q1⟩ => ?_
  obtain ⟨a, e, q⟩ := q1
  subst e
  cases r1
  rcases q with ⟨⟨xs, hq⟩, q⟩ | ⟨⟨xs, hq⟩, q⟩
  · obtain ⟨its, rv, p, hz⟩ := I1.list hq
    refine wpAny_pyIter_list p.isList ?_
    refine ⟨s1.heap.objs.size, [s1.heap.objs.size], _, _, H1, rfl, I1.kept (t' := s1.toks) fun b o e => Heap.get?_push_of_some _ e, turn_list a _, ⟨_, Heap.get?_push_size _ rfl, rfl, rfl⟩, fun b hb => ?_, q⟩
    have e : b = s1.heap.objs.size := by simpa using hb
    subst e
    exact I1.fpOk (Nat.le_refl _) (I1.hok.fresh (Nat.le_refl _))
  · obtain ⟨its, rv, p, hz⟩ := I1.tuple hq
    refine wpAny_pyIter_tuple (show s1.heap.IsTuple a its.toArray from p) ?_
    refine ⟨s1.heap.objs.size, [s1.heap.objs.size], _, _, H1, rfl, I1.kept (t' := s1.toks) fun b o e => Heap.get?_push_of_some _ e, turn_tuple a _, ⟨_, Heap.get?_push_size _ rfl, rfl, rfl⟩, fun b hb => ?_, q⟩
    have e : b = s1.heap.objs.size := by simpa using hb
    subst e
    exact I1.fpOk (Nat.le_refl _) (I1.hok.fresh (Nat.le_refl _))

/-! ### walks over data -/
def Walks (K : PySem.W.Frag) (J : It) (vs : List V) (ds xs : List D) : Prop := ∀ H Jf, FpZ K H vs ds Jf → ∀ i, (∀ d, xs[i]? = some d → J.go i H ∧ ∀ x H', J.yld i H x H' → Same H H' ∧ ∃ F, Fp K H' x d F ∧ ∀ a ∈ F, a ∈ Jf) ∧ (xs.length = i → J.stop i H)
def tIt (K : PySem.W.Frag) (C : FS) (k : Ik) (its : List Ex) : TI := fun σ H R => ∃ B n env cs os e ds xs, Wd K B n env σ H cs ∧ evOs C its env = some (os, e) ∧ fetchAll e os = some ds ∧ itemsOf k ds = some xs ∧
  ∀ vs H' cs' J, Wd K B (n + tmpsN os) e σ H' cs' → Ext n cs cs' → OdsV cs' σ n os vs → Walks K J vs ds xs → R J H'
abbrev SIt (X : Cx) (C : FS) (tg : Expr) (k : Ik) (its : List Ex) (iter : Expr) : Prop := PI X tg iter (tIt X.K C k its)
theorem PI_imp {X : Cx} {tg iter : Expr} {t t' : TI} (h : PI X tg iter t) (w : ∀ σ H R, t' σ H R → t σ H R) : PI X tg iter t' := ⟨fun pins s σ H R I q => h.run pins s σ H R I (w σ H R q)⟩

section
variable {X : Cx} {C : FS} {tg : Expr} {K : PySem.W.Frag}
theorem seqOf_eq {d : D} {xs : List D} (h : seqOf d = some xs) : d = .list xs ∨ d = .tuple xs := by
  cases d <;> simp [seqOf] at h
  · exact .inl (by rw [h])
  · exact .inr (by rw [h])
theorem FpZ.one {H : Hp} {v : V} {d : D} {J : List Addr} (h : FpZ K H [v] [d] J) : ∃ F, Fp K H v d F ∧ J = inn d F ++ [] := by
  cases h with
  | cons h t => cases t; exact ⟨_, h, rfl⟩
theorem SqL.inj_of {H : Hp} {a : Addr} {xs : List V} {vs : List V} (h : Rd H a (.lst vs)) : SqL K H a vs := .inl h

/-- the walks of one list, one tuple -/
theorem walks_list {a : Addr} {xs : List D} : Walks K (Itl K a) [.ref a] [.list xs] xs := fun H Jf z i => by
  obtain ⟨F, fp, rfl⟩ := z.one
  obtain ⟨a', vs, G, ev, eF, rd, t⟩ := fp.list
  cases ev
  subst eF
  refine ⟨fun d e => ?_, fun e => ⟨vs, .inl rd, by rw [t.len, e]; exact Nat.le_refl _⟩⟩
  obtain ⟨v, G', e1, e2, e3⟩ := t.get e
  refine ⟨⟨vs, v, .inl rd, e1⟩, fun x H' y => ?_⟩
  obtain ⟨rfl, y⟩ := y
  have := y vs (.inl rd)
  rw [e1] at this; cases this
  exact ⟨Same.refl _, G', e2, fun b hb => by simp only [inn, List.tail_cons, List.append_nil]; exact e3 b hb⟩
theorem walks_tup {a : Addr} {xs : List D} : Walks K (Itt K a) [.ref a] [.tuple xs] xs := fun H Jf z i => by
  obtain ⟨F, fp, rfl⟩ := z.one
  obtain ⟨a', vs, ev, sq, t⟩ := fp.tuple
  cases ev
  refine ⟨fun d e => ?_, fun e => ⟨vs, sq, by rw [t.len, e]; exact Nat.le_refl _⟩⟩
  obtain ⟨v, G', e1, e2, e3⟩ := t.get e
  refine ⟨⟨vs, v, sq, e1⟩, fun x H' y => ?_⟩
  obtain ⟨rfl, y⟩ := y
  have := y vs sq
  rw [e1] at this; cases this
  exact ⟨Same.refl _, G', e2, fun b hb => by simp only [inn, List.append_nil]; exact e3 b hb⟩

theorem sit_seq {a : Ex} {e : Expr} (h : SO X C a e) : SIt X C tg .seq [a] e := PI_imp (pi_seq h) fun σ H R q => by
  obtain ⟨B, n, env, cs, os, e1, ds, xs, w, h1, h2, h3, hq⟩ := q
  obtain ⟨o, e2, h5⟩ := evOs_one h1
  simp only [Prod.mk.injEq] at h5
  obtain ⟨rfl, rfl⟩ := h5
  refine ⟨B, n, env, cs, o, _, w, h1, fun x H' cs' w' x' v' => ?_⟩
  have hv : OdsV cs' σ n [o] [x] := .cons v' .nil
  have w2 : Wd X.K B (n + tmpsN [o]) e1 σ H' cs' := by simpa [tmpsN] using w'
  obtain ⟨J, z, _⟩ := hv.fp w2 h2
  match ds, z, h3 with
  | [d], .cons fp .nil, h3 =>
    have h3 : seqOf d = some xs := h3
    rcases seqOf_eq h3 with rfl | rfl
    · obtain ⟨a', vs, G, ev, eF, rd, t⟩ := fp.list
      subst ev
      exact ⟨a', rfl, .inl ⟨⟨vs, .inl rd⟩, hq _ _ cs' _ w2 x' hv walks_list⟩⟩
    · obtain ⟨a', vs, ev, sq, t⟩ := fp.tuple
      subst ev
      exact ⟨a', rfl, .inr ⟨⟨vs, sq⟩, hq _ _ cs' _ w2 x' hv walks_tup⟩⟩

theorem walks_rng {a b : Int} {vs : List V} {ds : List D} {n : Nat} (hn : (b - a).toNat = n) : Walks K (Itr a n) vs ds (rangeD a b) := fun H Jf z i => by
  subst hn
  have hl : (rangeD a b).length = (b - a).toNat := by simp [rangeD]
  refine ⟨fun d e => ?_, fun e => by show (b - a).toNat ≤ i; omega⟩
  have hi : i < (b - a).toNat := by rw [← hl]; exact (List.getElem?_eq_some_iff.mp e).1
  refine ⟨hi, fun x H' y => ?_⟩
  obtain ⟨rfl, rfl⟩ := y
  have : d = .int (a + (i : Nat)) := by
    simp only [rangeD, List.getElem?_map, List.getElem?_range hi, Option.map_some, Option.some.injEq] at e
    exact e.symm
  subst this
  exact ⟨Same.refl _, [], .int _, fun a z => by cases z⟩
theorem asI_eq {d : D} {i : Int} (h : asI d = some i) : d = .int i := by
  cases d <;> simp [asI] at h
  rw [h]
theorem guardO_some {α : Type} {b : Bool} {d r : α} (h : guardO b d = some r) : b = true ∧ d = r := by
  unfold guardO at h
  split at h
  · exact ⟨by assumption, by simpa using h⟩
  · cases h
theorem rgOk_bd {a b : Int} (h : rgOk a b = true) : -(2 ^ 62) ≤ a ∧ a < 2 ^ 62 ∧ -(2 ^ 62) ≤ b ∧ b < 2 ^ 62 := by
  simp only [rgOk, Bool.and_eq_true, decide_eq_true_eq] at h
  obtain ⟨h1, h2⟩ := h
  have e : big = 1000000 := rfl
  rw [e] at h1 h2
  omega

theorem sit_rng1 {a : Ex} {e : Expr} {p pos : Pos} (hg : Gl X "range") (hm : X.mg "range" = none) (h : SOs X C [a] [e]) : SIt X C tg .rng1 [a] (.Call (.Name "range" p) [e] [] pos) := by
  have hs : starEach [e] X.env = [(false, eval e X.env)] := by
    cases h with
    | cons _ hs _ => exact star_no hs
  refine PI_imp (pi_range1 hg hm (sos_pa h) hs) fun σ H R q => ?_
  obtain ⟨B, n, env, cs, os, e1, ds, xs, w, h1, h2, h3, hq⟩ := q
  refine ⟨B, n, env, cs, os, e1, w, h1, fun vs H' cs' w' x' v' => ?_⟩
  obtain ⟨J, z, _⟩ := v'.fp w' h2
  have hl := (v'.len).trans (evOs_len h1)
  match vs, ds, z, hl with
  | [v], [d], .cons fp .nil, _ =>
    have h3 : (asI d).bind (fun n => guardO (rgOk 0 n) (rangeD 0 n)) = some xs := h3
    simp only [Option.bind_eq_some_iff] at h3
    obtain ⟨j, h6, h7⟩ := h3
    obtain ⟨h8, rfl⟩ := guardO_some h7
    rw [asI_eq h6] at fp
    cases fp
    obtain ⟨b1, b2, b3, b4⟩ := rgOk_bd h8
    exact ⟨j, rfl, b3, b4, hq _ _ cs' _ w' x' v' (walks_rng (by rw [Int.sub_zero]))⟩
theorem sit_rng2 {a b : Ex} {e e2 : Expr} {p pos : Pos} (hg : Gl X "range") (hm : X.mg "range" = none) (h : SOs X C [a, b] [e, e2]) : SIt X C tg .rng2 [a, b] (.Call (.Name "range" p) [e, e2] [] pos) := by
  obtain ⟨hs1, hs2⟩ : (∀ x p, e ≠ .Starred x p) ∧ ∀ x p, e2 ≠ .Starred x p := by
    cases h with
    | cons _ hs t => cases t with | cons _ hs' _ => exact ⟨hs, hs'⟩
  refine PI_imp (pi_range2 hg hm (sos_pa h) (by rw [star_no hs1, star_no hs2]; rfl) (star_no hs2)) fun σ H R q => ?_
  obtain ⟨B, n, env, cs, os, e1, ds, xs, w, h1, h2, h3, hq⟩ := q
  refine ⟨B, n, env, cs, os, e1, w, h1, fun vs H' cs' w' x' v' => ?_⟩
  obtain ⟨J, z, _⟩ := v'.fp w' h2
  have hl := (v'.len).trans (evOs_len h1)
  match vs, ds, z, hl with
  | [v1, v2], [d1, d2], .cons f1 (.cons f2 .nil), _ =>
    have h3 : (asI d1).bind (fun i => (asI d2).bind fun j => guardO (rgOk i j) (rangeD i j)) = some xs := h3
    simp only [Option.bind_eq_some_iff] at h3
    obtain ⟨i, h6, j, h6', h7⟩ := h3
    obtain ⟨h8, rfl⟩ := guardO_some h7
    rw [asI_eq h6] at f1
    rw [asI_eq h6'] at f2
    cases f1
    cases f2
    exact ⟨i, j, rfl, rgOk_bd h8, hq _ _ cs' _ w' x' v' (walks_rng rfl)⟩

theorem enumFrom_get : ∀ {xs : List D} {k i : Nat}, (enumFrom k xs)[i]? = (xs[i]?).map fun x => .tuple [.int ((k + i : Nat) : Int), x]
  | [], k, i => by simp [enumFrom]
  | x :: xs, k, 0 => by simp [enumFrom]
  | x :: xs, k, i + 1 => by
    simp only [enumFrom, List.getElem?_cons_succ]
    rw [enumFrom_get]
    have : k + 1 + i = k + (i + 1) := by omega
    rw [this]
theorem enumFrom_len : ∀ {xs : List D} {k : Nat}, (enumFrom k xs).length = xs.length
  | [], _ => rfl
  | x :: xs, k => by simp [enumFrom, enumFrom_len]

theorem walks_enumL {a : Addr} {xs : List D} : Walks K (Ite K a) [.ref a] [.list xs] (enumFrom 0 xs) := fun H Jf z i => by
  obtain ⟨F, fp, rfl⟩ := z.one
  obtain ⟨a', vs, G, ev, eF, rd, t⟩ := fp.list
  cases ev
  subst eF
  refine ⟨fun d e => ?_, fun e => ⟨vs, .inl rd, by rw [t.len]; rw [enumFrom_len] at e; omega⟩⟩
  rw [enumFrom_get] at e
  simp only [Option.map_eq_some_iff, Nat.zero_add] at e
  obtain ⟨d', e, rfl⟩ := e
  obtain ⟨v, G', e1, e2, e3⟩ := t.get e
  refine ⟨⟨vs, v, .inl rd, e1⟩, fun x H' y => ?_⟩
  obtain ⟨T, x', rfl, hT, rfl, y⟩ := y
  have := y vs (.inl rd)
  rw [e1] at this; cases this
  have sm := same_upd (o := .tup [.int (i : Nat), v]) hT
  refine ⟨sm, _, .tup (SqT.of upd_same) (.cons (.int _) (.cons (e2.same sm) .nil)), fun b hb => ?_⟩
  simp only [List.nil_append, List.append_nil] at hb
  simp only [inn, List.tail_cons, List.append_nil]; exact e3 b hb
theorem walks_enumT {a : Addr} {xs : List D} : Walks K (IteT K a) [.ref a] [.tuple xs] (enumFrom 0 xs) := fun H Jf z i => by
  obtain ⟨F, fp, rfl⟩ := z.one
  obtain ⟨a', vs, ev, sq, t⟩ := fp.tuple
  cases ev
  refine ⟨fun d e => ?_, fun e => ⟨vs, sq, by rw [t.len]; rw [enumFrom_len] at e; exact e⟩⟩
  rw [enumFrom_get] at e
  simp only [Option.map_eq_some_iff, Nat.zero_add] at e
  obtain ⟨d', e, rfl⟩ := e
  obtain ⟨v, G', e1, e2, e3⟩ := t.get e
  refine ⟨⟨vs, v, sq, e1⟩, fun x H' y => ?_⟩
  obtain ⟨T, x', rfl, hT, rfl, y⟩ := y
  have := y vs sq
  rw [e1] at this; cases this
  have sm := same_upd (o := .tup [.int (i : Nat), v]) hT
  refine ⟨sm, _, .tup (SqT.of upd_same) (.cons (.int _) (.cons (e2.same sm) .nil)), fun b hb => ?_⟩
  simp only [List.nil_append, List.append_nil] at hb
  simp only [inn, List.append_nil]; exact e3 b hb
theorem sit_enum {a : Ex} {e : Expr} {p pos tpos : Pos} {elts : List Expr} {kk : Nat} (hg : Gl X "enumerate") (hm : X.mg "enumerate" = none) (h : SOs X C [a] [e]) : SIt X C (.Tuple elts kk tpos) .enum [a] (.Call (.Name "enumerate" p) [e] [] pos) := by
  have hs : starEach [e] X.env = [(false, eval e X.env)] := by
    cases h with
    | cons _ hs _ => exact star_no hs
  refine PI_imp (pi_enumA hg hm (sos_pa h) hs) fun σ H R q => ?_
  obtain ⟨B, n, env, cs, os, e1, ds, xs, w, h1, h2, h3, hq⟩ := q
  refine ⟨B, n, env, cs, os, e1, w, h1, fun vs H' cs' w' x' v' => ?_⟩
  obtain ⟨J, z, _⟩ := v'.fp w' h2
  have hl := (v'.len).trans (evOs_len h1)
  match vs, ds, z, hl with
  | [v], [d], .cons fp .nil, _ =>
    have h3 : (seqOf d).map (enumFrom 0) = some xs := h3
    simp only [Option.map_eq_some_iff] at h3
    obtain ⟨ys, h4, rfl⟩ := h3
    rcases seqOf_eq h4 with rfl | rfl
    · obtain ⟨a', us, G, ev, eF, rd, t⟩ := fp.list
      subst ev
      exact ⟨a', us, rfl, .inl ⟨.inl rd, hq _ _ cs' _ w' x' v' walks_enumL⟩⟩
    · obtain ⟨a', us, ev, sq, t⟩ := fp.tuple
      subst ev
      exact ⟨a', us, rfl, .inr ⟨sq, hq _ _ cs' _ w' x' v' walks_enumT⟩⟩

theorem zipD_get : ∀ {xs ys : List D} {i : Nat} {d : D}, (zipD xs ys)[i]? = some d → ∃ x y, xs[i]? = some x ∧ ys[i]? = some y ∧ d = .tuple [x, y]
  | [], _, _, _, h => by simp [zipD] at h
  | _ :: _, [], _, _, h => by simp [zipD] at h
  | x :: xs, y :: ys, 0, d, h => by simp [zipD] at h; exact ⟨x, y, rfl, rfl, h.symm⟩
  | x :: xs, y :: ys, i + 1, d, h => by
    simp only [zipD, List.getElem?_cons_succ] at h
    obtain ⟨a, b, h1, h2, h3⟩ := zipD_get h
    exact ⟨a, b, by simpa using h1, by simpa using h2, h3⟩
theorem zipD_len : ∀ {xs ys : List D}, (zipD xs ys).length = min xs.length ys.length
  | [], _ => by simp [zipD]
  | _ :: _, [] => by simp [zipD]
  | x :: xs, y :: ys => by simp [zipD, zipD_len] <;> omega
theorem walks_zipL {a b : Addr} {xs ys : List D} : Walks K (Itz K a b) [.ref a, .ref b] [.list xs, .list ys] (zipD xs ys) := fun H Jf z i => by
  match z with
  | .cons (F := F1) f1 (.cons (F := F2) f2 .nil) =>
    obtain ⟨a', vs, G, ev, eF, rd, t⟩ := f1.list
    obtain ⟨b', us, G2, ev2, eF2, rd2, t2⟩ := f2.list
    cases ev
    cases ev2
    subst eF
    subst eF2
    refine ⟨fun d e => ?_, fun e => ⟨vs, us, .inl rd, .inl rd2, by rw [t.len, t2.len]; rw [zipD_len] at e; omega⟩⟩
    obtain ⟨x, y, e1, e2, rfl⟩ := zipD_get e
    obtain ⟨v, G1', g1, g2, g3⟩ := t.get e1
    obtain ⟨u, G2', k1, k2, k3⟩ := t2.get e2
    refine ⟨⟨vs, us, v, u, .inl rd, .inl rd2, g1, k1⟩, fun x H' y => ?_⟩
    obtain ⟨T, x', y', rfl, hT, rfl, y1, y2⟩ := y
    have z1 := y1 vs (.inl rd)
    have z2 := y2 us (.inl rd2)
    rw [g1] at z1; cases z1
    rw [k1] at z2; cases z2
    have sm := same_upd (o := .tup [v, u]) hT
    refine ⟨sm, _, .tup (SqT.of upd_same) (.cons (g2.same sm) (.cons (k2.same sm) .nil)), fun c hc => ?_⟩
    simp only [List.append_nil, List.mem_append] at hc
    simp only [inn, List.tail_cons, List.append_nil, List.mem_append]
    exact hc.elim (fun q => .inl (g3 c q)) fun q => .inr (k3 c q)
theorem walks_zipT {a b : Addr} {xs ys : List D} : Walks K (ItzT K a b) [.ref a, .ref b] [.tuple xs, .tuple ys] (zipD xs ys) := fun H Jf z i => by
  match z with
  | .cons (F := F1) f1 (.cons (F := F2) f2 .nil) =>
    obtain ⟨a', vs, ev, rd, t⟩ := f1.tuple
    obtain ⟨b', us, ev2, rd2, t2⟩ := f2.tuple
    cases ev
    cases ev2
    refine ⟨fun d e => ?_, fun e => ⟨vs, us, rd, rd2, by rw [t.len, t2.len]; rw [zipD_len] at e; omega⟩⟩
    obtain ⟨x, y, e1, e2, rfl⟩ := zipD_get e
    obtain ⟨v, G1', g1, g2, g3⟩ := t.get e1
    obtain ⟨u, G2', k1, k2, k3⟩ := t2.get e2
    refine ⟨⟨vs, us, v, u, rd, rd2, g1, k1⟩, fun x H' y => ?_⟩
    obtain ⟨T, x', y', rfl, hT, rfl, y1, y2⟩ := y
    have z1 := y1 vs rd
    have z2 := y2 us rd2
    rw [g1] at z1; cases z1
    rw [k1] at z2; cases z2
    have sm := same_upd (o := .tup [v, u]) hT
    refine ⟨sm, _, .tup (SqT.of upd_same) (.cons (g2.same sm) (.cons (k2.same sm) .nil)), fun c hc => ?_⟩
    simp only [List.append_nil, List.mem_append] at hc
    simp only [inn, List.append_nil, List.mem_append]
    exact hc.elim (fun q => .inl (g3 c q)) fun q => .inr (k3 c q)
/-- a list or a tuple -/
def dX (t : Bool) (xs : List D) : D := match t with
  | true => .tuple xs
  | false => .list xs
theorem fpX {t : Bool} {H : Hp} {x : V} {xs : List D} {F : List Addr} (h : Fp K H x (dX t xs) F) : ∃ a vs G, x = .ref a ∧ SqX K H t a vs ∧ FpAll K H vs xs G ∧ ∀ c ∈ G, c ∈ inn (dX t xs) F := by
  cases t
  · obtain ⟨a, us, G, e, rfl, rd, tt⟩ := Fp.list h
    exact ⟨a, us, G, e, .inl rd, tt, fun c hc => by simp [inn, dX, hc]⟩
  · obtain ⟨a, us, e, rd, tt⟩ := Fp.tuple h
    exact ⟨a, us, F, e, rd, tt, fun c hc => by simpa [inn, dX] using hc⟩
theorem walks_zipM {ua ub : Bool} {a b : Addr} {xs ys : List D} : Walks K (ItzM K ua ub a b) [.ref a, .ref b] [dX ua xs, dX ub ys] (zipD xs ys) := fun H Jf z i => by
  match z with
  | .cons (F := F1) f1 (.cons (F := F2) f2 .nil) =>
    obtain ⟨a', vs, G1, ev, rd, t, s1⟩ := fpX f1
    obtain ⟨b', us, G2, ev2, rd2, t2, s2⟩ := fpX f2
    cases ev
    cases ev2
    refine ⟨fun d e => ?_, fun e => ⟨vs, us, rd, rd2, by rw [t.len]; rw [zipD_len] at e; omega, by rw [t2.len]; rw [zipD_len] at e; omega, by rw [t.len, t2.len]; rw [zipD_len] at e; omega⟩⟩
    obtain ⟨x, y, e1, e2, rfl⟩ := zipD_get e
    obtain ⟨v, G1', g1, g2, g3⟩ := t.get e1
    obtain ⟨u, G2', k1, k2, k3⟩ := t2.get e2
    refine ⟨⟨vs, us, v, u, rd, rd2, g1, k1⟩, fun x H' y => ?_⟩
    obtain ⟨T, x', y', rfl, hT, rfl, y1, y2⟩ := y
    have z1 := y1 vs rd
    have z2 := y2 us rd2
    rw [g1] at z1; cases z1
    rw [k1] at z2; cases z2
    have sm := same_upd (o := .tup [v, u]) hT
    refine ⟨sm, _, .tup (SqT.of upd_same) (.cons (g2.same sm) (.cons (k2.same sm) .nil)), fun c hc => ?_⟩
    simp only [List.append_nil, List.mem_append] at hc
    simp only [List.append_nil, List.mem_append]
    exact hc.elim (fun q => .inl (s1 c (g3 c q))) fun q => .inr (s2 c (k3 c q))
theorem sit_zip {a b : Ex} {e e2 : Expr} {p pos tpos : Pos} {elts : List Expr} {kk : Nat} (hg : Gl X "zip") (hm : X.mg "zip" = none) (h : SOs X C [a, b] [e, e2]) : SIt X C (.Tuple elts kk tpos) .zip [a, b] (.Call (.Name "zip" p) [e, e2] [] pos) := by
  obtain ⟨hs1, hs2⟩ : (∀ x p, e ≠ .Starred x p) ∧ ∀ x p, e2 ≠ .Starred x p := by
    cases h with
    | cons _ hs t => cases t with | cons _ hs' _ => exact ⟨hs, hs'⟩
  refine PI_imp (pi_zipM hg hm (sos_pa h) (star_no hs1) (by rw [star_no hs2]; rfl)) fun σ H R q => ?_
  obtain ⟨B, n, env, cs, os, e1, ds, xs, w, h1, h2, h3, hq⟩ := q
  refine ⟨B, n, env, cs, os, e1, w, h1, fun vs H' cs' w' x' v' => ?_⟩
  obtain ⟨J, z, _⟩ := v'.fp w' h2
  have hl := (v'.len).trans (evOs_len h1)
  match vs, ds, z, hl with
  | [v1, v2], [d1, d2], .cons f1 (.cons f2 .nil), _ =>
    have key : ∃ ua ub xs1 ys1, d1 = dX ua xs1 ∧ d2 = dX ub ys1 ∧ xs = zipD xs1 ys1 := by
      cases d1 <;> cases d2 <;> simp [itemsOf] at h3
      · exact ⟨false, false, _, _, rfl, rfl, h3.symm⟩
      · exact ⟨false, true, _, _, rfl, rfl, h3.symm⟩
      · exact ⟨true, false, _, _, rfl, rfl, h3.symm⟩
      · exact ⟨true, true, _, _, rfl, rfl, h3.symm⟩
    obtain ⟨ua, ub, xs1, ys1, rfl, rfl, rfl⟩ := key
    obtain ⟨a', us, G, ev, sq, t, _⟩ := fpX f1
    obtain ⟨b', us2, G2, ev2, sq2, t2, _⟩ := fpX f2
    subst ev
    subst ev2
    exact ⟨a', b', ua, ub, us, us2, rfl, sq, sq2, hq _ _ cs' _ w' x' v' walks_zipM⟩
end
end Ev
set_option maxHeartbeats 1000000
/-! Stores: names, tuples of names; a list that grows. -/
namespace Ev
open PySem PySem.Spec PyProof.Rows L2
variable [Tb]

section
variable {K : PySem.W.Frag} {B : Bd} {H H' : Hp} {n m : Nat} {env env' : En} {σ : L2.St} {cs cs' : Cs}

/-- a slot is stored to: a cell of the given value -/
theorem Wd.put (w : Wd K B n env σ H cs) {i : Nat} {c : Cell} {f : Fl} (hi : i < env.length) (fp : Fp K H c.v c.d c.F) (wr : ∀ a ∈ c.X, a ∈ c.F ∧ Mut (H a) ∧ (B.H0 a = none ∨ a ∈ B.L)) (rc : ∀ a ∈ c.F, B.H0 a = none ∨ a ∈ B.R)
    (d1 : ∀ q c', q ≠ .s i → cs q = some c' → ∀ a ∈ c.X, a ∉ c'.F) (d2 : ∀ q c', q ≠ .s i → cs q = some c' → ∀ a ∈ c'.X, a ∉ c.F) (ft : Fits f c) :
    Wd K B n (putS env i c.d f) (σ.set i (some c.v)) H (putC cs (.s i) (some c)) where
  gd := w.gd.lay (.s i) c fp wr rc d1 d2
  mt := fun j => by
    rw [getS_put hi]
    by_cases q : j = i
    · subst q
      rw [if_pos rfl]
      exact ⟨c, putC_same, List.getElem?_set_self (by rw [← w.len]; exact hi), rfl, ft⟩
    · rw [if_neg q]
      have h := w.mt j
      have ne : Ky.s j ≠ Ky.s i := fun z => by cases z; exact q rfl
      cases hj : getS env j with
      | none => rw [hj] at h; show putC _ _ _ _ = none; rw [putC_ne ne]; exact h
      | some s' =>
        rw [hj] at h
        obtain ⟨c', e1, e2, e3⟩ := h
        exact ⟨c', by rw [putC_ne ne]; exact e1, by rw [List.getElem?_set_ne (Ne.symm q)]; exact e2, e3⟩
  tm := fun j hj => by rw [putC_ne Ky_ts]; exact w.tm j hj
  len := by rw [putS_len, List.length_set]; exact w.len

theorem Ext.puts {i : Nat} {c : Option Cell} : Ext n cs (putC cs (.s i) c) := ⟨fun j _ => putC_ne Ky_ts, fun j => putC_ne (by intro z; cases z)⟩

/-- the last temporary goes into a slot -/
theorem store_ok {i : Nat} {c : Cell} {o : Bool} (w : Wd K B (n + 1) env σ H cs) (e : cs (.t n) = some c) (f : FitsO o c) (h : store env i c.d o = some env') :
    ∃ cs', Wd K B n env' (σ.set i (some c.v)) H cs' ∧ Ext n cs cs' := by
  unfold store at h
  split at h
  · rename_i hi
    cases h
    have ft : Fits (if imm c.d || o then .own else .frz) c := by
      unfold FitsO at f
      by_cases q : imm c.d = true ∨ o = true
      · rw [if_pos q] at f
        have : (imm c.d || o) = true := by simpa using q
        rw [this]; exact f
      · rw [if_neg q] at f
        have : (imm c.d || o) = false := by
          cases h1 : imm c.d <;> cases h2 : o <;> simp_all
        rw [this]; exact f
    have w1 := w.cut n
    refine ⟨_, w1.put hi (w.gd.fp _ c e) (w.gd.wr _ c e) (w.gd.rc _ c e) (fun q c' hq e' a ha => ?_) (fun q c' hq e' a ha => ?_) ft, (Ext.refl.cut (n := n)).trans (Nat.le_refl n) Ext.puts⟩
    · exact w.gd.dis (.t n) q c c' (fun z => by subst z; rw [cutT_hi (Nat.le_refl n)] at e'; cases e') e (cutT_some e') a ha
    · exact w.gd.dis q (.t n) c' c (fun z => by subst z; rw [cutT_hi (Nat.le_refl n)] at e'; cases e') (cutT_some e') e a ha
  · cases h

/-- sets one after another -/
def sets (σ : L2.St) : List Nat → List V → L2.St
  | [], _ => σ
  | _ :: _, [] => σ
  | i :: is, v :: vs => sets (σ.set i (some v)) is vs
theorem sets_other : ∀ {is : List Nat} {vs : List V} {σ : L2.St} {j : Nat}, j ∉ is → (sets σ is vs)[j]? = σ[j]?
  | [], _, _, _, _ => rfl
  | _ :: _, [], _, _, _ => rfl
  | i :: is, v :: vs, σ, j, h => by
    simp only [List.mem_cons, not_or] at h
    show (sets (σ.set i (some v)) is vs)[j]? = _
    rw [sets_other h.2, List.getElem?_set_ne (Ne.symm h.1)]
theorem sets_len : ∀ {is : List Nat} {vs : List V} {σ : L2.St}, (sets σ is vs).length = σ.length
  | [], _, _ => rfl
  | _ :: _, [], _ => rfl
  | i :: is, v :: vs, σ => by
    show (sets (σ.set i (some v)) is vs).length = _
    rw [sets_len, List.length_set]

/-- the things of a tuple that stands as a temporary (none its own) go into slots -/
theorem storeAll_ok {v0 : V} {d0 : D} {F : List Addr} : ∀ {is : List Nat} {ds : List D} {vs : List V} {G : List Addr} {env env' : En} {σ : L2.St} {cs : Cs}, Wd K B (n + 1) env σ H cs → cs (.t n) = some ⟨v0, d0, F, []⟩ → FpAll K H vs ds G → (∀ a ∈ G, a ∈ F) →
    storeAll env is ds = some env' → ∃ cs', Wd K B (n + 1) env' (sets σ is vs) H cs' ∧ Ext n cs cs' ∧ cs' (.t n) = some ⟨v0, d0, F, []⟩ ∧ is.length = vs.length
  | [], [], _, _, env, env', σ, cs, w, e, .nil, _, h => by cases h; exact ⟨cs, w, Ext.refl, e, rfl⟩
  | [], _ :: _, _, _, _, _, _, _, _, _, _, _, h => by cases h
  | _ :: _, [], _, _, _, _, _, _, _, _, _, _, h => by cases h
  | i :: is, d :: ds, _, _, env, env', σ, cs, w, e, .cons (v := v) (F := F1) (G := G1) fp t, sub, h => by
    simp only [storeAll, Option.bind_eq_some_iff] at h
    obtain ⟨e1, h1, h2⟩ := h
    unfold store at h1
    split at h1
    · rename_i hi
      cases h1
      have no : ∀ q c', q ≠ .s i → cs q = some c' → ∀ a ∈ c'.X, a ∉ F1 := fun q c' hq e' a ha z => by
        by_cases hqt : q = .t n
        · subst hqt; rw [e] at e'; cases e'; cases ha
        · exact w.gd.dis q (.t n) c' _ hqt e' e a ha (sub a (List.mem_append_left _ z))
      have ft : Fits (if imm d || false then .own else .frz) ⟨v, d, F1, []⟩ := by
        by_cases q : imm d = true
        · have := fp.imm q
          subst this
          rw [q]; exact ⟨rfl, List.nodup_nil⟩
        · have : (imm d || false) = false := by simpa using q
          rw [this]; exact rfl
      have w1 := w.put (i := i) (c := ⟨v, d, F1, []⟩) hi fp (fun a z => by cases z) (fun a ha => w.gd.rc _ _ e a (sub a (List.mem_append_left _ ha))) (fun _ _ _ _ a z => by cases z) no ft
      obtain ⟨cs2, w2, x2, e2, l2⟩ := storeAll_ok w1 (by rw [putC_ne Ky_ts]; exact e) t (fun a ha => sub a (List.mem_append_right _ ha)) h2
      exact ⟨cs2, w2, (Ext.puts).trans (Nat.le_refl n) x2, e2, by simp [l2]⟩
    · cases h1

/-- a temporary's own is given up -/
theorem Wd.tfrz (w : Wd K B m env σ H cs) {j : Nat} {c : Cell} (e : cs (.t j) = some c) : Wd K B m env σ H (putC cs (.t j) (some { c with X := [] })) where
  gd := w.gd.shrink e (fun a z => by cases z)
  mt := fun i => by
    have h := w.mt i
    cases hj : getS env i with
    | none => rw [hj] at h; show putC _ _ _ _ = none; rw [putC_ne Ky_st]; exact h
    | some s' =>
      rw [hj] at h
      obtain ⟨c', e1, e2⟩ := h
      exact ⟨c', by rw [putC_ne Ky_st]; exact e1, e2⟩
  tm := fun i hi => by
    rw [putC_ne (by intro z; cases z; rw [w.tm _ hi] at e; cases e)]
    exact w.tm i hi
  len := w.len

def tgHas (t : Tg) (j : Nat) : Prop := match t with
  | .nm i => j = i
  | .tp is => j ∈ is
/-- what is wanted behind a store -/
def tTg (K : PySem.W.Frag) (t : Tg) : TG := fun v σ H Q => ∃ B n env cs d o env' F X, Wd K B (n + 1) env σ H cs ∧ cs (.t n) = some ⟨v, d, F, X⟩ ∧ FitsO o ⟨v, d, F, X⟩ ∧ assignT env t d o = some env' ∧
  ∀ σ' cs', Wd K B n env' σ' H cs' → Ext n cs cs' → (∀ j, ¬ tgHas t j → σ'[j]? = σ[j]?) → σ'.length = σ.length → Q σ' H
abbrev SG (X : Cx) (t : Tg) (target : Expr) : Prop := PG X target (tTg X.K t)

theorem PG_imp {X : Cx} {target : Expr} {t t' : TG} (h : PG X target t) (w : ∀ v σ H Q, t' v σ H Q → t v σ H Q) : PG X target t' := ⟨fun pins s σ H v u Q I r q => h.run pins s σ H v u Q I r (w v σ H Q q)⟩
theorem sg_nm {X : Cx} {i : Nat} {target : Expr} (h : PG X target (gName i)) : SG X (.nm i) target := PG_imp h fun v σ H Q q => by
  obtain ⟨B, n, env, cs, d, o, env', F, X', w, e, f, h1, hq⟩ := q
  obtain ⟨cs', w', x'⟩ := store_ok (c := ⟨v, d, F, X'⟩) w e f h1
  exact hq _ cs' w' x' (fun j hj => List.getElem?_set_ne (fun z => hj z.symm)) (by simp)

def gNames : List Nat → TGs
  | [] => gNil
  | i :: is => gCons (gName i) (gNames is)
theorem gNames_sets : ∀ {is : List Nat} {vs : List V} {σ : L2.St} {H : Hp} {Q : L2.St → Hp → Prop}, is.length = vs.length → Q (sets σ is vs) H → gNames is vs σ H Q
  | [], [], _, _, _, _, q => ⟨rfl, q⟩
  | i :: is, v :: vs, σ, H, Q, hl, q => ⟨v, vs, rfl, gNames_sets (by simpa using hl) q⟩
theorem sg_tp {X : Cx} {is : List Nat} {es : List Expr} {k : Nat} {pos : Pos} (hc : X.calm = true) (h : PGs X es (gNames is)) (hn : (assignEach es X.env).length = is.length) (hst : (assignEach es X.env).findIdx? (·.1) = none) :
    SG X (.tp is) (.Tuple es k pos) := PG_imp (pg_tup hc h hn hst) fun v σ H Q q => by
  obtain ⟨B, n, env, cs, d, o, env', F, X', w, e, f, h1, hq⟩ := q
  cases d with
  | tuple ds =>
    have h1 : storeAll env is ds = some env' := h1
    have fp := w.gd.fp _ _ e
    obtain ⟨a, vs, ev, sq, t⟩ := fp.tuple
    have w1 := w.tfrz e
    obtain ⟨cs2, w2, x2, e2, l2⟩ := storeAll_ok w1 putC_same t (fun a ha => ha) h1
    have ev : v = .ref a := ev
    refine ⟨a, vs, ev, sq, l2.symm, gNames_sets l2 (hq _ _ (w2.cut n) ?_ (fun j hj => sets_other hj) sets_len)⟩
    exact (Ext.trans (Nat.le_refl n) (⟨fun j hj => putC_ne (by intro z; cases z; omega), fun j => putC_ne (by intro z; cases z)⟩) x2).cut
  | _ => simp [assignT] at h1
end
end Ev
set_option maxHeartbeats 1000000
/-! A list is changed. -/
namespace Ev
open PySem PySem.Spec PyProof.Rows L2
variable [Tb]

section
variable {K : PySem.W.Frag} {B : Bd} {H H' : Hp} {n m : Nat} {env env' : En} {σ : L2.St} {cs cs' : Cs}

theorem Gd.write (g : Gd K B H cs) {k : Ky} {c c' : Cell} {a : Addr} {o' : HO} (hk : cs k = some c) (ha : a ∈ c.X) (fp : Fp K (upd H a o') c'.v c'.d c'.F) (wr : ∀ b ∈ c'.X, b ∈ c'.F ∧ Mut (upd H a o' b) ∧ (B.H0 b = none ∨ b ∈ B.L))
    (rc : ∀ b ∈ c'.F, B.H0 b = none ∨ b ∈ B.R) (d1 : ∀ q c2, q ≠ k → cs q = some c2 → ∀ b ∈ c'.X, b ∉ c2.F) (d2 : ∀ q c2, q ≠ k → cs q = some c2 → ∀ b ∈ c2.X, b ∉ c'.F) : Gd K B (upd H a o') (putC cs k (some c')) := by
  obtain ⟨z1, z2, z3⟩ := g.wr k c hk a ha
  have no : ∀ q c2, q ≠ k → cs q = some c2 → a ∉ c2.F := fun q c2 hq e => g.dis k q c c2 (Ne.symm hq) hk e a ha
  refine ⟨fun b o e hm hn => ?_, fun b h => ?_, fun q c2 e => ?_, fun q c2 e => ?_, fun q c2 e => ?_, fun q q' c1 c2 hne e e' => ?_, fun p hp => tab_upd (g.tb p hp) ((g.fp k c hk).ld a z1)⟩
  · have hb := g.kp b o e hm hn
    have ne : b ≠ a := fun z => by
      subst z
      rw [hb] at z2
      rcases z3 with z3 | z3
      · rw [e] at z3; cases z3
      · exact hm z3 z2
    rw [upd_ne ne]; exact hb
  · have ne : b ≠ a := fun z => by subst z; rw [upd_same] at h; cases h
    rw [upd_ne ne] at h
    exact g.al b h
  · by_cases h : q = k
    · subst h; rw [putC_same] at e; cases e; exact rc
    · rw [putC_ne h] at e; exact g.rc q c2 e
  · by_cases h : q = k
    · subst h; rw [putC_same] at e; cases e; exact fp
    · rw [putC_ne h] at e
      exact (g.fp q c2 e).keeps (Keeps.upd z2) fun b hb z => by simp at z; subst z; exact no q c2 h e hb
  · by_cases h : q = k
    · subst h; rw [putC_same] at e; cases e; exact wr
    · rw [putC_ne h] at e
      intro b hb
      obtain ⟨y1, y2, y3⟩ := g.wr q c2 e b hb
      refine ⟨y1, ?_, y3⟩
      rw [upd_ne (fun z => by subst z; exact no q c2 h e y1)]
      exact y2
  · by_cases h : q = k
    · subst h
      rw [putC_same] at e; cases e
      rw [putC_ne (Ne.symm hne)] at e'
      exact d1 q' c2 (Ne.symm hne) e'
    · by_cases h' : q' = k
      · subst h'
        rw [putC_same] at e'; cases e'
        rw [putC_ne h] at e
        exact d2 q c1 h e
      · rw [putC_ne h] at e; rw [putC_ne h'] at e'; exact g.dis q q' c1 c2 hne e e'

/-- a list's own place gets other things -/
theorem Gd.relist (g : Gd K B H cs) {k : Ky} {c : Cell} {a : Addr} {vs' : List V} {ys : List D} {G : List Addr} {own : Bool} (hk : cs k = some c) (ha : a ∈ c.X) (fp : FpAll K H vs' ys G) (haG : a ∉ G)
    (A : ∀ b ∈ G, (∀ q c2, q ≠ k → cs q = some c2 → b ∉ c2.X) ∧ (B.H0 b = none ∨ b ∈ B.R)) (O : own = true → ∀ b ∈ G, (∀ q c2, q ≠ k → cs q = some c2 → b ∉ c2.F) ∧ Mut (H b) ∧ (B.H0 b = none ∨ b ∈ B.L)) :
    Gd K B (upd H a (.lst vs')) (putC cs k (some ⟨.ref a, .list ys, a :: G, if own then a :: G else [a]⟩)) := by
  obtain ⟨z1, z2, z3⟩ := g.wr k c hk a ha
  have fp' : FpAll K (upd H a (.lst vs')) vs' ys G := fp.keeps (Keeps.upd z2) fun b hb z => by simp at z; subst z; exact haG hb
  have hX : ∀ b ∈ (if own then a :: G else [a]), b = a ∨ (own = true ∧ b ∈ G) := fun b hb => by
    cases own with
    | true => simp at hb; exact hb.elim .inl fun z => .inr ⟨rfl, z⟩
    | false => simp at hb; exact .inl hb
  refine g.write (c' := ⟨.ref a, .list ys, a :: G, _⟩) hk ha (.lst (.inl upd_same) fp') (fun b hb => ?_) (fun b hb => ?_) (fun q c2 hq e b hb => ?_) fun q c2 hq e b hb z => ?_
  · rcases hX b hb with rfl | ⟨ho, hg⟩
    · exact ⟨List.mem_cons_self, by rw [upd_same]; trivial, z3⟩
    · obtain ⟨y1, y2, y3⟩ := O ho b hg
      refine ⟨List.mem_cons_of_mem _ hg, ?_, y3⟩
      rw [upd_ne (fun z => by subst z; exact haG hg)]; exact y2
  · rcases List.mem_cons.mp hb with rfl | hb
    · exact g.rc k c hk b z1
    · exact (A b hb).2
  · rcases hX b hb with rfl | ⟨ho, hg⟩
    · exact g.dis k q c c2 (Ne.symm hq) hk e b ha
    · exact (O ho b hg).1 q c2 hq e
  · rcases List.mem_cons.mp z with rfl | z
    · exact g.dis q k c2 c hq e hk b hb z1
    · exact (A b z).1 q c2 hq e hb

/-- what stands where one may write a list -/
theorem Gd.lstAt (g : Gd K B H cs) {k : Ky} {c : Cell} {a : Addr} {xs : List D} {G : List Addr} (hk : cs k = some c) (ha : a ∈ c.X) (hd : c.d = .list xs) (hF : c.F = a :: G) : ∃ vs, H a = some (.lst vs) ∧ c.v = .ref a ∧ FpAll K H vs xs G := by
  have fp := g.fp k c hk
  rw [hd, hF] at fp
  obtain ⟨a', vs, G', ev, eF, rd, t⟩ := fp.list
  cases eF
  obtain ⟨_, z2, _⟩ := g.wr k c hk a ha
  rcases rd with rd | ⟨o, rd⟩
  · exact ⟨vs, rd, ev, t⟩
  · rw [rd] at z2; exact z2.elim

/-- the list of a comprehension grows by the last temporary -/
theorem acc_ok {j : Nat} {D : Addr} {ds : List PyData} {Fa Xa F X : List Addr} {own o : Bool} {y : V} {d : PyData} (w : Wd K B (j + 2) env σ H cs) (e1 : cs (.t j) = some ⟨.ref D, .list ds, D :: Fa, Xa⟩) (hX : Xa = if own then D :: Fa else [D]) (hD : D ∉ Fa)
    (hn : own = true → Fa.Nodup) (e2 : cs (.t (j + 1)) = some ⟨y, d, F, X⟩) (f : FitsO o ⟨y, d, F, X⟩) :
    ∃ vs, H D = some (.lst vs) ∧ vs.length = ds.length ∧ D ∉ Fa ++ F ∧ ((own && (imm d || o)) = true → (Fa ++ F).Nodup) ∧
      Wd K B (j + 1) env σ (upd H D (.lst (vs ++ [y]))) (putC (cutT (j + 1) cs) (.t j) (some ⟨.ref D, .list (ds ++ [d]), D :: (Fa ++ F), if (own && (imm d || o)) then D :: (Fa ++ F) else [D]⟩)) := by
  have hDX : D ∈ Xa := by rw [hX]; cases own <;> simp
  obtain ⟨vs, h1, h2, h3⟩ := w.gd.lstAt (c := ⟨.ref D, .list ds, D :: Fa, Xa⟩) e1 hDX rfl rfl
  have fp := w.gd.fp _ _ e2
  have nj : Ky.t j ≠ Ky.t (j + 1) := fun z => by cases z
  have hDF : D ∉ F := w.gd.dis (.t j) (.t (j + 1)) _ _ nj e1 e2 D hDX
  have hG : D ∉ Fa ++ F := fun z => (List.mem_append.mp z).elim hD hDF
  have ownX : (own && (imm d || o)) = true → Xa = D :: Fa ∧ X = F ∧ F.Nodup := fun h => by
    simp only [Bool.and_eq_true] at h
    unfold FitsO at f
    rw [if_pos (by simpa using h.2)] at f
    exact ⟨by rw [hX, h.1]; rfl, f.1, f.2⟩
  have nd : (own && (imm d || o)) = true → (Fa ++ F).Nodup := fun h => by
    obtain ⟨y1, y2, y3⟩ := ownX h
    simp only [Bool.and_eq_true] at h
    refine List.nodup_append.mpr ⟨hn h.1, y3, fun a ha b hb z => ?_⟩
    subst z
    exact w.gd.dis (.t j) (.t (j + 1)) _ _ nj e1 e2 a (by show a ∈ Xa; rw [y1]; exact List.mem_cons_of_mem _ ha) hb
  have fa := h3.append (.cons fp .nil)
  rw [List.append_nil] at fa
  have w1 := w.cut (j + 1)
  have e1' : cutT (j + 1) cs (.t j) = some ⟨.ref D, .list ds, D :: Fa, Xa⟩ := (cutT_lo (by omega)).trans e1
  have notlast : ∀ q c2, cutT (j + 1) cs q = some c2 → q ≠ .t (j + 1) := fun q c2 e z => by subst z; rw [cutT_hi (Nat.le_refl _)] at e; cases e
  have g := w1.gd.relist (own := own && (imm d || o)) (vs' := vs ++ [y]) (ys := ds ++ [d]) (G := Fa ++ F) e1' hDX fa hG (fun b hb => ?_) (fun h b hb => ?_)
  · refine ⟨vs, h1, h3.len, hG, nd, g, fun i => ?_, fun i hi => ?_, w.len⟩
    · have h := w1.mt i
      cases hj : getS env i with
      | none => rw [hj] at h; show putC _ _ _ _ = none; rw [putC_ne Ky_st]; exact h
      | some s' =>
        rw [hj] at h
        obtain ⟨c', z1, z2⟩ := h
        exact ⟨c', by rw [putC_ne Ky_st]; exact z1, z2⟩
    · rw [putC_ne (by intro z; cases z; omega)]
      exact w1.tm i hi
  · rcases List.mem_append.mp hb with hb | hb
    · exact ⟨fun q c2 hq e hX2 => w1.gd.dis q (.t j) c2 _ hq e e1' b hX2 (List.mem_cons_of_mem _ hb), w.gd.rc _ _ e1 b (List.mem_cons_of_mem _ hb)⟩
    · exact ⟨fun q c2 hq e hX2 => w.gd.dis q (.t (j + 1)) c2 _ (notlast q c2 e) (cutT_some e) e2 b hX2 hb, w.gd.rc _ _ e2 b hb⟩
  · obtain ⟨y1, y2, y3⟩ := ownX h
    rcases List.mem_append.mp hb with hb | hb
    · have hbX : b ∈ Xa := by rw [y1]; exact List.mem_cons_of_mem _ hb
      obtain ⟨k1, k2, k3⟩ := w.gd.wr _ _ e1 b hbX
      exact ⟨fun q c2 hq e => w1.gd.dis (.t j) q _ c2 (Ne.symm hq) e1' e b hbX, k2, k3⟩
    · have hbX : b ∈ X := by rw [y2]; exact hb
      obtain ⟨k1, k2, k3⟩ := w.gd.wr _ _ e2 b hbX
      exact ⟨fun q c2 hq e => w.gd.dis (.t (j + 1)) q _ c2 (Ne.symm (notlast q c2 e)) e2 (cutT_some e) b hbX, k2, k3⟩
end
end Ev
set_option maxHeartbeats 2000000
/-! List comprehensions. -/
namespace Ev
open PySem PySem.Spec PyProof.Rows L2
variable [Tb]

def dim : Od → Od
  | .slot i => .slot i
  | .tmp d _ => .tmp d false
theorem tmpsN_dim : ∀ {os : List Od}, tmpsN (os.map dim) = tmpsN os
  | [] => rfl
  | .slot i :: os => by simp [tmpsN, dim, tmpN, tmpsN_dim]
  | .tmp d o :: os => by simp [tmpsN, dim, tmpN, tmpsN_dim]
theorem fetchAll_dim {env : En} : ∀ {os : List Od}, fetchAll env (os.map dim) = fetchAll env os
  | [] => rfl
  | .slot i :: os => by simp [fetchAll, dim, fetch, fetchAll_dim]
  | .tmp d o :: os => by simp [fetchAll, dim, fetch, fetchAll_dim]
theorem slot_dim {os : List Od} {i : Nat} : Od.slot i ∈ os.map dim ↔ Od.slot i ∈ os := by
  induction os with
  | nil => simp
  | cons o os ih => cases o <;> simp [dim, ih]
theorem slotsIn_mem {os : List Od} {i : Nat} : Od.slot i ∈ os ↔ i ∈ slotsIn os := by
  induction os with
  | nil => simp [slotsIn]
  | cons o os ih => cases o <;> simp [slotsIn, ih]

section
variable {K : PySem.W.Frag} {B : Bd} {H H' : Hp} {n m : Nat} {env env' : En} {σ : L2.St} {cs cs' : Cs}

/-- the temporaries from n on give up what they had alone -/
def dimT (n : Nat) (cs : Cs) : Cs := fun k => match k with
  | .t j => if n ≤ j then (cs (.t j)).map (fun c => { c with X := [] }) else cs (.t j)
  | .s i => cs (.s i)
  | .g i => cs (.g i)
theorem dimT_some {k : Ky} {c : Cell} (h : dimT n cs k = some c) : ∃ c0, cs k = some c0 ∧ c.v = c0.v ∧ c.d = c0.d ∧ c.F = c0.F ∧ ∀ a ∈ c.X, a ∈ c0.X := by
  cases k with
  | s i => exact ⟨c, h, rfl, rfl, rfl, fun _ z => z⟩
  | g i => exact ⟨c, h, rfl, rfl, rfl, fun _ z => z⟩
  | t j =>
    unfold dimT at h
    simp only at h
    split at h
    · simp only [Option.map_eq_some_iff] at h
      obtain ⟨c0, h1, rfl⟩ := h
      exact ⟨c0, h1, rfl, rfl, rfl, fun _ z => by cases z⟩
    · exact ⟨c, h, rfl, rfl, rfl, fun _ z => z⟩
theorem Gd.less {cs' : Cs} (g : Gd K B H cs) (h : ∀ k c, cs' k = some c → ∃ c0, cs k = some c0 ∧ c.v = c0.v ∧ c.d = c0.d ∧ c.F = c0.F ∧ ∀ a ∈ c.X, a ∈ c0.X) : Gd K B H cs' where
  kp := g.kp
  tb := g.tb
  al := g.al
  rc := fun k c e a ha => by
    obtain ⟨c0, e0, h1, h2, h3, h4⟩ := h k c e
    exact g.rc k c0 e0 a (h3 ▸ ha)
  fp := fun k c e => by
    obtain ⟨c0, e0, h1, h2, h3, h4⟩ := h k c e
    rw [h1, h2, h3]; exact g.fp k c0 e0
  wr := fun k c e a ha => by
    obtain ⟨c0, e0, h1, h2, h3, h4⟩ := h k c e
    rw [h3]; exact g.wr k c0 e0 a (h4 a ha)
  dis := fun k k' c c' hne e e' a ha => by
    obtain ⟨c0, e0, h1, h2, h3, h4⟩ := h k c e
    obtain ⟨c1, e1, g1, g2, g3, g4⟩ := h k' c' e'
    rw [g3]
    exact g.dis k k' c0 c1 hne e0 e1 a (h4 a ha)
theorem Wd.dimT (w : Wd K B m env σ H cs) (n : Nat) : Wd K B m env σ H (dimT n cs) where
  gd := w.gd.less fun k c e => dimT_some e
  mt := fun i => by
    have h := w.mt i
    cases hj : getS env i with
    | none => rw [hj] at h; exact h
    | some s' => rw [hj] at h; exact h
  tm := fun j hj => by
    show (if n ≤ j then (cs (.t j)).map _ else cs (.t j)) = none
    rw [w.tm j hj]; split <;> rfl
  len := w.len
theorem dimT_lo {j : Nat} (h : j < n) : dimT n cs (.t j) = cs (.t j) := by simp [dimT, Nat.not_le.mpr h]
theorem dimT_hi {j : Nat} {c : Cell} (h : n ≤ j) (e : dimT n cs (.t j) = some c) : c.X = [] := by
  simp only [dimT, if_pos h, Option.map_eq_some_iff] at e
  obtain ⟨c0, h1, rfl⟩ := e
  rfl
theorem ext_dim : Ext n cs (dimT n cs) := ⟨fun j hj => dimT_lo hj, fun _ => rfl⟩

theorem OdsV.dim {k : Nat} : ∀ {n : Nat} {os : List Od} {vs : List V}, Wd K B m env σ H cs → k ≤ n → OdsV cs σ n os vs → OdsV (dimT k cs) σ n (os.map dim) vs
  | _, _, _, _, _, .nil => .nil
  | n, .slot i :: os, _, w, h, .cons (.slot e) t => .cons (.slot e) (OdsV.dim w (show k ≤ n + 0 from h) t)
  | n, .tmp d o :: os, _, w, h, .cons (v := v) (.tmp (F := F) (X := X) e f) t => by
    refine .cons (.tmp (o := false) (F := F) (X := []) ?_ ?_) (OdsV.dim w (by simp only [tmpN, Ev.dim]; omega) t)
    · simp only [dimT, if_pos h, e, Option.map_some]
    · unfold FitsO
      by_cases q : imm d = true
      · rw [if_pos (.inl q)]
        have : F = [] := (w.gd.fp _ _ e).imm q
        subst this
        exact ⟨rfl, List.nodup_nil⟩
      · rw [if_neg (by rintro (z | z); exact q z; cases z)]
        exact rfl

/-! ### locks -/
theorem Wd.cell (w : Wd K B n env σ H cs) {i : Nat} {s : Sl} (h : getS env i = some s) : ∃ c, cs (.s i) = some c ∧ σ[i]? = some (some c.v) ∧ c.d = s.d ∧ Fits s.fl c := w.mt.slot h
theorem Fits.open {f : Fl} {c : Cell} (w : Fp K H c.v c.d c.F) (h : Fits f c) (hf : f ≠ .own) : Open c := fun a ha => by
  cases f with
  | own => exact absurd rfl hf
  | spn =>
    obtain ⟨xs, b, G, z0, z1, z2, z3⟩ := h
    rw [z2] at ha; simp at ha; subst ha
    rw [z0, z1]; exact z3
  | lck =>
    obtain ⟨xs, b, G, z0, z1, z2, z3⟩ := h
    rw [z2] at ha; simp at ha; subst ha
    rw [z0, z1]; exact z3
  | frz => have h : c.X = [] := h; rw [h] at ha; cases ha
theorem lock1_ok (w : Wd K B n env σ H cs) {i : Nat} {e : En} (h : lock1 env i = some e) :
    ∃ cs', Wd K B n e σ H cs' ∧ Less cs cs' ∧ ∃ s s', getS env i = some s ∧ getS e i = some s' ∧ s'.d = s.d ∧ Still s' := by
  simp only [lock1, Option.map_eq_some_iff] at h
  obtain ⟨s, hs, h⟩ := h
  obtain ⟨c, e1, e2, e3, e4⟩ := w.mt.slot hs
  cases hf : s.fl with
  | own =>
    rw [hf] at h e4
    simp only at h
    obtain ⟨f1, f2⟩ := e4
    by_cases hl : (asL s.d).isSome = true
    · rw [if_pos hl] at h
      subst h
      obtain ⟨xs, hd⟩ := asL_some hl
      have hd' : c.d = .list xs := e3.trans hd
      have q := w.gd.fp _ c e1
      rw [hd'] at q
      obtain ⟨a, vs, G, ev, eF, rd, t⟩ := q.list
      have hn : a ∉ G := by rw [eF] at f2; exact (List.nodup_cons.mp f2).1
      have hX : ∀ b ∈ [a], b ∈ c.X := fun b hb => by rw [f1, eF]; simp at hb; subst hb; exact List.mem_cons_self
      exact ⟨_, w.flag hs e1 (f := .lck) (X := [a]) hX ⟨xs, a, G, hd', eF, rfl, hn⟩, Less.put e1 hX, s, ⟨s.d, .lck⟩, hs, by rw [getS_put (getS_lt hs), if_pos rfl], rfl, .inl rfl⟩
    · rw [if_neg hl] at h
      subst h
      exact ⟨_, w.flag hs e1 (f := .frz) (X := []) (fun a z => by cases z) rfl, Less.put e1 (fun a z => by cases z), s, ⟨s.d, .frz⟩, hs, by rw [getS_put (getS_lt hs), if_pos rfl], rfl, .inr rfl⟩
  | spn =>
    rw [hf] at h e4
    simp only at h
    subst h
    have e4' : Fits .lck { c with X := c.X } := e4
    exact ⟨_, w.flag hs e1 (f := .lck) (X := c.X) (fun a z => z) e4', Less.put e1 (fun a z => z), s, ⟨s.d, .lck⟩, hs, by rw [getS_put (getS_lt hs), if_pos rfl], rfl, .inl rfl⟩
  | lck =>
    rw [hf] at h
    simp only at h
    subst h
    exact ⟨cs, w, Less.refl cs, s, s, hs, hs, rfl, .inl hf⟩
  | frz =>
    rw [hf] at h
    simp only at h
    subst h
    exact ⟨cs, w, Less.refl cs, s, s, hs, hs, rfl, .inr hf⟩
theorem lock1_other {i j : Nat} {e : En} (h : lock1 env i = some e) : ∀ s, getS env j = some s → ∃ s', getS e j = some s' ∧ s'.d = s.d := fun s hj => by
  simp only [lock1, Option.map_eq_some_iff] at h
  obtain ⟨t, hs, h⟩ := h
  have put : ∀ f, ∃ s', getS (putS env i t.d f) j = some s' ∧ s'.d = s.d := fun f => by
    rw [getS_put (getS_lt hs)]
    by_cases q : j = i
    · subst q; rw [hs] at hj; cases hj; rw [if_pos rfl]; exact ⟨_, rfl, rfl⟩
    · rw [if_neg q]; exact ⟨s, hj, rfl⟩
  subst h
  split
  · split <;> exact put _
  · exact put _
  · exact ⟨s, hj, rfl⟩
theorem lockAll_other : ∀ {os : List Od} {env e : En} {j : Nat}, lockAll env os = some e → ∀ s, getS env j = some s → ∃ s', getS e j = some s' ∧ s'.d = s.d
  | [], env, e, j, h, s, hj => by cases h; exact ⟨s, hj, rfl⟩
  | .slot i :: os, env, e, j, h, s, hj => by
    simp only [lockAll, Option.bind_eq_some_iff] at h
    obtain ⟨e1, h1, h2⟩ := h
    obtain ⟨s1, g1, g2⟩ := lock1_other h1 s hj
    obtain ⟨s2, k1, k2⟩ := lockAll_other h2 s1 g1
    exact ⟨s2, k1, k2.trans g2⟩
  | .tmp _ _ :: os, env, e, j, h, s, hj => lockAll_other (os := os) h s hj
theorem lockAll_ok : ∀ {os : List Od} {env e : En} {cs : Cs}, Wd K B n env σ H cs → lockAll env os = some e →
    ∃ cs', Wd K B n e σ H cs' ∧ Less cs cs' ∧ ∀ i, Od.slot i ∈ os → ∃ s, getS e i = some s ∧ Still s
  | [], env, e, cs, w, h => by cases h; exact ⟨cs, w, Less.refl cs, fun i z => by cases z⟩
  | .slot i :: os, env, e, cs, w, h => by
    simp only [lockAll, Option.bind_eq_some_iff] at h
    obtain ⟨e1, h1, h2⟩ := h
    obtain ⟨cs1, w1, l1, s, s', g1, g2, g3, g4⟩ := lock1_ok w h1
    obtain ⟨cs2, w2, l2, q2⟩ := lockAll_ok w1 h2
    refine ⟨cs2, w2, l1.trans l2, fun j hj => ?_⟩
    rcases List.mem_cons.mp hj with z | z
    · cases z
      exact ⟨s', (lockAll_kept h2).st i s' g2 g4, g4⟩
    · exact q2 j z
  | .tmp d o :: os, env, e, cs, w, h => by
    obtain ⟨cs2, w2, l2, q2⟩ := lockAll_ok (os := os) w h
    refine ⟨cs2, w2, l2, fun j hj => ?_⟩
    rcases List.mem_cons.mp hj with z | z
    · cases z
    · exact q2 j z
theorem fetchAll_same {env e : En} : ∀ {os : List Od} {ds : List D}, (∀ i, Od.slot i ∈ os → ∀ s, getS env i = some s → ∃ s', getS e i = some s' ∧ s'.d = s.d) → fetchAll env os = some ds → fetchAll e os = some ds
  | [], ds, _, h => h
  | .slot i :: os, ds, hs, h => by
    simp only [fetchAll, fetch, Option.bind_eq_some_iff, Option.map_eq_some_iff] at h ⊢
    obtain ⟨d, ⟨s, h1, h2⟩, ds', h3, h4⟩ := h
    obtain ⟨s', g1, g2⟩ := hs i List.mem_cons_self s h1
    exact ⟨d, ⟨s', g1, g2.trans h2⟩, ds', fetchAll_same (fun j hj => hs j (List.mem_cons_of_mem _ hj)) h3, h4⟩
  | .tmp d o :: os, ds, hs, h => by
    simp only [fetchAll, fetch, Option.bind_some, Option.map_eq_some_iff] at h ⊢
    obtain ⟨ds', h3, h4⟩ := h
    exact ⟨ds', fetchAll_same (fun j hj => hs j (List.mem_cons_of_mem _ hj)) h3, h4⟩

theorem unlock1_ok {was : En} (w : Wd K B n env σ H cs) (i : Nat) : ∃ cs', Wd K B n (unlock1 was env i) σ H cs' ∧ Less cs cs' := by
  unfold unlock1
  split
  · rename_i s t e1 e2
    split
    · rename_i hf
      obtain ⟨c, c1, c2, c3, c4⟩ := w.mt.slot e2
      rw [hf] at c4
      obtain ⟨xs, a, G, z0, z1, z2, z3⟩ := c4
      by_cases hl : s.fl = .lck
      · rw [if_pos hl]
        exact ⟨_, w.flag e2 c1 (f := .lck) (X := c.X) (fun a z => z) ⟨xs, a, G, z0, z1, z2, z3⟩, Less.put c1 fun a z => z⟩
      · rw [if_neg hl]
        by_cases hfl : flat t.d = true
        · rw [if_pos hfl]
          have fp := w.gd.fp _ c c1
          rw [z0, z1] at fp
          obtain ⟨a', vs, G', ev, eF, rd, tt⟩ := fp.list
          cases eF
          have : G = [] := tt.imm (by rw [← c3, z0] at hfl; simpa [flat] using hfl)
          subst this
          cases hsf : s.fl with
          | own => exact ⟨_, w.flag e2 c1 (f := .own) (X := c.X) (fun a z => z) ⟨by show c.X = c.F; rw [z1, z2], by show c.F.Nodup; rw [z1]; simp⟩, Less.put c1 fun a z => z⟩
          | spn => exact ⟨_, w.flag e2 c1 (f := .spn) (X := c.X) (fun a z => z) ⟨xs, a, [], z0, z1, z2, z3⟩, Less.put c1 fun a z => z⟩
          | frz => exact ⟨_, w.flag e2 c1 (f := .frz) (X := []) (fun a z => by cases z) rfl, Less.put c1 fun a z => by cases z⟩
          | lck => exact absurd hsf hl
        · rw [if_neg hfl]
          exact ⟨_, w.flag e2 c1 (f := .spn) (X := c.X) (fun a z => z) ⟨xs, a, G, z0, z1, z2, z3⟩, Less.put c1 fun a z => z⟩
    · exact ⟨cs, w, Less.refl cs⟩
  · exact ⟨cs, w, Less.refl cs⟩
theorem unlockAll_ok {was : En} : ∀ {os : List Od} {env : En} {cs : Cs}, Wd K B n env σ H cs → ∃ cs', Wd K B n (unlockAll was env os) σ H cs' ∧ Less cs cs'
  | [], env, cs, w => ⟨cs, w, Less.refl cs⟩
  | .slot i :: os, env, cs, w => by
    obtain ⟨cs1, w1, l1⟩ := unlock1_ok (was := was) w i
    obtain ⟨cs2, w2, l2⟩ := unlockAll_ok (os := os) w1
    exact ⟨cs2, w2, l1.trans l2⟩
  | .tmp _ _ :: os, env, cs, w => unlockAll_ok (os := os) w

/-! ### a block's own names -/
def wipeC (own : List Nat) (cs : Cs) : Cs := fun k => match k with
  | .s i => if i ∈ own then none else cs (.s i)
  | .t j => cs (.t j)
  | .g j => cs (.g j)
theorem wipeC_some {own : List Nat} {k : Ky} {c : Cell} (h : wipeC own cs k = some c) : cs k = some c := by
  cases k with
  | s i => simp only [wipeC] at h; split at h; cases h; exact h
  | t j => exact h
  | g j => exact h
theorem wipe_at {own : List Nat} : ∀ {σ : L2.St} {i : Nat}, i ∉ own → (wipe σ own)[i]? = σ[i]? := by
  induction own with
  | nil => intro σ i _; rfl
  | cons v vs ih =>
    intro σ i h
    simp only [List.mem_cons, not_or] at h
    show ((wipe σ vs).set v none)[i]? = _
    rw [List.getElem?_set_ne (Ne.symm h.1), ih h.2]
theorem wipe_in {own : List Nat} : ∀ {σ : L2.St} {i : Nat}, i ∈ own → i < σ.length → (wipe σ own)[i]? = some none := by
  induction own with
  | nil => intro σ i h _; cases h
  | cons v vs ih =>
    intro σ i h hl
    show ((wipe σ vs).set v none)[i]? = _
    by_cases q : v = i
    · subst q; rw [List.getElem?_set_self (by rw [wipe_length]; exact hl)]
    · rw [List.getElem?_set_ne q]
      exact ih ((List.mem_cons.mp h).resolve_left (Ne.symm q)) hl
theorem wipe_eq {own : List Nat} {σ σ' : L2.St} (hl : σ'.length = σ.length) (h : ∀ i, i ∉ own → σ'[i]? = σ[i]?) : wipe σ' own = wipe σ own := by
  refine List.ext_getElem? fun i => ?_
  by_cases q : i ∈ own
  · by_cases hi : i < σ.length
    · rw [wipe_in q hi, wipe_in q (by omega)]
    · rw [List.getElem?_eq_none (by rw [wipe_length]; omega), List.getElem?_eq_none (by rw [wipe_length]; omega)]
  · rw [wipe_at q, wipe_at q, h i q]
theorem wipe_wipe {own : List Nat} {σ : L2.St} : wipe (wipe σ own) own = wipe σ own := wipe_eq (wipe_length _ _) fun i h => wipe_at h
theorem Wd.wipe (w : Wd K B n env σ H cs) (own : List Nat) : Wd K B n (wipeE env own) (L2.wipe σ own) H (wipeC own cs) where
  gd := w.gd.less fun k c e => ⟨c, wipeC_some e, rfl, rfl, rfl, fun _ z => z⟩
  mt := fun i => by
    rw [getS_wipe]
    by_cases q : i ∈ own
    · rw [if_pos q]
      show wipeC own cs (.s i) = none
      simp [wipeC, q]
    · rw [if_neg q]
      have h := w.mt i
      have e : wipeC own cs (.s i) = cs (.s i) := by simp [wipeC, q]
      cases hj : getS env i with
      | none => rw [hj] at h; show wipeC own cs (.s i) = none; rw [e]; exact h
      | some s' =>
        rw [hj] at h
        obtain ⟨c', e1, e2, e3⟩ := h
        exact ⟨c', by rw [e]; exact e1, by rw [wipe_at q]; exact e2, e3⟩
  tm := fun j hj => w.tm j hj
  len := by rw [wipeE_len, wipe_length]; exact w.len
/-- the frame's values where nothing is known don't matter -/
theorem Wd.sig {σ' : L2.St} (w : Wd K B n env σ H cs) (hl : σ'.length = σ.length) (h : ∀ i s, getS env i = some s → σ'[i]? = σ[i]?) : Wd K B n env σ' H cs where
  gd := w.gd
  mt := fun i => by
    have q := w.mt i
    cases hj : getS env i with
    | none => rw [hj] at q; exact q
    | some s' =>
      rw [hj] at q
      obtain ⟨c', e1, e2, e3⟩ := q
      exact ⟨c', e1, by rw [h i s' hj]; exact e2, e3⟩
  tm := w.tm
  len := by rw [w.len, hl]

/-- a temporary is moved down -/
theorem Wd.move (w : Wd K B m env σ H cs) {j : Nat} {c : Cell} (e : cs (.t j) = some c) (h : n ≤ j) : Wd K B (n + 1) env σ H (putC (cutT n cs) (.t n) (some c)) := by
  have no : ∀ q c', cutT n cs q = some c' → q ≠ .t j := fun q c' e' z => by subst z; rw [cutT_hi h] at e'; cases e'
  exact (w.cut n).push (w.gd.fp _ c e) (w.gd.wr _ c e) (w.gd.rc _ c e) (fun q c' e' => w.gd.dis (.t j) q c c' (Ne.symm (no q c' e')) e (cutT_some e')) fun q c' e' a ha => w.gd.dis q (.t j) c' c (no q c' e') (cutT_some e') e a ha
end

/-! ### the tests -/
def tTs (K : PySem.W.Frag) (C : FS) (ifs : List Ex) : TT := fun σ H Q => ∃ B n env cs q, Wd K B n env σ H cs ∧ evTs C ifs env = some q ∧ ∀ H' cs', Wd K B n q.2 σ H' cs' → Ext n cs cs' → Q q.1 H'
theorem PTs_imp {X : Cx} {es : List Expr} {t t' : TT} (h : PTs X es t) (w : ∀ σ H Q, t' σ H Q → t σ H Q) : PTs X es t' := ⟨fun pins s σ H Q I q => h.run pins s σ H Q I (w σ H Q q)⟩
abbrev STs (X : Cx) (C : FS) (ifs : List Ex) (es : List Expr) : Prop := PTs X es (tTs X.K C ifs)
theorem sts_nil {X : Cx} {C : FS} : STs X C [] [] := PTs_imp pts_nil fun σ H Q q => by
  obtain ⟨B, n, env, cs, q, w, h1, hq⟩ := q
  cases h1
  exact hq H cs w Ext.refl
theorem sts_one {X : Cx} {C : FS} {c : Ex} {e : Expr} (h : ST X C c e) : STs X C [c] [e] := PTs_imp (pts_one h) fun σ H Q q => by
  obtain ⟨B, n, env, cs, q, w, h1, hq⟩ := q
  simp only [evTs, Option.bind_eq_some_iff] at h1
  obtain ⟨r, h1, k, h2, h3⟩ := h1
  refine ⟨B, n, env, cs, r, k, w, h1, h2, ?_⟩
  cases k with
  | true => simp only [if_true, Option.some.injEq] at h3; subst h3; exact hq
  | false => simp only [Bool.false_eq_true, if_false, Option.some.injEq] at h3; subst h3; exact hq
end Ev
set_option maxHeartbeats 2000000
/-! List comprehensions: the whole. -/
namespace Ev
open PySem PySem.Spec PyProof.Rows L2
variable [Tb]

section
variable {K : PySem.W.Frag} {B : Bd} {C : FS}

/-- between the turns -/
structure Turns (K : PySem.W.Frag) (B : Bd) (n M : Nat) (own : List Nat) (tg : Tg) (tst : En → Option (Bool × En)) (elt : En → Option Rs) (os : List Od) (ds xs : List D) (vs : List V) (σ : L2.St) (cs0 : Cs) (L : Addr)
    (z : List (D × Bool) × En) (i : Nat) (H : Hp) : Prop where
  go : ∃ env cs accR rest Fa, Wd K B (M + 1) (wipeE env own) (L2.wipe σ own) H cs ∧ Ext n cs0 cs ∧ cs (.t M) = some ⟨.ref L, .list (things accR), L :: Fa, if allOwn accR then L :: Fa else [L]⟩ ∧ L ∉ Fa ∧ (allOwn accR = true → Fa.Nodup) ∧
    accR.length ≤ i ∧ compLoop tg own tst elt (xs.drop i) env = some (rest, z.2) ∧ z.1 = accR ++ rest ∧ OdsV cs (L2.wipe σ own) n (os.map dim) vs ∧ fetchAll (wipeE env own) (os.map dim) = some ds ∧
    (∀ j, Od.slot j ∈ os → ∃ s, getS env j = some s ∧ Still s) ∧ ∀ j c, n ≤ j → j < M → cs (.t j) = some c → c.X = []
  le : i ≤ xs.length

/-- as OdsV.fp, and how far the temporaries go -/
theorem OdsV.fp2 {m : Nat} {env : En} {σ : L2.St} {H : Hp} {cs : Cs} (w : Wd K B m env σ H cs) : ∀ {n : Nat} {os : List Od} {vs : List V} {ds : List D}, OdsV cs σ n os vs → fetchAll env os = some ds →
    ∃ J, FpZ K H vs ds J ∧ ∀ a ∈ J, ∃ k c, cs k = some c ∧ a ∈ inn c.d c.F ∧ ((∃ i, k = .s i ∧ Od.slot i ∈ os) ∨ ∃ j, k = .t j ∧ n ≤ j ∧ j < n + tmpsN os)
  | _, _, _, _, .nil, f => by
    simp only [fetchAll, Option.some.injEq] at f
    subst f
    exact ⟨[], .nil, fun a z => by cases z⟩
  | n, o :: os, v :: vs, ds, .cons h t, f => by
    simp only [fetchAll, Option.bind_eq_some_iff, Option.map_eq_some_iff] at f
    obtain ⟨d, f1, ds', f2, rfl⟩ := f
    obtain ⟨k, c, e1, e2, e3, e4⟩ := h.cell w f1
    obtain ⟨J, q1, q2⟩ := OdsV.fp2 w t f2
    have fp := w.gd.fp k c e1
    rw [e2, e3] at fp
    refine ⟨_, .cons fp q1, fun a ha => ?_⟩
    rcases List.mem_append.mp ha with ha | ha
    · refine ⟨k, c, e1, by rw [e3]; exact ha, ?_⟩
      cases o with
      | slot i => exact .inl ⟨i, e4, List.mem_cons_self⟩
      | tmp d o => exact .inr ⟨n, e4, Nat.le_refl _, by simp only [tmpsN, tmpN]; omega⟩
    · obtain ⟨k', c', z1, z2, z3⟩ := q2 a ha
      refine ⟨k', c', z1, z2, ?_⟩
      rcases z3 with ⟨i, y1, y2⟩ | ⟨j, y1, y2, y3⟩
      · exact .inl ⟨i, y1, List.mem_cons_of_mem _ y2⟩
      · exact .inr ⟨j, y1, by omega, by simp only [tmpsN]; omega⟩
theorem things_append {a b : List (D × Bool)} : things (a ++ b) = things a ++ things b := by simp [things]
theorem allOwn_append {a b : List (D × Bool)} : allOwn (a ++ b) = (allOwn a && allOwn b) := by simp [allOwn]

theorem fitsO_frz {H : Hp} {v : V} {d : D} {F : List Addr} (fp : Fp K H v d F) : FitsO false ⟨v, d, F, []⟩ := by
  unfold FitsO
  by_cases q : imm d = true
  · rw [if_pos (.inl q)]
    have := fp.imm q
    subst this
    exact ⟨rfl, List.nodup_nil⟩
  · rw [if_neg (by rintro (z | z); exact q z; cases z)]
    exact rfl
theorem tgHas_in {tg : Tg} {own : List Nat} {j : Nat} (h : tgIn tg own = true) (t : tgHas tg j) : j ∈ own := by
  cases tg with
  | nm i => have t : j = i := t; subst t; simpa [tgIn] using h
  | tp is =>
    have h : ∀ x ∈ is, x ∈ own := by simpa [tgIn] using h
    exact h j t
theorem comp_read {elt : Ex} {tg : Tg} {k : Ik} {its ifs : List Ex} {own : List Nat} {σ : L2.St} {H : Hp} {Q : VK} (q : tEx K C (.comp elt tg k its ifs own) σ H Q) :
    tLc (tIt K C k its) (tTg K tg) (tTs K C ifs) (tEx K C elt) own σ H Q := by
  obtain ⟨B, n, env, cs, r, w, h1, hq⟩ := q
  simp only [evE, Option.bind_eq_some_iff] at h1
  obtain ⟨⟨os, e0⟩, h1, ds, h2, xs, h3, h4⟩ := h1
  split at h4
  case isFalse => cases h4
  rename_i hc
  simp only [Bool.and_eq_true, decide_eq_true_eq] at hc
  obtain ⟨⟨htg, hoff⟩, hlen⟩ := hc
  simp only [Option.bind_eq_some_iff, Option.map_eq_some_iff] at h4
  obtain ⟨e1, h5, z, h6, rfl⟩ := h4
  have hoff' : ∀ j, Od.slot j ∈ os → j ∉ own ++ (ownsE elt ++ ownsEs ifs) := fun j hj => by
    have := List.all_eq_true.mp hoff j (slotsIn_mem.mp hj)
    simpa using this
  refine ⟨B, n, env, cs, os, e0, ds, xs, w, h1, h2, h3, fun vs H1 cs1 J w1 x1 v1 wk D hD => ?_⟩
  -- operands held, the block's names off, the new list laid
  have w2 := w1.dimT n
  have v2 : OdsV (dimT n cs1) σ n (os.map dim) vs := v1.dim w1 (Nat.le_refl n)
  obtain ⟨cs3, w3, l3, st3⟩ := lockAll_ok w2 h5
  have v3 : OdsV cs3 σ n (os.map dim) vs := v2.less l3
  have w4 := w3.wipe own
  have hsl : ∀ j, Od.slot j ∈ os → j ∉ own := fun j hj z => hoff' j hj (List.mem_append_left _ z)
  generalize hM : n + tmpsN os = M at w1 w2 w3 w4
  have dimWipe : ∀ {n' : Nat} {os' : List Od} {vs : List V}, (∀ j, Od.slot j ∈ os' → j ∉ own) → OdsV cs3 σ n' os' vs → OdsV (wipeC own cs3) (L2.wipe σ own) n' os' vs := by
    intro n' os' vs hs hv
    induction hv with
    | nil => exact .nil
    | cons h t ih =>
      refine .cons ?_ (ih fun j hj => hs j (List.mem_cons_of_mem _ hj))
      cases h with
      | slot e => exact .slot (by rw [wipe_at (hs _ List.mem_cons_self)]; exact e)
      | tmp e f => exact .tmp e f
  have v4 : OdsV (wipeC own cs3) (L2.wipe σ own) n (os.map dim) vs := dimWipe (fun j hj => hsl j (slot_dim.mp hj)) v3
  have sm := same_upd (o := .lst []) hD
  have w5 := w4.pushNew (v := .ref D) (d := .list []) (G := [D]) sm (.lst (F := []) (.inl upd_same) .nil) (fun a ha => by simp at ha; subst ha; exact hD) (fun a ha => by simp at ha; subst ha; rw [upd_same]; trivial)
  have f1 : fetchAll e1 os = some ds := fetchAll_same (fun j _ s hs => lockAll_other h5 s hs) h2
  have x4 : Ext n cs (wipeC own cs3) := (x1.trans (Nat.le_refl n) (ext_dim.trans (Nat.le_refl n) l3.ext)).trans (Nat.le_refl n) ⟨fun _ _ => rfl, fun _ => rfl⟩
  refine ⟨fun i m H => Turns K B n M own tg (evTs C ifs) (evE C elt) os ds xs vs σ cs D z i H ∧ m = xs.length - i, ⟨_, ⟨⟨e1, _, [], z.1, [], w5, ?_, putC_same, (by simp), fun _ => List.nodup_nil, Nat.le_refl _, by rw [List.drop_zero]; exact h6, rfl, ?_, ?_, st3, fun j c hj hj2 e => ?_⟩, Nat.zero_le _⟩, rfl⟩, ?_⟩
  · exact x4.trans (by omega) (Ext.put (n := M))
  · exact v4.ext (by rw [tmpsN_dim, hM]; exact Ext.put)
  · rw [fetchAll_dim]
    exact fetchAll_same (fun j hj s hs => ⟨s, by rw [getS_wipe, if_neg (hsl j hj)]; exact hs, rfl⟩) f1
  · rw [putC_ne (by intro z; cases z; omega)] at e
    have e : cs3 (.t j) = some c := e
    rw [l3.t] at e
    exact dimT_hi hj e
  · rintro i m H2 ⟨⟨⟨env2, cs5, accR, rest, Fa, w6, x6, e6, nD, nF, la, hl, hz, v6, f6, st6, t6⟩, hle⟩, rfl⟩
    -- what is walked
    obtain ⟨Jf, z1, z2⟩ := v6.fp2 w6 f6
    rw [tmpsN_dim, hM] at z2
    obtain ⟨wgo, wstop⟩ := wk H2 Jf z1 i
    have open' : ∀ a ∈ Jf, (∀ q c', cs5 q = some c' → a ∉ c'.X) ∧ (B.H0 a = none ∨ a ∈ B.R) := fun a ha => by
      obtain ⟨kk, c, c1, c2, c3⟩ := z2 a ha
      refine ⟨fun q c' e hX => ?_, w6.gd.rc kk c c1 a (inn_sub a c2)⟩
      by_cases hq' : q = kk
      · subst hq'
        rw [c1] at e; cases e
        rcases c3 with ⟨j, rfl, hj⟩ | ⟨j, rfl, hj, hjM⟩
        · obtain ⟨s, g1, g2⟩ := st6 j (slot_dim.mp hj)
          have g3 : getS (wipeE env2 own) j = some s := by rw [getS_wipe, if_neg (hsl j (slot_dim.mp hj))]; exact g1
          obtain ⟨c0, y1, y2, y3, y4⟩ := w6.mt.slot g3
          rw [c1] at y1; cases y1
          exact y4.open (w6.gd.fp _ c c1) (by rcases g2 with z | z <;> rw [z] <;> intro y <;> cases y) a hX c2
        · rw [t6 j c hj hjM c1] at hX; cases hX
      · exact w6.gd.dis q kk c' c hq' e c1 a hX (inn_sub a c2)
    by_cases hi : i < xs.length
    · -- a turn
      right
      have hx : xs[i]? = some xs[i] := List.getElem?_eq_getElem hi
      obtain ⟨jgo, jy⟩ := wgo _ hx
      refine ⟨jgo, fun H' => Turns K B n M own tg (evTs C ifs) (evE C elt) os ds xs vs σ cs D z (i + 1) H', fun H' t => ⟨xs.length - (i + 1), by omega, t, rfl⟩, fun x H3 y => ?_⟩
      obtain ⟨sm3, F, fx, sub⟩ := jy x H3 y
      have w7 := w6.pushFrz sm3 fx (fun a ha => .inr (open' a (sub a ha)).1) fun a ha => .inr (open' a (sub a ha)).2
      rw [List.drop_eq_getElem_cons hi] at hl
      simp only [compLoop, Option.bind_eq_some_iff] at hl
      obtain ⟨e2, g1, qt, g2, g3⟩ := hl
      refine ⟨B, M + 1, wipeE env2 own, _, xs[i], false, e2, F, [], w7, putC_same, fitsO_frz fx, g1, fun σ2 cs7 w8 x8 hs8 hl8 => ?_⟩
      have hσ : L2.wipe σ2 own = L2.wipe σ own := by
        rw [wipe_eq hl8 fun j hj => hs8 j fun t => hj (tgHas_in htg t), wipe_wipe]
      refine ⟨hσ, B, M + 1, e2, cs7, qt, w8, g2, fun H4 cs8 w9 x9 => ?_⟩
      have hx8 : Ext (M + 1) cs5 cs8 := ((Ext.put (n := M + 1)).trans (Nat.le_refl _) x8).trans (Nat.le_refl _) x9
      have kb : KeptB (own ++ (ownsE elt ++ ownsEs ifs)) env2 qt.2 := ((wipe_kept.trans (assignT_kept htg g1)).mono fun i h => List.mem_append_left _ h).trans (evTs_kept ifs (fun i h => List.mem_append_right _ (List.mem_append_right _ h)) g2)
      have still : ∀ {env3 : En}, KeptB (own ++ (ownsE elt ++ ownsEs ifs)) env2 env3 → (∀ j, Od.slot j ∈ os → ∃ s, getS env3 j = some s ∧ Still s) ∧ fetchAll (wipeE env3 own) (os.map dim) = some ds := fun {env3} kb => by
        refine ⟨fun j hj => ?_, fetchAll_same (fun j hj s hs => ?_) f6⟩
        · obtain ⟨s, y1, y2⟩ := st6 j hj
          exact ⟨s, kb.st j s (hoff' j hj) y1 y2, y2⟩
        · have hj := slot_dim.mp hj
          obtain ⟨s', y1, y2⟩ := st6 j hj
          rw [getS_wipe, if_neg (hsl j hj), y1] at hs
          have hs : s' = s := by simpa using hs
          exact ⟨s', by rw [getS_wipe, if_neg (hsl j hj)]; exact kb.st j s' (hoff' j hj) y1 y2, by rw [hs]⟩
      -- how a turn ends
      have fin : ∀ {env3 : En} {H5 : Hp} {cs9 : Cs} {accR' rest' : List (PyData × Bool)} {Fb : List Addr}, Wd K B (M + 1) env3 σ2 H5 cs9 → Ext M cs5 cs9 → cs9 (.t M) = some ⟨.ref D, .list (things accR'), D :: Fb, if allOwn accR' then D :: Fb else [D]⟩ → D ∉ Fb → (allOwn accR' = true → Fb.Nodup) →
          accR'.length ≤ i + 1 → KeptB (own ++ (ownsE elt ++ ownsEs ifs)) env2 env3 → compLoop tg own (evTs C ifs) (evE C elt) (xs.drop (i + 1)) env3 = some (rest', z.2) → z.1 = accR' ++ rest' →
          Turns K B n M own tg (evTs C ifs) (evE C elt) os ds xs vs σ cs D z (i + 1) H5 := fun {env3 H5 cs9 accR' rest' Fb} w x e nD nF la kb hl hz => by
        have w' := w.wipe own
        rw [hσ] at w'
        have x' : Ext M cs5 (wipeC own cs9) := x.trans (Nat.le_refl _) ⟨fun _ _ => rfl, fun _ => rfl⟩
        refine ⟨⟨env3, wipeC own cs9, accR', rest', Fb, w', x6.trans (by omega) x', e, nD, nF, la, hl, hz, v6.ext (by rw [tmpsN_dim, hM]; exact x'), (still kb).2, (still kb).1, fun j c hj hj2 e' => ?_⟩, hi⟩
        have e' : cs9 (.t j) = some c := e'
        rw [x.t j hj2] at e'
        exact t6 j c hj hj2 e'
      split at g3
      · rename_i hq1
        simp only [hq1, if_true]
        simp only [Option.bind_eq_some_iff, Option.map_eq_some_iff, Prod.mk.injEq] at g3
        obtain ⟨r1, g4, ⟨rest', ze⟩, g5, g6, g7⟩ := g3
        have g7 : ze = z.2 := g7
        subst g7
        refine ⟨B, M + 1, qt.2, cs8, r1, w9, g4, fun v H5 cs9 F1 X1 w10 x10 e10 f10 => ?_⟩
        have eM : cs9 (.t M) = some ⟨.ref D, .list (things accR), D :: Fa, if allOwn accR then D :: Fa else [D]⟩ := (x10.t M (by omega)).trans ((hx8.t M (by omega)).trans e6)
        obtain ⟨us, a1, a2, a3, a4, a5⟩ := acc_ok w10 eM rfl nD nF e10 f10
        refine ⟨us, a1, ?_, ?_⟩
        · rw [a2]
          have : (things accR).length ≤ i := by simpa [things] using la
          exact Nat.lt_of_lt_of_le (Nat.lt_of_le_of_lt this (Nat.lt_trans hi hlen)) (by decide)
        · have eOwn : allOwn (accR ++ [(r1.d, r1.own)]) = (allOwn accR && (imm r1.d || r1.own)) := by simp [allOwn]
          refine fin (accR' := accR ++ [(r1.d, r1.own)]) (rest' := rest') a5 ?_ ?_ a3 ?_ (by simpa using la) (kb.trans (evE_kept elt (fun i h => List.mem_append_right _ (List.mem_append_left _ h)) g4)) g5 ?_
          · refine ⟨fun j hj => ?_, fun j => ?_⟩
            · rw [putC_ne (by intro z; cases z; omega), cutT_lo (by omega), x10.t j (by omega), hx8.t j (by omega)]
            · rw [putC_ne (by intro z; cases z)]
              exact (x10.g j).trans (hx8.g j)
          · rw [putC_same, eOwn, things_append]; rfl
          · rw [eOwn]; exact a4
          · rw [hz, ← g6]; simp
      · rename_i hq1
        simp only [hq1, Bool.false_eq_true, if_false]
        have hx9 : Ext M cs5 cs8 := ⟨fun j hj => hx8.t j (by omega), hx8.g⟩
        exact fin w9 hx9 ((hx8.t M (by omega)).trans e6) nD nF (by omega) kb g3 hz
    · -- the end
      left
      have hie : xs.length = i := by omega
      refine ⟨wstop hie, ?_⟩
      rw [List.drop_eq_nil_of_le (by omega)] at hl
      simp only [compLoop, Option.some.injEq, Prod.mk.injEq] at hl
      obtain ⟨rfl, h8⟩ := hl
      rw [List.append_nil] at hz
      have w8 : Wd K B (M + 1) (wipeE env2 own) σ H2 cs5 := w6.sig (by rw [wipe_length]) fun j s hs => by
        rw [getS_wipe] at hs
        by_cases hj : j ∈ own
        · rw [if_pos hj] at hs; cases hs
        · rw [wipe_at hj]
      rw [h8] at w8
      obtain ⟨cs9, w9, l9⟩ := unlockAll_ok (was := e0) (os := os) w8
      have e9 : cs9 (.t M) = some ⟨.ref D, .list (things accR), D :: Fa, if allOwn accR then D :: Fa else [D]⟩ := (l9.t M).trans e6
      have w10 := w9.move e9 (n := n) (by omega)
      have x10 : Ext n cs (putC (cutT n cs9) (.t n) (some ⟨.ref D, .list (things accR), D :: Fa, if allOwn accR then D :: Fa else [D]⟩)) := ((x6.trans (Nat.le_refl n) l9.ext).cut).trans (Nat.le_refl n) Ext.put
      rw [hz] at hq
      by_cases ho : allOwn accR = true
      · rw [if_pos ho] at w10 x10
        refine hq (.ref D) H2 _ (D :: Fa) (D :: Fa) w10 x10 putC_same ?_
        show FitsO (allOwn accR) _
        rw [ho]
        unfold FitsO
        rw [if_pos (.inr rfl)]
        exact ⟨rfl, List.nodup_cons.mpr ⟨nD, nF ho⟩⟩
      · refine hq (.ref D) H2 _ (D :: Fa) [] (w10.tfrz putC_same) (x10.trans (Nat.le_refl n) Ext.put) putC_same ?_
        have ho : allOwn accR = false := by simpa using ho
        show FitsO (allOwn accR) _
        rw [ho]
        unfold FitsO
        rw [if_neg (by rintro (z | z) <;> simp [imm] at z)]
        exact rfl
end
end Ev
set_option maxHeartbeats 2000000
/-! Methods of lists. -/
namespace Ev
open PySem PySem.Spec PyProof.Rows L2
variable [Tb]

section
variable {K : PySem.W.Frag} {B : Bd} {H H' : Hp} {n m : Nat} {env env' : En} {σ : L2.St} {cs cs' : Cs}

theorem FpAll.takeS : ∀ {vs : List V} {ds : List D} {F : List Addr} (n : Nat), FpAll K H vs ds F → ∃ G, FpAll K H (vs.take n) (ds.take n) G ∧ G.Sublist F
  | _, _, _, 0, h => ⟨[], .nil, List.nil_sublist _⟩
  | _, _, _, _ + 1, .nil => ⟨[], .nil, List.nil_sublist _⟩
  | _, _, _, n + 1, .cons h t => by
    obtain ⟨G, h1, h2⟩ := FpAll.takeS n t
    exact ⟨_, .cons h h1, (List.Sublist.refl _).append h2⟩
theorem FpAll.eraseS : ∀ {vs : List V} {ds : List D} {F : List Addr} (j : Nat), FpAll K H vs ds F → ∃ G, FpAll K H (vs.eraseIdx j) (ds.eraseIdx j) G ∧ G.Sublist F
  | _, _, _, _, .nil => ⟨[], .nil, List.nil_sublist _⟩
  | _, _, _, 0, .cons (F := F) (G := G) h t => ⟨G, t, List.sublist_append_right F G⟩
  | _, _, _, n + 1, .cons h t => by
    obtain ⟨G, h1, h2⟩ := FpAll.eraseS n t
    exact ⟨_, .cons h h1, (List.Sublist.refl _).append h2⟩
theorem FpAll.setS {v : V} {d : D} (fp : Fp K H v d []) : ∀ {vs : List V} {ds : List D} {F : List Addr} (j : Nat), FpAll K H vs ds F → ∃ G, FpAll K H (vs.set j v) (ds.set j d) G ∧ G.Sublist F
  | _, _, _, _, .nil => ⟨[], .nil, List.nil_sublist _⟩
  | _, _, _, 0, .cons (F := F) (G := G) h t => ⟨_, .cons fp t, List.sublist_append_right F G⟩
  | _, _, _, n + 1, .cons h t => by
    obtain ⟨G, h1, h2⟩ := FpAll.setS fp n t
    exact ⟨_, .cons h h1, (List.Sublist.refl _).append h2⟩
theorem FpAll.setA {v : V} {d : D} {Fv : List Addr} (fp : Fp K H v d Fv) : ∀ {vs : List V} {ds : List D} {F : List Addr} (j : Nat), FpAll K H vs ds F → ∃ G, FpAll K H (vs.set j v) (ds.set j d) G ∧ ∀ a ∈ G, a ∈ F ∨ a ∈ Fv
  | _, _, _, _, .nil => ⟨[], .nil, fun a z => by cases z⟩
  | _, _, _, 0, .cons (F := F) (G := G) h t => ⟨_, .cons fp t, fun a ha => (List.mem_append.mp ha).elim .inr fun z => .inl (List.mem_append_right _ z)⟩
  | _, _, _, n + 1, .cons h t => by
    obtain ⟨G, h1, h2⟩ := FpAll.setA fp n t
    refine ⟨_, .cons h h1, fun a ha => (List.mem_append.mp ha).elim (fun z => .inl (List.mem_append_left _ z)) fun z => (h2 a z).elim (fun y => .inl (List.mem_append_right _ y)) .inr⟩

/-- a list inside gets other things -/
theorem FpAll.inner {l : Addr} {us' : List V} {ys : List D} : ∀ {vs : List V} {ds : List D} {F : List Addr} {j : Nat} {xs : List D}, FpAll K H vs ds F → F.Nodup → ds[j]? = some (.list xs) → immAll xs = true → vs[j]? = some (.ref l) → Mut (H l) → FpAll K H us' ys [] →
    FpAll K (upd H l (.lst us')) vs (ds.set j (.list ys)) F ∧ l ∈ F
  | _, _, _, _, _, .nil, _, e, _, _, _, _ => by simp at e
  | _, _, _, 0, xs, .cons (F := F1) (G := G1) h t, nd, e, hi, ev, mu, fy => by
    simp only [List.getElem?_cons_zero, Option.some.injEq] at e ev
    subst e
    subst ev
    obtain ⟨a, vs, G, e1, e2, rd, tt⟩ := h.list
    cases e1
    have : G = [] := tt.imm hi
    subst this
    subst e2
    have nl : l ∉ G1 := fun z => by
      have := (List.nodup_append.mp nd).2.2 l (by simp) l z
      exact this rfl
    refine ⟨.cons (.lst (.inl upd_same) (fy.keeps (Keeps.upd mu) fun b hb => by cases hb)) (t.keeps (Keeps.upd mu) fun b hb z => ?_), by simp⟩
    simp at z; subst z; exact nl hb
  | _, _, _, j + 1, xs, .cons (F := F1) (G := G1) h t, nd, e, hi, ev, mu, fy => by
    obtain ⟨n1, n2, n3⟩ := List.nodup_append.mp nd
    obtain ⟨t', hl⟩ := FpAll.inner (j := j) t n2 (by simpa using e) hi (by simpa using ev) mu fy
    refine ⟨.cons (h.keeps (Keeps.upd mu) fun b hb z => ?_) t', List.mem_append_right _ hl⟩
    simp at z; subst z; exact n3 _ hb _ hl rfl

/-- what a slot holds whose list may be changed -/
theorem Wd.slotL (w : Wd K B n env σ H cs) {i : Nat} {s : Sl} {xs : List D} (hs : getS env i = some s) (hd : s.d = .list xs) (hc : canChange s.fl = true) :
    ∃ a G X us, cs (.s i) = some ⟨.ref a, .list xs, a :: G, X⟩ ∧ σ[i]? = some (some (.ref a)) ∧ H a = some (.lst us) ∧ FpAll K H us xs G ∧ a ∈ X ∧ a ∉ G ∧ ((s.fl = .own ∧ X = a :: G ∧ G.Nodup) ∨ (s.fl = .spn ∧ X = [a])) := by
  obtain ⟨⟨v, d, F, X⟩, e1, e2, e3, e4⟩ := w.mt.slot hs
  have e3 : d = s.d := e3
  rw [hd] at e3
  subst e3
  have fp := w.gd.fp _ _ e1
  obtain ⟨a, us, G, ev, eF, rd, t⟩ := fp.list
  have ev : v = .ref a := ev
  have eF : F = a :: G := eF
  subst ev
  subst eF
  have key : a ∈ X ∧ a ∉ G ∧ ((s.fl = .own ∧ X = a :: G ∧ G.Nodup) ∨ (s.fl = .spn ∧ X = [a])) := by
    cases hf : s.fl with
    | own =>
      rw [hf] at e4
      obtain ⟨f1, f2⟩ := e4
      have f1 : X = a :: G := f1
      have f2 : (a :: G).Nodup := f2
      exact ⟨by rw [f1]; exact List.mem_cons_self, (List.nodup_cons.mp f2).1, .inl ⟨rfl, f1, (List.nodup_cons.mp f2).2⟩⟩
    | spn =>
      rw [hf] at e4
      obtain ⟨_, b, G', _, e5, e6, e7⟩ := e4
      have e5 : a :: G = b :: G' := e5
      cases e5
      have e6 : X = [a] := e6
      exact ⟨by rw [e6]; simp, e7, .inr ⟨rfl, e6⟩⟩
    | frz => rw [hf] at hc; simp [canChange] at hc
    | lck => rw [hf] at hc; simp [canChange] at hc
  obtain ⟨k1, k2, k3⟩ := key
  obtain ⟨us', h1, _, h3⟩ := w.gd.lstAt (c := ⟨.ref a, .list xs, a :: G, X⟩) e1 k1 rfl rfl
  exact ⟨a, G, X, us', e1, e2, h1, h3, k1, k2, k3⟩

theorem Wd.relist (w : Wd K B n env σ H cs) {i : Nat} {s : Sl} {a : Addr} {xs ys : List D} {G G' X : List Addr} {vs' : List V} {own : Bool} {fl : Fl} (hs : getS env i = some s) (e : cs (.s i) = some ⟨.ref a, .list xs, a :: G, X⟩) (ha : a ∈ X) (hσ : σ[i]? = some (some (.ref a)))
    (fp : FpAll K H vs' ys G') (haG : a ∉ G') (A : ∀ b ∈ G', (∀ q c2, q ≠ .s i → cs q = some c2 → b ∉ c2.X) ∧ (B.H0 b = none ∨ b ∈ B.R)) (O : own = true → ∀ b ∈ G', (∀ q c2, q ≠ .s i → cs q = some c2 → b ∉ c2.F) ∧ Mut (H b) ∧ (B.H0 b = none ∨ b ∈ B.L))
    (nd : own = true → G'.Nodup) (hfl : (fl = .own ∧ own = true) ∨ (fl = .spn ∧ own = false)) :
    Wd K B n (putS env i (.list ys) fl) σ (upd H a (.lst vs')) (putC cs (.s i) (some ⟨.ref a, .list ys, a :: G', if own then a :: G' else [a]⟩)) where
  gd := w.gd.relist e ha fp haG A O
  mt := fun j => by
    rw [getS_put (getS_lt hs)]
    by_cases q : j = i
    · subst q
      rw [if_pos rfl]
      refine ⟨_, putC_same, hσ, rfl, ?_⟩
      rcases hfl with ⟨rfl, rfl⟩ | ⟨rfl, rfl⟩
      · exact ⟨rfl, List.nodup_cons.mpr ⟨haG, nd rfl⟩⟩
      · exact ⟨ys, a, G', rfl, rfl, rfl, haG⟩
    · rw [if_neg q]
      have h := w.mt j
      have ne : Ky.s j ≠ Ky.s i := fun z => by cases z; exact q rfl
      cases hj : getS env j with
      | none => rw [hj] at h; show putC _ _ _ _ = none; rw [putC_ne ne]; exact h
      | some s' =>
        rw [hj] at h
        obtain ⟨c', e1, e2, e3⟩ := h
        exact ⟨c', by rw [putC_ne ne]; exact e1, e2, e3⟩
  tm := fun j hj => by rw [putC_ne Ky_ts]; exact w.tm j hj
  len := by rw [putS_len]; exact w.len

/-- a part of the same list's things -/
theorem Wd.relistSub (w : Wd K B n env σ H cs) {i : Nat} {s : Sl} {a : Addr} {xs ys : List D} {G G' X : List Addr} {vs' : List V} (keep : Bool) (hs : getS env i = some s) (e : cs (.s i) = some ⟨.ref a, .list xs, a :: G, X⟩) (ha : a ∈ X) (hσ : σ[i]? = some (some (.ref a)))
    (haG : a ∉ G) (hX : (s.fl = .own ∧ X = a :: G ∧ G.Nodup) ∨ (s.fl = .spn ∧ X = [a])) (fp : FpAll K H vs' ys G') (sub : G'.Sublist G) :
    ∃ X', Wd K B n (putS env i (.list ys) (if keep then s.fl else .spn)) σ (upd H a (.lst vs')) (putC cs (.s i) (some ⟨.ref a, .list ys, a :: G', X'⟩)) ∧ (keep = false → X' = [a]) := by
  have inG : ∀ b ∈ G', b ∈ G := fun b hb => sub.subset hb
  have A : ∀ b ∈ G', (∀ q c2, q ≠ .s i → cs q = some c2 → b ∉ c2.X) ∧ (B.H0 b = none ∨ b ∈ B.R) := fun b hb => ⟨fun q c2 hq e2 hX => w.gd.dis q (.s i) c2 _ hq e2 e b hX (List.mem_cons_of_mem _ (inG b hb)), w.gd.rc _ _ e b (List.mem_cons_of_mem _ (inG b hb))⟩
  rcases hX with ⟨h1, h2, h3⟩ | ⟨h1, h2⟩
  · cases keep with
    | true => exact ⟨_, w.relist (own := true) (fl := .own) hs e ha hσ fp (fun z => haG (inG a z)) A (fun _ b hb => by
        have hbX : b ∈ X := by rw [h2]; exact List.mem_cons_of_mem _ (inG b hb)
        obtain ⟨z1, z2, z3⟩ := w.gd.wr _ _ e b hbX
        exact ⟨fun q c2 hq e2 => w.gd.dis (.s i) q _ c2 (Ne.symm hq) e e2 b hbX, z2, z3⟩) (fun _ => h3.sublist sub) (.inl ⟨rfl, rfl⟩) |> (by rw [h1] <;> exact ·), fun z => by cases z⟩
    | false => exact ⟨[a], w.relist (own := false) (fl := .spn) hs e ha hσ fp (fun z => haG (inG a z)) A (fun z => by cases z) (fun z => by cases z) (.inr ⟨rfl, rfl⟩), fun _ => rfl⟩
  · have key := w.relist (own := false) (fl := .spn) hs e ha hσ fp (fun z => haG (inG a z)) A (fun z => by cases z) (fun z => by cases z) (.inr ⟨rfl, rfl⟩)
    refine ⟨[a], ?_, fun _ => rfl⟩
    cases keep with
    | true => rw [h1]; exact key
    | false => exact key
end

section
variable {X : Cx} {C : FS}

theorem Ext.puts' {n : Nat} {cs : Cs} {i : Nat} {c : Option Cell} : Ext n cs (putC cs (.s i) c) := ⟨fun j _ => putC_ne Ky_ts, fun j => putC_ne (by intro z; cases z)⟩
theorem gather_len {env : En} : ∀ {os : List Od} {q : List (D × Bool) × En}, gather env os = some q → q.1.length = os.length := by
  intro os
  induction os generalizing env with
  | nil => intro q h; cases h; rfl
  | cons o os ih =>
    intro q h
    simp only [gather, Option.bind_eq_some_iff, Option.map_eq_some_iff] at h
    obtain ⟨r, h1, q', h2, rfl⟩ := h
    simp [ih h2]

theorem se_append {i : Nat} {as : List Ex} {e : Expr} (h : PE X e (tBM X.K "list" rAppend (tVar i) (tOs X.K C as))) : SE X C (.meth .append i as) e := PE_imp h fun σ H Q q => by
  obtain ⟨B, n, env, cs, r, w, h1, hq⟩ := q
  simp only [evE, Option.bind_eq_some_iff] at h1
  obtain ⟨s0, g1, xs0, g2, ⟨os, e1⟩, g3, z, g4, s, g5, xs, g6, wr, g7, g8⟩ := h1
  split at g8
  case isFalse => cases g8
  rename_i hcc
  cases g8
  obtain ⟨c0, k1, k2, k3, k4⟩ := w.mt.slot g1
  refine ⟨c0.v, k2, ?_⟩
  have hd0 : s0.d = .list xs0 := by
    cases hh : s0.d <;> rw [hh] at g2 <;> simp [asL] at g2
    rw [g2]
  have fp0 := w.gd.fp _ _ k1
  rw [k3, hd0] at fp0
  obtain ⟨a0, us0, G0, ev0, eF0, rd0, t0⟩ := fp0.list
  rw [ev0]
  refine ⟨.inl ⟨rfl, us0, .inl rd0⟩, B, n, env, cs, os, e1, w, g3, fun vs H' cs' w' x v' => ?_⟩
  obtain ⟨cs1, F, w1, l1, f1, A, B1⟩ := gather_ok w' v' g4
  obtain ⟨A', B'⟩ := gather_end (own := allOwn z.1) (n := n) w1 A B1
  have hd : s.d = .list xs := by
    cases hh : s.d <;> rw [hh] at g6 <;> simp [asL] at g6
    rw [g6]
  have w2 := w1.cut n
  obtain ⟨a, G, Xc, us, e2, eσ, hH, fG, haX, haG, hX⟩ := w2.slotL g5 hd hcc
  have ea : a = a0 := by
    rw [ev0, eσ] at k2
    simpa using k2
  subst ea
  -- one thing
  have one : ∃ d, things z.1 = [d] ∧ wr = (.none, xs ++ [d]) ∧ xs.length < big := by
    cases hz : things z.1 with
    | nil => rw [hz] at g7; simp [change] at g7
    | cons d r =>
      cases r with
      | cons d2 r => rw [hz] at g7; simp [change] at g7
      | nil =>
        rw [hz] at g7
        obtain ⟨y1, y2⟩ := guardO_some (show guardO (decide (xs.length < big)) (PyData.none, xs ++ [d]) = some wr from g7)
        exact ⟨d, rfl, y2.symm, by simpa using y1⟩
  obtain ⟨d, hz, rfl, hlen⟩ := one
  rw [hz] at f1
  have hv : ∃ v, vs = [v] := by
    have := f1.len
    match vs, this with
    | [v], _ => exact ⟨v, rfl⟩
  obtain ⟨v, rfl⟩ := hv
  refine ⟨a, us, v, rfl, rfl, hH, ?_, ?_⟩
  · rw [fG.len]
    exact Nat.lt_of_lt_of_le hlen (by decide)
  have aF : a ∉ F := fun z => (A' a z).1 _ _ e2 haX
  have fGF : FpAll X.K H' (us ++ [v]) (xs ++ [d]) (G ++ F) := fG.append f1
  have W : ∀ own fl, ((fl = Fl.own ∧ own = true) ∨ (fl = .spn ∧ own = false)) → (own = true → s.fl = .own ∧ allOwn z.1 = true) → Wd X.K B n (putS z.2 i (.list (xs ++ [d])) fl) σ (upd H' a (.lst (us ++ [v]))) (putC (cutT n cs1) (.s i) (some ⟨.ref a, .list (xs ++ [d]), a :: (G ++ F), if own then a :: (G ++ F) else [a]⟩)) := fun own fl hfl ho => by
    have XX : own = true → Xc = a :: G ∧ G.Nodup := fun h => by
      rcases hX with ⟨_, y1, y2⟩ | ⟨y1, _⟩
      · exact ⟨y1, y2⟩
      · rw [(ho h).1] at y1; cases y1
    refine w2.relist (own := own) g5 e2 haX eσ fGF (fun y => (List.mem_append.mp y).elim haG aF) (fun b hb => ?_) (fun h b hb => ?_) (fun h => ?_) hfl
    · rcases List.mem_append.mp hb with hb | hb
      · exact ⟨fun q c2 hq e' hX2 => w2.gd.dis q (.s i) c2 _ hq e' e2 b hX2 (List.mem_cons_of_mem _ hb), w2.gd.rc _ _ e2 b (List.mem_cons_of_mem _ hb)⟩
      · exact ⟨fun q c2 _ e' => (A' b hb).1 q c2 e', (A' b hb).2⟩
    · rcases List.mem_append.mp hb with hb | hb
      · have hbX : b ∈ Xc := by rw [(XX h).1]; exact List.mem_cons_of_mem _ hb
        obtain ⟨z1, z2, z3⟩ := w2.gd.wr _ _ e2 b hbX
        exact ⟨fun q c2 hq e' => w2.gd.dis (.s i) q _ c2 (Ne.symm hq) e2 e' b hbX, z2, z3⟩
      · obtain ⟨y1, y2, y3⟩ := (B' (ho h).2).2 b hb
        exact ⟨fun q c2 _ e' => y1 q c2 e', y2, y3⟩
    · refine List.nodup_append.mpr ⟨(XX h).2, (B' (ho h).2).1, fun b hb b' hb' y => ?_⟩
      subst y
      exact ((B' (ho h).2).2 b hb').1 _ _ e2 (List.mem_cons_of_mem _ hb)
  have W2 : ∃ G2 X2, Wd X.K B n (putS z.2 i (.list (xs ++ [d])) (flAfter .append s.fl z.1 .none)) σ (upd H' a (.lst (us ++ [v]))) (putC (cutT n cs1) (.s i) (some ⟨.ref a, .list (xs ++ [d]), G2, X2⟩)) := by
    by_cases hO : allOwn z.1 = true
    · simp only [flAfter, hO, if_true]
      rcases hX with ⟨y0, _⟩ | ⟨y0, _⟩
      · rw [y0]; exact ⟨_, _, W true .own (.inl ⟨rfl, rfl⟩) fun _ => ⟨y0, hO⟩⟩
      · rw [y0]; exact ⟨_, _, W false .spn (.inr ⟨rfl, rfl⟩) fun h => by cases h⟩
    · have hO : allOwn z.1 = false := by simpa using hO
      simp only [flAfter, hO, Bool.false_eq_true, if_false]
      exact ⟨_, _, W false .spn (.inr ⟨rfl, rfl⟩) fun h => by cases h⟩
  obtain ⟨G2, X2, w3⟩ := W2
  exact hq .non _ _ [] [] (w3.pushImm .non) (((x.trans (Nat.le_refl n) l1.ext).cut.trans (Nat.le_refl n) Ext.puts').trans (Nat.le_refl n) Ext.put) putC_same (fitsO_imm rfl)

theorem asL_eq {d : D} {xs : List D} (h : asL d = some xs) : d = .list xs := by
  cases d <;> simp [asL] at h
  rw [h]

/-- a thing is taken out of a list -/
theorem pop_ok {B : Bd} {n : Nat} {env : En} {σ : L2.St} {H : Hp} {cs cs0 : Cs} {K : PySem.W.Frag} {i j : Nat} {s : Sl} {xs : List D} {zd : D} {Q : VK} (w : Wd K B n env σ H cs) (x : Ext n cs0 cs) (hs : getS env i = some s) (hd : s.d = .list xs) (hcc : canChange s.fl = true) (hz : xs[j]? = some zd)
    (hq : PostE K B n cs0 σ ⟨zd, imm zd, putS env i (.list (xs.eraseIdx j)) (if imm zd then s.fl else .spn)⟩ Q) :
    ∃ a us y, σ[i]? = some (some (.ref a)) ∧ H a = some (.lst us) ∧ us.length = xs.length ∧ us[j]? = some y ∧ Q y (upd H a (.lst (us.eraseIdx j))) := by
  obtain ⟨a, G, Xc, us, e2, eσ, hH, fG, haX, haG, hX⟩ := w.slotL hs hd hcc
  obtain ⟨y, Fy, y1, y2, y3⟩ := fG.get hz
  refine ⟨a, us, y, eσ, hH, fG.len, y1, ?_⟩
  obtain ⟨G', fG', sub⟩ := fG.eraseS j
  obtain ⟨X', w2, hX'⟩ := w.relistSub (imm zd) hs e2 haX eσ haG hX fG' sub
  have mu : Mut (H a) := (w.gd.wr _ _ e2 a haX).2.1
  have fy : Fp K (upd H a (.lst (us.eraseIdx j))) y zd Fy := y2.keeps (Keeps.upd mu) fun b hb z => by simp at z; subst z; exact haG (y3 _ hb)
  by_cases hi : imm zd = true
  · have := fy.imm hi
    subst this
    exact hq y _ _ [] [] (w2.pushImm fy) ((x.trans (Nat.le_refl n) Ext.puts').trans (Nat.le_refl n) Ext.put) putC_same (fitsO_imm hi)
  · have hi : imm zd = false := by simpa using hi
    have w3 := w2.pushFrz (Same.refl _) fy (fun b hb => .inr fun q c' e hX2 => ?_) fun b hb => .inr (w.gd.rc _ _ e2 b (List.mem_cons_of_mem _ (y3 b hb)))
    · refine hq y _ _ Fy [] w3 ((x.trans (Nat.le_refl n) Ext.puts').trans (Nat.le_refl n) Ext.put) putC_same ?_
      show FitsO (imm zd) _
      rw [hi]
      exact fitsO_frz fy
    · by_cases hqi : q = .s i
      · subst hqi
        rw [putC_same] at e; cases e
        have hX2 : b ∈ X' := hX2
        rw [hX' hi] at hX2
        simp at hX2; subst hX2
        exact haG (y3 _ hb)
      · rw [putC_ne hqi] at e
        exact w.gd.dis q (.s i) c' _ hqi e e2 b hX2 (List.mem_cons_of_mem _ (y3 b hb))

theorem se_popLast {i : Nat} {e : Expr} (h : PE X e (tBM0 X.K "list" rPop (tVar i))) : SE X C (.meth .popLast i []) e := PE_imp h fun σ H Q q => by
  obtain ⟨B, n, env, cs, r, w, h1, hq⟩ := q
  simp only [evE, evOs, gather, Option.bind_some, Option.bind_eq_some_iff] at h1
  obtain ⟨s0, g1, xs0, g2, s, g5, xs, g6, wr, g7, g8⟩ := h1
  split at g8
  case isFalse => cases g8
  rename_i hcc
  cases g8
  have hd := asL_eq g6
  simp only [change, things, List.map_nil, Option.map_eq_some_iff] at g7
  obtain ⟨zd, g7, rfl⟩ := g7
  rw [List.getLast?_eq_getElem?] at g7
  have he : xs.dropLast = xs.eraseIdx (xs.length - 1) := by
    rw [List.eraseIdx_eq_take_drop_succ, List.dropLast_eq_take, List.drop_eq_nil_of_le (by omega), List.append_nil]
  obtain ⟨a, us, y, k1, k2, k3, k4, k5⟩ := pop_ok w Ext.refl g5 hd hcc g7 (by simp only [flAfter, he] at hq; exact hq)
  refine ⟨.ref a, k1, .inl ⟨rfl, us, .inl (.inl k2)⟩, a, us, y, rfl, rfl, k2, by rw [k3]; exact k4, ?_⟩
  have he2 : us.dropLast = us.eraseIdx (xs.length - 1) := by
    rw [List.eraseIdx_eq_take_drop_succ, List.dropLast_eq_take, List.drop_eq_nil_of_le (by omega), List.append_nil, k3]
  rw [he2]
  exact k5

theorem seqIndex_nat {k : Int} {n : Nat} (h0 : 0 ≤ k) (h : k.toNat < n) : seqIndex? k n = some k.toNat := by
  unfold seqIndex?
  have e : (if k < 0 then k + (n : Int) else k) = k := if_neg (by omega)
  simp only [e]
  rw [if_pos (by simp; omega)]
theorem se_popAt {i : Nat} {as : List Ex} {e : Expr} (h : PE X e (tBM X.K "list" rPopAt (tVar i) (tOs X.K C as))) : SE X C (.meth .popAt i as) e := PE_imp h fun σ H Q q => by
  obtain ⟨B, n, env, cs, r, w, h1, hq⟩ := q
  simp only [evE, Option.bind_eq_some_iff] at h1
  obtain ⟨s0, g1, xs0, g2, ⟨os, e1⟩, g3, z, g4, s, g5, xs, g6, wr, g7, g8⟩ := h1
  split at g8
  case isFalse => cases g8
  rename_i hcc
  cases g8
  obtain ⟨c0, k1, k2, k3, k4⟩ := w.mt.slot g1
  refine ⟨c0.v, k2, ?_⟩
  have fp0 := w.gd.fp _ _ k1
  rw [k3, asL_eq g2] at fp0
  obtain ⟨a0, us0, G0, ev0, eF0, rd0, t0⟩ := fp0.list
  rw [ev0]
  refine ⟨.inl ⟨rfl, us0, .inl rd0⟩, B, n, env, cs, os, e1, w, g3, fun vs H' cs' w' x v' => ?_⟩
  obtain ⟨cs1, F, w1, l1, f1, A, B1⟩ := gather_ok w' v' g4
  have hd := asL_eq g6
  -- one number
  have one : ∃ k : Int, things z.1 = [.int k] ∧ (0 ≤ k ∧ k ≤ 1000000) ∧ ∃ zd, xs[k.toNat]? = some zd ∧ wr = (zd, xs.eraseIdx k.toNat) := by
    cases hz : things z.1 with
    | nil => rw [hz] at g7; simp [change] at g7
    | cons d r =>
      cases r with
      | cons d2 r => rw [hz] at g7; simp [change] at g7
      | nil =>
        rw [hz] at g7
        simp only [change, Option.bind_eq_some_iff] at g7
        obtain ⟨k, g9, g10⟩ := g7
        split at g10
        · rename_i h0
          simp only [Option.map_eq_some_iff] at g10
          obtain ⟨zd, g11, g12⟩ := g10
          exact ⟨k, by rw [asI_eq g9], h0, zd, g11, g12.symm⟩
        · cases g10
  obtain ⟨k, hz, h0, zd, hzd, rfl⟩ := one
  rw [hz] at f1
  have hv : vs = [.int k] := by
    cases f1 with
    | cons fk t => cases t; cases fk; rfl
  subst hv
  obtain ⟨a, us, y, m1, m2, m3, m4, m5⟩ := pop_ok (w1.cut n) ((x.trans (Nat.le_refl n) l1.ext).cut) g5 hd hcc hzd (by simpa only [flAfter] using hq)
  rw [k2, ev0] at m1
  have ea : a0 = a := by simpa using m1
  subst ea
  have hlt : k.toNat < us.length := by
    have := (List.getElem?_eq_some_iff.mp m4).1
    exact this
  exact ⟨a0, us, k, k.toNat, y, rfl, rfl, m2, by omega, by omega, seqIndex_nat h0.1 hlt, m4, m5⟩
end
end Ev
set_option maxHeartbeats 2000000
set_option maxRecDepth 100000
/-! The primitives, by HandS's rules. -/
namespace Ev
open PySem PySem.Spec PyProof.Rows L2
variable [Tb]

section
variable {K : PySem.W.Frag} {X : Cx} {C : FS}

/-- a call's operands -/
def PrOkL (K : PySem.W.Frag) (p : Pm) (R : List V → Hp → VK → Prop) : Prop := ∀ vs ds J r H Q, FpZ K H vs ds J → pm p ds = some r → Post K p H J r Q → R vs H Q
theorem se_primL {p : Pm} {as : List Ex} {e : Expr} {R : List V → Hp → VK → Prop} (h : PE X e (tCB R (tOs X.K C as))) (hp : PrOkL X.K p R) : SE X C (.prim p as) e := PE_imp h fun σ H Q q => by
  obtain ⟨B, n, env, cs, r, w, h1, hq⟩ := q
  simp only [evE, Option.bind_eq_some_iff] at h1
  obtain ⟨⟨os, e1⟩, h1, ds, h2, d, h3, h4⟩ := h1
  refine ⟨B, n, env, cs, os, e1, w, h1, fun vs H' cs' w' x' v' => ?_⟩
  obtain ⟨J, z, hP⟩ := finish_ok w' x' v' h2 h4 hq
  exact hp _ _ _ _ _ _ z h3 hP

/-- OpR: one or the other -/
theorem OpR.or {f : Value → Value → Sem Value} {r r' : R2} (h : OpR X f r) (h' : OpR X f r') : OpR X f (fun x y H Q => r x y H Q ∨ r' x y H Q) := by
  intro pins s σ H x y v u Q I rx ry q
  rcases q with q | q
  · exact h pins s σ H x y v u Q I rx ry q
  · exact h' pins s σ H x y v u Q I rx ry q
theorem CallR.or {f : Value} {r r' : List V → Hp → VK → Prop} (h : CallR X f r) (h' : CallR X f r') : CallR X f (fun xs H Q => r xs H Q ∨ r' xs H Q) := by
  intro pins s σ H xs us Q I rs q
  rcases q with q | q
  · exact h pins s σ H xs us Q I rs q
  · exact h' pins s σ H xs us Q I rs q

/-- what can't change -/
theorem Post.imm {p : Pm} {H : Hp} {J : List Addr} {r : D} {Q : VK} (h : Post K p H J r Q) {v : V} (fp : Fp K H v r []) (hi : imm r = true) : Q v H :=
  h v H [] (Same.refl H) fp (fun a z => by cases z) fun _ _ a z => by cases z
/-- a thing of the operands -/
theorem Post.part {p : Pm} {H : Hp} {J : List Addr} {r : D} {Q : VK} (h : Post K p H J r Q) {v : V} {G : List Addr} (fp : Fp K H v r G) (sub : ∀ a ∈ G, a ∈ J) (hn : newP p = true → flat r = true → G = []) : Q v H :=
  h v H G (Same.refl H) fp (fun a z => .inl (sub a z)) fun h1 h2 a z => by rw [hn h1 h2] at z; cases z
/-- a new list -/
theorem Post.lst {p : Pm} {H : Hp} {J : List Addr} {xs : List D} {Q : VK} (h : Post K p H J (.list xs) Q) {vs : List V} {G : List Addr} (fp : FpAll K H vs xs G) (sub : ∀ a ∈ G, a ∈ J) {q : Addr} (hq : H q = none) : Q (.ref q) (upd H q (.lst vs)) := by
  have sm := same_upd (o := .lst vs) hq
  refine h (.ref q) _ (q :: G) sm (.lst (.inl upd_same) (fp.same sm)) (fun a ha => ?_) fun _ hf a ha => ?_
  · rcases List.mem_cons.mp ha with rfl | ha
    · exact .inr hq
    · exact .inl (sub a ha)
  · have : G = [] := fp.imm (by simpa [flat] using hf)
    subst this
    simp at ha
    subst ha
    exact ⟨hq, by rw [upd_same]; trivial⟩
/-- a new tuple -/
theorem Post.tup {p : Pm} {H : Hp} {J : List Addr} {xs : List D} {Q : VK} (h : Post K p H J (.tuple xs) Q) {vs : List V} {G : List Addr} (fp : FpAll K H vs xs G) (sub : ∀ a ∈ G, a ∈ J) {q : Addr} (hq : H q = none) : Q (.ref q) (upd H q (.tup vs)) := by
  have sm := same_upd (o := .tup vs) hq
  exact h (.ref q) _ G sm (.tup (SqT.of upd_same) (fp.same sm)) (fun a ha => .inl (sub a ha)) fun _ hf => by simp [flat] at hf

theorem Fp.int_v {H : Hp} {x : V} {i : Int} {F : List Addr} (h : Fp K H x (.int i) F) : x = .int i := by cases h; rfl

/-! ### numbers -/
theorem ok_rI0 {p : Pm} {f : Int → Int → V} (g : Int → Int → D) (hf : ∀ dx dy r, pm2 p dx dy = some r → ∃ i j, dx = .int i ∧ dy = .int j ∧ r = g i j) (hg : ∀ i j H, Fp K H (f i j) (g i j) [] ∧ imm (g i j) = true) : PrOk2 K p (rI0 f) := by
  intro x y dx dy F G r H Q fx fy h hP
  obtain ⟨i, j, rfl, rfl, rfl⟩ := hf _ _ _ h
  exact ⟨i, j, fx.int_v, fy.int_v, hP.imm (hg i j H).1 (hg i j H).2⟩
theorem ii_of {f : Int → Int → D} {a b r : D} (h : ((asI a).bind fun i => (asI b).map fun j => f i j) = some r) : ∃ i j, a = .int i ∧ b = .int j ∧ r = f i j := by
  simp only [Option.bind_eq_some_iff, Option.map_eq_some_iff] at h
  obtain ⟨i, h1, j, h2, h3⟩ := h
  exact ⟨i, j, asI_eq h1, asI_eq h2, h3.symm⟩
theorem ok_sub : PrOk2 K .sub (rI0 fun i j => .int (i - j)) := ok_rI0 (fun i j => .int (i - j)) (fun a b r h => ii_of h) fun i j H => ⟨.int _, rfl⟩
theorem ok_lt : PrOk2 K .lt (rI0 fun i j => .bl (decide (i < j))) := ok_rI0 (fun i j => .bool (decide (i < j))) (fun a b r h => ii_of h) fun i j H => ⟨.bl _, rfl⟩
theorem ok_le : PrOk2 K .le (rI0 fun i j => .bl (decide (i ≤ j))) := ok_rI0 (fun i j => .bool (decide (i ≤ j))) (fun a b r h => ii_of h) fun i j H => ⟨.bl _, rfl⟩
theorem ok_gt : PrOk2 K .gt (rI0 fun i j => .bl (decide (j < i))) := ok_rI0 (fun i j => .bool (decide (j < i))) (fun a b r h => ii_of h) fun i j H => ⟨.bl _, rfl⟩
theorem ok_ge : PrOk2 K .ge (rI0 fun i j => .bl (decide (j ≤ i))) := ok_rI0 (fun i j => .bool (decide (j ≤ i))) (fun a b r h => ii_of h) fun i j H => ⟨.bl _, rfl⟩
theorem ok_fdiv : PrOk2 K .fdiv (rI CDiv fun i j => .int (i / j)) := by
  intro x y dx dy F G r H Q fx fy h hP
  simp only [pm2, Option.bind_eq_some_iff] at h
  obtain ⟨i, h1, j, h2, h3⟩ := h
  obtain ⟨h4, rfl⟩ := guardO_some h3
  rw [asI_eq h1] at fx
  rw [asI_eq h2] at fy
  simp only [Bool.and_eq_true, decide_eq_true_eq] at h4
  exact ⟨i, j, fx.int_v, fy.int_v, h4, hP.imm (.int _) rfl⟩
theorem ok_mod : PrOk2 K .mod (rI (fun _ j => 0 < j) fun i j => .int (i % j)) := by
  intro x y dx dy F G r H Q fx fy h hP
  simp only [pm2, Option.bind_eq_some_iff] at h
  obtain ⟨i, h1, j, h2, h3⟩ := h
  obtain ⟨h4, rfl⟩ := guardO_some h3
  rw [asI_eq h1] at fx
  rw [asI_eq h2] at fy
  simp only [decide_eq_true_eq] at h4
  exact ⟨i, j, fx.int_v, fy.int_v, h4, hP.imm (.int _) rfl⟩
theorem ok_neg : PrOk1 K .neg (rU fun i => .int (-i)) := by
  intro x dx F r H Q fx h hP
  simp only [pm1, Option.map_eq_some_iff] at h
  obtain ⟨i, h1, rfl⟩ := h
  rw [asI_eq h1] at fx
  exact ⟨i, fx.int_v, hP.imm (.int _) rfl⟩

/-! ### lists and tuples together -/
/-- list + list -/
def rCatR : R2 := fun x y H Q => ∃ l b xs zs, x = .ref l ∧ y = .ref b ∧ Rd H l (.lst xs) ∧ Rd H b (.lst zs) ∧ xs.length + zs.length ≤ sizeLine ∧ ∀ p, H p = none → Q (.ref p) (upd H p (.lst (xs ++ zs)))
theorem rd_lst {pins : List (Addr × Obj)} {σ : L2.St} {H : Hp} {s : Shared} {l : Addr} {xs : List V} (I : Inv X pins σ H s) (h : Rd H l (.lst xs)) : xs.length ≤ sizeLine ∧ ∃ (its : List Value) (n : Nat), Vals xs its ∧ xs.length = its.length ∧ s.heap.get? l = some { cls := .type "list", data := .seq its.toArray n } := by
  obtain ⟨z, its, n, r, e⟩ := h.ok I.hok
  exact ⟨z, its, n, r, r.length, e⟩
theorem op_catR : OpR X (binaryOp .Add) rCatR := by
  intro pins s σ H x y v u Q I rx ry h
  obtain ⟨l, b, xs, zs, rfl, rfl, hH, hB, hz, q⟩ := h
  cases rx
  cases ry
  obtain ⟨z, its, n, r, hl, e⟩ := rd_lst I hH
  obtain ⟨z2, its2, n2, r2, hl2, e2⟩ := rd_lst I hB
  refine PySem.P.add_list e e2 ?_ (by rw [List.size_toArray, List.size_toArray]; omega)
  have ea : its.toArray ++ its2.toArray = (its ++ its2).toArray := by simp
  rw [ea]
  exact ⟨.ref _, _, I.lnew (t' := s.toks) (r.append r2) (by rw [List.length_append]; omega), rfl, q _ I.fresh⟩

theorem big_line {n : Nat} (h : n ≤ big) : n ≤ sizeLine := Nat.le_trans h (by decide)
def rAdd (K : PySem.W.Frag) : R2 := fun x y H Q => rI0 (fun i j => .int (i + j)) x y H Q ∨ (rCatR x y H Q ∨ rCatA K x y H Q)
theorem op_addA : OpR X (binaryOp .Add) (rAdd X.K) := OpR.or op_add (OpR.or op_catR op_catA)
theorem ok_add : PrOk2 K .add (rAdd K) := by
  intro x y dx dy F G r H Q fx fy h hP
  have h : pAdd dx dy = some r := h
  cases dx with
  | int i =>
    cases dy with
    | int j =>
      simp only [pAdd, Option.some.injEq] at h
      subst h
      exact .inl ⟨i, j, fx.int_v, fy.int_v, hP.imm (.int _) rfl⟩
    | _ => simp [pAdd] at h
  | list xs =>
    cases dy with
    | list ys =>
      obtain ⟨h1, rfl⟩ := guardO_some (show guardO _ _ = some r from h)
      obtain ⟨a, us, Ga, rfl, rfl, ra, ta⟩ := fx.list
      obtain ⟨b, ws, Gb, rfl, rfl, rb, tb⟩ := fy.list
      refine .inr (.inl ⟨a, b, us, ws, rfl, rfl, ra, rb, ?_, fun p hp => hP.lst (ta.append tb) (fun q hq => ?_) hp⟩)
      · rw [ta.len, tb.len]; exact big_line (by simpa using h1)
      · simpa [inn] using hq
    | _ => simp [pAdd] at h
  | tuple xs =>
    cases dy with
    | tuple ys =>
      obtain ⟨h1, rfl⟩ := guardO_some (show guardO _ _ = some r from h)
      obtain ⟨a, us, rfl, ra, ta⟩ := fx.tuple
      obtain ⟨b, ws, rfl, rb, tb⟩ := fy.tuple
      refine .inr (.inr ⟨a, b, us, ws, rfl, rfl, ra, rb, ?_, fun h => ?_, fun _ h => ?_, fun _ _ p hp => hP.tup (ta.append tb) (fun q hq => by simpa [inn] using hq) hp⟩)
      · rw [ta.len, tb.len]; exact big_line (by simpa using h1)
      · subst h
        cases ta
        exact hP.part (v := .ref b) (G := G) (by simpa using fy) (fun q hq => by simp [inn, hq]) fun _ z => by simp [flat] at z
      · subst h
        cases tb
        exact hP.part (v := .ref a) (G := F) (by simpa using fx) (fun q hq => by simp [inn, hq]) fun _ z => by simp [flat] at z
    | _ => simp [pAdd] at h
  | _ => simp [pAdd] at h

/-! ### equality, membership -/
theorem noDict_of {d : D} (h : chk 20 d = true) : noDict d = true := chk_noDict h
theorem eq_of {dx dy : D} {k : Bool} (h : pEq dx dy = some k) : chk 20 dx = true ∧ chk 20 dy = true ∧ k = PyData.eqv dx dy := by
  obtain ⟨h1, h2⟩ := guardO_some (show guardO _ _ = some k from h)
  simp only [Bool.and_eq_true] at h1
  exact ⟨h1.1, h1.2, h2.symm⟩
theorem ok_eq : PrOk2 K .eq (rEqD K) := by
  intro x y dx dy F G r H Q fx fy h hP
  simp only [pm2, Option.map_eq_some_iff] at h
  obtain ⟨k, h1, rfl⟩ := h
  obtain ⟨c1, c2, rfl⟩ := eq_of h1
  exact ⟨dx, dy, fx.dp (chk_noDict c1), fy.dp (chk_noDict c2), chk_shaped c1 (by decide), chk_shaped c2 (by decide), hP.imm (.bl _) rfl⟩
theorem ok_ne : PrOk2 K .ne (rNeD K) := by
  intro x y dx dy F G r H Q fx fy h hP
  simp only [pm2, Option.map_eq_some_iff] at h
  obtain ⟨k, h1, rfl⟩ := h
  obtain ⟨c1, c2, rfl⟩ := eq_of h1
  exact ⟨dx, dy, fx.dp (chk_noDict c1), fy.dp (chk_noDict c2), chk_shaped c1 (by decide), chk_shaped c2 (by decide), hP.imm (.bl _) rfl⟩
theorem in_of {dx dy : D} {k : Bool} (h : pIn dx dy = some k) : ∃ ys, (dy = .list ys ∨ dy = .tuple ys) ∧ chk 20 dx = true ∧ chkAll 20 ys = true ∧ k = ys.any fun z => PyData.eqv z dx := by
  simp only [pIn, Option.bind_eq_some_iff] at h
  obtain ⟨ys, h1, h2⟩ := h
  obtain ⟨h3, h4⟩ := guardO_some h2
  simp only [Bool.and_eq_true] at h3
  exact ⟨ys, seqOf_eq h1, h3.1, h3.2, h4.symm⟩
end
end Ev
set_option maxHeartbeats 2000000
set_option maxRecDepth 100000
/-! The primitives, by HandS's rules (2). -/
namespace Ev
open PySem PySem.Spec PyProof.Rows L2
variable [Tb]

section
variable {K : PySem.W.Frag} {X : Cx} {C : FS}

/-! ### in, not in -/
def rInA (K : PySem.W.Frag) (neg : Bool) : R2 := fun x y H Q => ∃ d e ds, Dp K H x d ∧ Dp K H y e ∧ (e = .list ds ∨ e = .tuple ds) ∧ SeqAt.shaped d = true ∧ PyData.canLayAll0 ds = true ∧ Q (.bl (if neg then !ds.any (fun z => PyData.eqv z d) else ds.any fun z => PyData.eqv z d)) H
theorem op_inA (hu : X.A.units + 65 < cLine) : OpR X (compareOp .In) (rInA X.K false) := by
  intro pins s σ H x y v u Q I rx ry h
  obtain ⟨d, e, ds, hd, he, ee, sd, se, q⟩ := h
  obtain ⟨as, r1⟩ := Dp.reads I d x v hd rx
  obtain ⟨bs, r2⟩ := Dp.reads I e y u he ry
  rcases ee with rfl | rfl
  · exact SeqAt.in_list_reads r2 r1 se (SeqAt.canLay_of_shaped sd) (room_in_shaped sd hu) ⟨.bl _, H, I, rfl, q⟩
  · exact SeqAt.in_tuple_reads r2 r1 se (SeqAt.canLay_of_shaped sd) (room_in_shaped sd hu) ⟨.bl _, H, I, rfl, q⟩
theorem op_notInA (hu : X.A.units + 65 < cLine) : OpR X (compareOp .NotIn) (rInA X.K true) := by
  intro pins s σ H x y v u Q I rx ry h
  obtain ⟨d, e, ds, hd, he, ee, sd, se, q⟩ := h
  obtain ⟨as, r1⟩ := Dp.reads I d x v hd rx
  obtain ⟨bs, r2⟩ := Dp.reads I e y u he ry
  rcases ee with rfl | rfl
  · exact SeqAt.notIn_list_reads r2 r1 se (SeqAt.canLay_of_shaped sd) (room_in_shaped sd hu) ⟨.bl _, H, I, rfl, q⟩
  · exact SeqAt.notIn_tuple_reads r2 r1 se (SeqAt.canLay_of_shaped sd) (room_in_shaped sd hu) ⟨.bl _, H, I, rfl, q⟩
theorem in_parts {x y : V} {dx dy : D} {F G : List Addr} {H : Hp} {ys : List D} (fx : Fp K H x dx F) (fy : Fp K H y dy G) (e : dy = .list ys ∨ dy = .tuple ys) (c1 : chk 20 dx = true) (c2 : chkAll 20 ys = true) :
    Dp K H x dx ∧ Dp K H y dy ∧ SeqAt.shaped dx = true ∧ PyData.canLayAll0 ys = true := by
  refine ⟨fx.dp (chk_noDict c1), fy.dp ?_, chk_shaped c1 (by decide), (chkAll_lay c2).1⟩
  rcases e with rfl | rfl
  · simpa [noDict] using chkAll_noDict c2
  · simpa [noDict] using chkAll_noDict c2
theorem ok_in : PrOk2 K .isin (rInA K false) := by
  intro x y dx dy F G r H Q fx fy h hP
  simp only [pm2, Option.map_eq_some_iff] at h
  obtain ⟨k, h1, rfl⟩ := h
  obtain ⟨ys, e, c1, c2, rfl⟩ := in_of h1
  obtain ⟨z1, z2, z3, z4⟩ := in_parts fx fy e c1 c2
  exact ⟨dx, dy, ys, z1, z2, e, z3, z4, hP.imm (.bl _) rfl⟩
theorem ok_notin : PrOk2 K .notin (rInA K true) := by
  intro x y dx dy F G r H Q fx fy h hP
  simp only [pm2, Option.map_eq_some_iff] at h
  obtain ⟨k, h1, rfl⟩ := h
  obtain ⟨ys, e, c1, c2, rfl⟩ := in_of h1
  obtain ⟨z1, z2, z3, z4⟩ := in_parts fx fy e c1 c2
  exact ⟨dx, dy, ys, z1, z2, e, z3, z4, hP.imm (.bl _) rfl⟩

/-! ### is None -/
theorem isNone_v {H : Hp} {x : V} {d : D} {F : List Addr} (h : Fp K H x d F) : isNone d = decide (x = .non) := by
  cases h <;> simp [isNone]
theorem se_isN {a : Ex} {e c : Expr} (h : PE X e (tOp (fun x y H Q => y = .non ∧ Q (.bl (decide (x = .non))) H) (tOd X.K C a) (tC .non))) : SE X C (.prim .isN [a]) e :=
  se_prim1 (R := fun x H Q => Q (.bl (decide (x = .non))) H) (PE_imp h fun σ H Q q => by
    obtain ⟨B, n, env, cs, o, env', w, ho, hq⟩ := q
    exact ⟨B, n, env, cs, o, env', w, ho, fun v H' cs' w' x' v' => ⟨rfl, hq v H' cs' w' x' v'⟩⟩) (by
    intro x dx F r H Q fx h hP
    simp only [pm1, Option.some.injEq] at h
    subst h
    rw [isNone_v fx] at hP
    exact hP.imm (.bl _) rfl)
theorem se_notN {a : Ex} {e c : Expr} (h : PE X e (tOp (fun x y H Q => y = .non ∧ Q (.bl (!decide (x = .non))) H) (tOd X.K C a) (tC .non))) : SE X C (.prim .notN [a]) e :=
  se_prim1 (R := fun x H Q => Q (.bl (!decide (x = .non))) H) (PE_imp h fun σ H Q q => by
    obtain ⟨B, n, env, cs, o, env', w, ho, hq⟩ := q
    exact ⟨B, n, env, cs, o, env', w, ho, fun v H' cs' w' x' v' => ⟨rfl, hq v H' cs' w' x' v'⟩⟩) (by
    intro x dx F r H Q fx h hP
    simp only [pm1, Option.some.injEq] at h
    subst h
    rw [isNone_v fx] at hP
    exact hP.imm (.bl _) rfl)

/-! ### subscripts -/
def rIxA (K : PySem.W.Frag) : R2 := fun x y H Q => rIxL K x y H Q ∨ rIxT K x y H Q
theorem ix_A : IxR X (rIxA X.K) := ix_list.or ix_tup
theorem ixN_at {n : Nat} {i : Int} {k : Nat} (h : atIx n i = some k) : ixN n i = some k := by
  unfold atIx at h
  unfold ixN
  by_cases h0 : 0 ≤ i
  · rw [if_pos h0] at h ⊢
    split at h
    · rename_i h1
      rw [if_pos (by omega)]; exact h
    · cases h
  · rw [if_neg h0] at h ⊢
    split at h
    · rename_i h1
      rw [if_pos (by omega)]
      simp only [Option.some.injEq] at h ⊢
      omega
    · cases h
theorem pIdx_at {xs : List D} {i : Int} {r : D} (h : ((atIx xs.length i).bind fun k => xs[k]?) = some r) {vs : List V} (hl : vs.length = xs.length) : ∃ k : Nat, xs[k]? = some r ∧ ∀ v, vs[k]? = some v → atI vs i = some v := by
  simp only [Option.bind_eq_some_iff] at h
  obtain ⟨k, h1, h2⟩ := h
  refine ⟨k, h2, fun v hv => ?_⟩
  unfold atI
  rw [hl, ixN_at h1]
  exact hv
theorem ok_idx : PrOk2 K .idx (rIxA K) := by
  intro x y dx dy F G r H Q fx fy h hP
  have h : pIdx dx dy = some r := h
  cases dx with
  | list xs =>
    cases dy with
    | int i =>
      obtain ⟨a, us, Ga, rfl, rfl, ra, ta⟩ := fx.list
      obtain ⟨k, h1, h2⟩ := pIdx_at (show _ = some r from h) ta.len
      obtain ⟨v, Gv, g1, g2, g3⟩ := ta.get h1
      exact .inl ⟨a, us, i, v, rfl, fy.int_v, .inl ra, h2 v g1, hP.part g2 (fun q hq => by simp [inn, g3 q hq]) fun z => by cases z⟩
    | _ => simp [pIdx] at h
  | tuple xs =>
    cases dy with
    | int i =>
      obtain ⟨a, us, rfl, ra, ta⟩ := fx.tuple
      obtain ⟨k, h1, h2⟩ := pIdx_at (show _ = some r from h) ta.len
      obtain ⟨v, Gv, g1, g2, g3⟩ := ta.get h1
      exact .inr ⟨a, us, i, v, rfl, fy.int_v, ra, h2 v g1, hP.part g2 (fun q hq => by simp [inn, g3 q hq]) fun z => by cases z⟩
    | _ => simp [pIdx] at h
  | _ => simp [pIdx] at h

/-- a dict's values, by texts -/
theorem valD_get {k : Str} {d : D} : ∀ {ks : List Str} {vs : List V} {ds : List D} {F : List Addr} {H : Hp}, FpAll K H vs ds F → ks.length = vs.length → valD k ((ks.map PyData.str).zip ds) = some d →
    ∃ v G, valV ((ks.map Sum.inr).zip vs) (Sum.inr k : Key) = some v ∧ Fp K H v d G ∧ ∀ a ∈ G, a ∈ F
  | [], _, _, _, _, _, _, h => by simp [valD] at h
  | x :: ks, v :: vs, d' :: ds, _, H, .cons (F := F1) fp t, hl, h => by
    simp only [List.map_cons, List.zip_cons_cons, valD] at h ⊢
    by_cases e : x = k
    · rw [if_pos e] at h
      cases h
      exact ⟨v, F1, by rw [valV_pos (by simp [e])], fp, fun a ha => List.mem_append_left _ ha⟩
    · rw [if_neg e] at h
      obtain ⟨v', G, g1, g2, g3⟩ := valD_get t (by simpa using hl) h
      refine ⟨v', G, ?_, g2, fun a ha => List.mem_append_right _ (g3 a ha)⟩
      rw [valV_neg (by simp [e])]
      exact g1
def rGetD : R2 := fun x y H Q => ∃ a v, x = .ref a ∧ DGet H a y (some v) ∧ Q v H
theorem pe_getD {o i : Expr} {td ty : TE} {pos : Pos} (hu : X.A.units + 1 < cLine) (ho : PE X o td) (hi : PE X i ty) (hs : NoSl i) : PE X (.Subscript o i pos) (tOp rGetD td ty) := pe_dget hu ho hi hs
theorem Fp.dict {H : Hp} {x : V} {kvs : List (D × D)} {F : List Addr} (h : Fp K H x (.dict kvs) F) : ∃ (a : Addr) (ks : List Str) (vs : List V) (ds : List D) (G : List Addr), x = .ref a ∧ F = a :: G ∧ kvs = (ks.map PyData.str).zip ds ∧ Rd H a (.dK ((ks.map Sum.inr).zip vs)) ∧ ks.length = vs.length ∧ ks.Nodup ∧ FpAll K H vs ds G := by
  cases h with
  | dic h1 h2 h3 h4 => exact ⟨_, _, _, _, _, rfl, rfl, rfl, h1, h2, h3, h4⟩
theorem ok_idxD : PrOk2 K .idxD rGetD := by
  intro x y dx dy F G r H Q fx fy h hP
  have h : pIdxD dx dy = some r := h
  cases dx with
  | dict kvs =>
    cases dy with
    | str k =>
      obtain ⟨a, ks, vs, ds, Ga, rfl, rfl, rfl, rd, hl, nd, t⟩ := fx.dict
      obtain ⟨v, Gv, g1, g2, g3⟩ := valD_get t hl (show valD k _ = some r from h)
      cases fy
      exact ⟨a, v, rfl, .inl ⟨_, Sum.inr k, rd, rfl, g1.symm⟩, hP.part g2 (fun q hq => by simp [inn, g3 q hq]) fun z => by cases z⟩
    | _ => simp [pIdxD] at h
  | _ => simp [pIdxD] at h

/-! ### slices -/
def rSlB (K : PySem.W.Frag) : V → Option Int → Option Int → Hp → VK → Prop := fun x lo hi H Q => rSlL K x lo hi H Q ∨ rSlA K x lo hi H Q
theorem sl_B : SlR X (rSlB X.K) := sl_list.or sl_tupA
theorem cutIx_eq {n : Nat} {i : Int} : cutIx n i = HT.sIx n 0 (some i) := by
  show (if 0 ≤ i then min i.toNat n else ((n : Int) + i).toNat) = if i < 0 then (i + (n : Int)).toNat else min i.toNat n
  by_cases h : 0 ≤ i
  · rw [if_pos h, if_neg (by omega)]
  · rw [if_neg h, if_pos (by omega), Int.add_comm]
theorem sIx_d {n d : Nat} {i : Int} : HT.sIx n d (some i) = HT.sIx n 0 (some i) := rfl
theorem FpAll.cut {H : Hp} {vs : List V} {xs : List D} {F : List Addr} (h : FpAll K H vs xs F) (lo hi : Option Int) : ∃ G, FpAll K H (cutV vs lo hi) (cutL xs lo hi) G ∧ ∀ a ∈ G, a ∈ F := by
  obtain ⟨G1, h1, s1⟩ := h.drop (HT.sIx vs.length 0 lo)
  obtain ⟨G2, h2, s2⟩ := h1.take (HT.sIx vs.length vs.length hi - HT.sIx vs.length 0 lo)
  refine ⟨G2, ?_, fun a ha => s1 a (s2 a ha)⟩
  have e1 : cutL xs lo hi = (xs.drop (HT.sIx vs.length 0 lo)).take (HT.sIx vs.length vs.length hi - HT.sIx vs.length 0 lo) := by
    rw [h.len]
    cases lo <;> cases hi <;> simp [cutL, cutIx_eq, HT.sIx]
  rw [e1]
  exact h2
theorem ok_sl {p : Pm} {x : V} {dx r : D} {F J : List Addr} {H : Hp} {Q : VK} {lo hi : Option Int} (fx : Fp K H x dx F) (h : pSlice dx lo hi = some r) (hJ : ∀ a ∈ inn dx F, a ∈ J) (hP : Post K p H J r Q) : rSlB K x lo hi H Q := by
  cases dx with
  | list xs =>
    simp only [pSlice, Option.some.injEq] at h
    subst h
    obtain ⟨a, us, Ga, rfl, rfl, ra, ta⟩ := fx.list
    obtain ⟨G, g1, g2⟩ := ta.cut lo hi
    exact .inl ⟨a, us, rfl, .inl ra, fun q hq => hP.lst g1 (fun b hb => hJ b (g2 b hb)) hq⟩
  | tuple xs =>
    simp only [pSlice, Option.some.injEq] at h
    subst h
    obtain ⟨a, us, rfl, ra, ta⟩ := fx.tuple
    obtain ⟨G, g1, g2⟩ := ta.cut lo hi
    refine .inr ⟨a, us, rfl, ra, fun hw => ?_, fun _ q hq => hP.tup g1 (fun b hb => hJ b (g2 b hb)) hq⟩
    have e1 : cutL xs lo hi = xs := by
      have e1 : cutL xs lo hi = (xs.drop (HT.sIx us.length 0 lo)).take (HT.sIx us.length us.length hi - HT.sIx us.length 0 lo) := by
        rw [ta.len]
        cases lo <;> cases hi <;> simp [cutL, cutIx_eq, HT.sIx]
      rw [e1, hw.1, hw.2, ta.len]
      simp
    rw [e1] at hP
    exact hP.part (.tup ra ta) (fun b hb => hJ b hb) fun _ z => by simp [flat] at z
  | _ => simp [pSlice] at h
theorem se_slLo {a b : Ex} {e : Expr} (h : PE X e (tSl (rSlB X.K) (tOd X.K C a) (tPart (tOd X.K C b)) tNoPart)) : SE X C (.prim .slLo [a, b]) e := se_prim2 (R := fun x y H Q => ∃ i, y = .int i ∧ rSlB X.K x (some i) none H Q) h (by
  intro x y dx dy F G r H Q fx fy h hP
  simp only [pm2, Option.bind_eq_some_iff] at h
  obtain ⟨i, h1, h2⟩ := h
  rw [asI_eq h1] at fy
  exact ⟨i, fy.int_v, ok_sl fx h2 (fun a ha => by simp [ha]) hP⟩)
theorem se_slHi {a b : Ex} {e : Expr} (h : PE X e (tSl (rSlB X.K) (tOd X.K C a) tNoPart (tPart (tOd X.K C b)))) : SE X C (.prim .slHi [a, b]) e := se_prim2 (R := fun x y H Q => ∃ i, y = .int i ∧ rSlB X.K x none (some i) H Q) h (by
  intro x y dx dy F G r H Q fx fy h hP
  simp only [pm2, Option.bind_eq_some_iff] at h
  obtain ⟨i, h1, h2⟩ := h
  rw [asI_eq h1] at fy
  exact ⟨i, fy.int_v, ok_sl fx h2 (fun a ha => by simp [ha]) hP⟩)

/-- xs[::-1] of a list -/
theorem FpAll.rev {H : Hp} : ∀ {vs : List V} {xs : List D} {F : List Addr}, FpAll K H vs xs F → ∃ G, FpAll K H vs.reverse xs.reverse G ∧ ∀ a ∈ G, a ∈ F
  | _, _, _, .nil => ⟨[], .nil, fun a z => by cases z⟩
  | _, _, _, .cons h t => by
    obtain ⟨G, g1, g2⟩ := FpAll.rev t
    rw [List.reverse_cons, List.reverse_cons]
    refine ⟨_, g1.append (.cons h .nil), fun a ha => ?_⟩
    rcases List.mem_append.mp ha with ha | ha
    · exact List.mem_append_right _ (g2 a ha)
    · exact List.mem_append_left _ (by simpa using ha)
theorem se_rev {a : Ex} {e : Expr} (h : PE X e (tRevL X.K (tOd X.K C a))) : SE X C (.prim .rev [a]) e := PE_imp h fun σ H Q q => by
  obtain ⟨B, n, env, cs, r, w, h1, hq⟩ := q
  simp only [evE, Option.bind_eq_some_iff] at h1
  obtain ⟨⟨os, e1⟩, h1, ds, h2, d, h3, h4⟩ := h1
  obtain ⟨o, e2, h5⟩ := evOs_one h1
  simp only [Prod.mk.injEq] at h5
  obtain ⟨rfl, rfl⟩ := h5
  refine ⟨B, n, env, cs, o, _, w, h1, fun x H' cs' w' x' v' => ?_⟩
  obtain ⟨J, z, hP⟩ := finish_ok (os := [o]) (by simpa [tmpsN] using w') x' (.cons v' .nil) h2 h4 hq
  match ds, z, h3 with
  | [dx], .cons (F := F) fx .nil, h3 =>
    have h3 : pm1 .rev dx = some d := h3
    cases dx with
    | list xs =>
      simp only [pm1, Option.some.injEq] at h3
      subst h3
      obtain ⟨a, us, Ga, rfl, rfl, ra, ta⟩ := fx.list
      obtain ⟨G, g1, g2⟩ := ta.rev
      exact ⟨a, us, rfl, .inl ra, fun q hq => hP.lst g1 (fun b hb => by simp [inn, g2 b hb]) hq⟩
    | _ => simp [pm1] at h3
end
end Ev
set_option maxHeartbeats 2000000
set_option maxRecDepth 100000
/-! The primitives, by HandS's rules (3): built-in functions. -/
namespace Ev
open PySem PySem.Spec PyProof.Rows L2
variable [Tb]

section
variable {K : PySem.W.Frag} {X : Cx} {C : FS}

theorem z1 {vs : List V} {ds : List D} {J : List Addr} {H : Hp} {d : D} (z : FpZ K H vs ds J) (e : ds = [d]) : ∃ v F, vs = [v] ∧ Fp K H v d F ∧ J = inn d F ++ [] := by
  subst e
  match vs, J, z with
  | _, _, .cons h .nil => exact ⟨_, _, rfl, h, rfl⟩
theorem z2 {vs : List V} {ds : List D} {J : List Addr} {H : Hp} {d e : D} (z : FpZ K H vs ds J) (q : ds = [d, e]) : ∃ v u F G, vs = [v, u] ∧ Fp K H v d F ∧ Fp K H u e G := by
  subst q
  match vs, J, z with
  | _, _, .cons h (.cons h' .nil) => exact ⟨_, _, _, _, rfl, h, h'⟩
theorem pm_1 {p : Pm} {ds : List D} {r : D} (h : pm p ds = some r) (h2 : ∀ a b, pm2 p a b = none) (hp : p ≠ .slLoHi) : ∃ d, ds = [d] ∧ pm1 p d = some r := by
  match ds, h with
  | [], h => cases p <;> simp [pm] at h
  | [d], h => exact ⟨d, rfl, h⟩
  | [a, b], h => rw [show pm p [a, b] = pm2 p a b from rfl, h2] at h; cases h
  | [a, b, c], h => cases p <;> first | exact absurd rfl hp | simp [pm] at h
  | _ :: _ :: _ :: _ :: _, h => cases p <;> simp [pm] at h
theorem pm_2 {p : Pm} {ds : List D} {r : D} (h : pm p ds = some r) (h1 : ∀ a, pm1 p a = none) (hp : p ≠ .slLoHi) : ∃ d e, ds = [d, e] ∧ pm2 p d e = some r := by
  match ds, h with
  | [], h => cases p <;> simp [pm] at h
  | [d], h => rw [show pm p [d] = pm1 p d from rfl, h1] at h; cases h
  | [a, b], h => exact ⟨a, b, rfl, h⟩
  | [a, b, c], h => cases p <;> first | exact absurd rfl hp | simp [pm] at h
  | _ :: _ :: _ :: _ :: _, h => cases p <;> simp [pm] at h

/-! len, abs, max, min, int -/
theorem okL_len : PrOkL K .len (fun xs H Q => ∃ p ys, xs = [V.ref p] ∧ (SqL K H p ys ∨ SqT K H p ys) ∧ Q (.int ys.length) H) := by
  intro vs ds J r H Q z h hP
  replace h := pm_1 h (fun a b => by simp [pm2]) (by decide)
  obtain ⟨d, rfl, h⟩ := h
  obtain ⟨v, F, rfl, fp, rfl⟩ := z1 z rfl
  cases d with
  | list xs =>
    simp only [pm1, Option.some.injEq] at h
    subst h
    obtain ⟨a, us, G, rfl, rfl, ra, ta⟩ := fp.list
    refine ⟨a, us, rfl, .inl (.inl ra), ?_⟩
    rw [ta.len]
    exact hP.imm (.int _) rfl
  | tuple xs =>
    simp only [pm1, Option.some.injEq] at h
    subst h
    obtain ⟨a, us, rfl, ra, ta⟩ := fp.tuple
    refine ⟨a, us, rfl, .inr ra, ?_⟩
    rw [ta.len]
    exact hP.imm (.int _) rfl
  | _ => simp [pm1] at h
theorem okL_abs : PrOkL K .abs (fun xs H Q => ∃ i, xs = [V.int i] ∧ Q (.int (if i < 0 then -i else i)) H) := by
  intro vs ds J r H Q z h hP
  replace h := pm_1 h (fun a b => by simp [pm2]) (by decide)
  obtain ⟨d, rfl, h⟩ := h
  obtain ⟨v, F, rfl, fp, rfl⟩ := z1 z rfl
  simp only [pm1, Option.map_eq_some_iff] at h
  obtain ⟨i, h1, rfl⟩ := h
  rw [asI_eq h1] at fp
  rw [fp.int_v]
  exact ⟨i, rfl, hP.imm (.int _) rfl⟩
theorem okL_max2 : PrOkL K .max2 (fun xs H Q => ∃ i j, xs = [V.int i, V.int j] ∧ Q (.int (if j > i then j else i)) H) := by
  intro vs ds J r H Q z h hP
  replace h := pm_2 h (fun a => by simp [pm1]) (by decide)
  obtain ⟨d, e, rfl, h⟩ := h
  obtain ⟨v, u, F, G, rfl, f1, f2⟩ := z2 z rfl
  obtain ⟨i, j, rfl, rfl, rfl⟩ := ii_of h
  rw [f1.int_v, f2.int_v]
  exact ⟨i, j, rfl, hP.imm (.int _) rfl⟩
theorem okL_min2 : PrOkL K .min2 (fun xs H Q => ∃ i j, xs = [V.int i, V.int j] ∧ Q (.int (if j < i then j else i)) H) := by
  intro vs ds J r H Q z h hP
  replace h := pm_2 h (fun a => by simp [pm1]) (by decide)
  obtain ⟨d, e, rfl, h⟩ := h
  obtain ⟨v, u, F, G, rfl, f1, f2⟩ := z2 z rfl
  obtain ⟨i, j, rfl, rfl, rfl⟩ := ii_of h
  rw [f1.int_v, f2.int_v]
  exact ⟨i, j, rfl, hP.imm (.int _) rfl⟩
theorem okL_int : PrOkL K .int (fun xs H Q => (∃ i, xs = [V.int i] ∧ Q (.int i) H) ∨ ∃ k, xs = [V.bl k] ∧ Q (.int (if k then 1 else 0)) H) := by
  intro vs ds J r H Q z h hP
  replace h := pm_1 h (fun a b => by simp [pm2]) (by decide)
  obtain ⟨d, rfl, h⟩ := h
  obtain ⟨v, F, rfl, fp, rfl⟩ := z1 z rfl
  cases d with
  | int i =>
    simp only [pm1, Option.some.injEq] at h
    subst h
    rw [fp.int_v]
    exact .inl ⟨i, rfl, hP.imm (.int _) rfl⟩
  | bool b =>
    simp only [pm1, Option.some.injEq] at h
    subst h
    cases fp
    exact .inr ⟨b, rfl, hP.imm (.int _) rfl⟩
  | _ => simp [pm1] at h

/-! list(x), tuple(x) -/
theorem okL_listOf : PrOkL K .listOf (fun xs H Q => ∃ p ys, xs = [V.ref p] ∧ (SqL K H p ys ∨ SqT K H p ys) ∧ ∀ l, H l = none → Q (.ref l) (upd H l (.lst ys))) := by
  intro vs ds J r H Q z h hP
  replace h := pm_1 h (fun a b => by simp [pm2]) (by decide)
  obtain ⟨d, rfl, h⟩ := h
  obtain ⟨v, F, rfl, fp, rfl⟩ := z1 z rfl
  cases d with
  | list xs =>
    simp only [pm1, Option.some.injEq] at h
    subst h
    obtain ⟨a, us, G, rfl, rfl, ra, ta⟩ := fp.list
    exact ⟨a, us, rfl, .inl (.inl ra), fun l hl => hP.lst ta (fun b hb => by simp [inn, hb]) hl⟩
  | tuple xs =>
    simp only [pm1, Option.some.injEq] at h
    subst h
    obtain ⟨a, us, rfl, ra, ta⟩ := fp.tuple
    exact ⟨a, us, rfl, .inr ra, fun l hl => hP.lst ta (fun b hb => by simp [inn, hb]) hl⟩
  | _ => simp [pm1] at h
theorem okL_tupleOf : PrOkL K .tupleOf (fun xs H Q => ∃ p ys, xs = [V.ref p] ∧ ((SqL K H p ys ∧ ∀ l, H l = none → Q (.ref l) (upd H l (.tup ys))) ∨ (SqT K H p ys ∧ Q (.ref p) H))) := by
  intro vs ds J r H Q z h hP
  replace h := pm_1 h (fun a b => by simp [pm2]) (by decide)
  obtain ⟨d, rfl, h⟩ := h
  obtain ⟨v, F, rfl, fp, rfl⟩ := z1 z rfl
  simp only [pm1, Option.map_eq_some_iff] at h
  obtain ⟨xs, h1, rfl⟩ := h
  rcases seqOf_eq h1 with rfl | rfl
  · obtain ⟨a, us, G, rfl, rfl, ra, ta⟩ := fp.list
    exact ⟨a, us, rfl, .inl ⟨.inl ra, fun l hl => hP.tup ta (fun b hb => by simp [inn, hb]) hl⟩⟩
  · have fp0 := fp
    obtain ⟨a, us, rfl, ra, ta⟩ := fp.tuple
    exact ⟨a, us, rfl, .inr ⟨ra, hP.part fp0 (fun b hb => by simp [inn, hb]) fun _ z => by simp [flat] at z⟩⟩

/-! sums -/
theorem intsOf_eq : ∀ {xs : List D} {ns : List Int}, intsOf xs = some ns → xs = ns.map .int
  | [], ns, h => by simp [intsOf] at h; subst h; rfl
  | .int i :: r, ns, h => by
    simp only [intsOf, Option.map_eq_some_iff] at h
    obtain ⟨ms, h1, rfl⟩ := h
    rw [intsOf_eq h1]; rfl
  | .none :: _, _, h => by simp [intsOf] at h
  | .bool _ :: _, _, h => by simp [intsOf] at h
  | .str _ :: _, _, h => by simp [intsOf] at h
  | .tuple _ :: _, _, h => by simp [intsOf] at h
  | .list _ :: _, _, h => by simp [intsOf] at h
  | .dict _ :: _, _, h => by simp [intsOf] at h
theorem FpAll.ints {H : Hp} : ∀ {ns : List Int} {vs : List V} {F : List Addr}, FpAll K H vs (ns.map .int) F → vs = ns.map V.int
  | [], _, _, .nil => rfl
  | n :: ns, _, _, .cons h t => by
    rw [h.int_v, FpAll.ints t]; rfl
theorem preSum_getD (ns : List Int) : ∀ n, n ≤ ns.length → preSum (fun i => ns.getD i 0) n = (ns.take n).sum
  | 0, _ => rfl
  | n + 1, h => by
    show preSum _ n + ns.getD n 0 = _
    rw [preSum_getD ns n (by omega), PyProof.Rows.take_sum_succ ns n (by omega)]
theorem sum_tup {prog : Program} {w : World} {A : Around} {E : Value → Shared → Prop} {s : Shared} {l : Addr} {its : List Value} {ns : List Int} {Q : Value → Shared → Prop} (hh : A.handled = none) (hl : s.heap.IsTuple l its.toArray) (hi : IntsAre its ns)
    (h : ∀ h' tk t', (∀ b o, s.heap.get? b = some o → h'.get? b = some o) → Q (.int ns.sum t') { s with heap := h', toks := tk }) : wpAny (model prog w) A (call (.builtin "sum") [.ref l]) Q E s := by
  have hn : its.length = ns.length := hi.length
  refine call_sum_walkAnyS (PySem.W.iter_tupleW (A := A.in1) hh hl fun s₂ e W st hfp hw hk => ?_)
  refine ⟨_, _, _, _, _, _, _, fun i => ns.getD i 0, rfl, W, st, hfp, fun i v hv => ?_, fun s' t' m => ?_⟩
  · rw [List.getElem?_toArray] at hv
    obtain ⟨hlt, _⟩ := List.getElem?_eq_some_iff.mp hv
    obtain ⟨t, ht⟩ := hi.get i ns[i] (List.getElem?_eq_getElem (by omega))
    rw [ht] at hv
    refine ⟨t, ?_⟩
    cases hv
    show Value.int ns[i] t = Value.int (ns.getD i 0) t
    rw [List.getD_eq_getElem?_getD, List.getElem?_eq_getElem (by omega)]
    rfl
  · obtain ⟨h', tk, rfl, hk'⟩ := PySem.W.moved_old e rfl m
    have e2 : its.toArray.size = ns.length := by simpa using hn
    rw [e2, preSum_getD ns _ (Nat.le_refl _), List.take_length]
    exact h h' tk t' hk'
def rSumA (K : PySem.W.Frag) : List V → Hp → VK → Prop := fun vs H Q => ∃ (a : Addr) (ns : List Int), vs = [V.ref a] ∧ (SqL K H a (ns.map V.int) ∨ SqT K H a (ns.map V.int)) ∧ Q (.int ns.sum) H
theorem cr_sumA (hc : X.calm = true) : CallR X (.builtin "sum") (rSumA X.K) := by
  intro pins s σ H vs us Q I r h
  obtain ⟨a, ns, rfl, hs, q⟩ := h
  rcases hs with hs | hs
  · exact cr_sum hc pins s σ H _ us Q I r ⟨a, ns, rfl, hs, q⟩
  · obtain ⟨its, rv, hl, _⟩ := I.tuple hs
    rw [Vals.ref1 r]
    exact sum_tup (I.ok.hd hc) hl rv.ints fun h' tk t' hk => ⟨.int _, H, I.kept hk, ⟨_, rfl⟩, q⟩
theorem okL_sum : PrOkL K .sum (rSumA K) := by
  intro vs ds J r H Q z h hP
  replace h := pm_1 h (fun a b => by simp [pm2]) (by decide)
  obtain ⟨d, rfl, h⟩ := h
  obtain ⟨v, F, rfl, fp, rfl⟩ := z1 z rfl
  simp only [pm1, Option.bind_eq_some_iff, Option.map_eq_some_iff] at h
  obtain ⟨xs, h1, ns, h2, rfl⟩ := h
  rw [intsOf_eq h2] at h1
  rcases seqOf_eq h1 with rfl | rfl
  · obtain ⟨a, us, G, rfl, rfl, ra, ta⟩ := fp.list
    exact ⟨a, ns, rfl, .inl (.inl (by rw [← ta.ints]; exact ra)), hP.imm (.int _) rfl⟩
  · obtain ⟨a, us, rfl, ra, ta⟩ := fp.tuple
    exact ⟨a, ns, rfl, .inr (by rw [← ta.ints]; exact ra), hP.imm (.int _) rfl⟩

/-! the greatest, the least -/
theorem readsAll_ints {h : Heap} : ∀ {vs : List Value} {ns : List Int}, IntsAre vs ns → ∃ as, ReadsAll h vs (ns.map .int) as
  | _, _, .nil => ⟨_, .nil⟩
  | _, _, .cons n t r => by
    obtain ⟨as, q⟩ := readsAll_ints (h := h) r
    exact ⟨_, .cons (.int n t) q⟩

theorem maxI_fold : ∀ (ns : List Int) (n : Int), maxI n ns = ns.foldl max n
  | [], n => rfl
  | x :: xs, n => by
    have e : (if x > n then x else n) = max n x := by
      rw [Int.max_def]
      by_cases h : x > n
      · rw [if_pos h, if_pos (by omega)]
      · rw [if_neg h]; split <;> omega
    show maxI (if x > n then x else n) xs = _
    rw [e, maxI_fold xs]; rfl
theorem minI_fold : ∀ (ns : List Int) (n : Int), minI n ns = ns.foldl min n
  | [], n => rfl
  | x :: xs, n => by
    have e : (if x < n then x else n) = min n x := by
      rw [Int.min_def]
      by_cases h : x < n
      · rw [if_pos h, if_neg (by omega)]
      · rw [if_neg h]; split <;> omega
    show minI (if x < n then x else n) xs = _
    rw [e, minI_fold xs]; rfl
theorem alike_int (ns : List Int) : PySem.W.AlikeAll (ns.map .int) := by
  refine ⟨fun x hx y hy => ?_, fun x hx => ?_⟩
  · obtain ⟨i, _, rfl⟩ := List.mem_map.mp hx
    obtain ⟨j, _, rfl⟩ := List.mem_map.mp hy
    rfl
  · obtain ⟨i, _, rfl⟩ := List.mem_map.mp hx
    exact fun z => by cases z
def rMaxA (K : PySem.W.Frag) (f : Int → List Int → Int) : List V → Hp → VK → Prop := fun vs H Q => ∃ (a : Addr) (n : Int) (ns : List Int), vs = [V.ref a] ∧ (SqL K H a ((n :: ns).map V.int) ∨ SqT K H a ((n :: ns).map V.int)) ∧ Q (.int (f n ns)) H
theorem cr_maxA (hc : X.calm = true) (hu : X.A.units + 64 < cLine) : CallR X (.builtin "max") (rMaxA X.K maxI) := by
  intro pins s σ H vs us Q I r h
  obtain ⟨a, n, ns, rfl, hs, q⟩ := h
  rw [Vals.ref1 r]
  have fin : ∀ (i : Nat) v h' tk bs (its : List Value), its.toArray[i]? = some v → Reads h' v (PySem.W.maxD (.int n) (ns.map .int)) bs → (∀ b o, s.heap.get? b = some o → h'.get? b = some o) → EP X pins σ Q v { s with heap := h', toks := tk } := fun i v h' tk bs its _ rd hk => by
    rw [PySem.W.maxD_ints, ← maxI_fold] at rd
    cases rd
    exact ⟨.int _, H, I.kept hk, ⟨_, rfl⟩, q⟩
  have hd : PyData.depthAll (PyData.int n :: ns.map .int) = 0 := PySem.W.depth_ints (n :: ns)
  rcases hs with hs | hs
  · obtain ⟨its, rv, hl, _⟩ := I.list hs
    obtain ⟨as, ra⟩ := readsAll_ints (h := s.heap) rv.ints
    exact PySem.W.max_list_data (x := .int n) (xs := ns.map .int) (I.ok.hd hc) hl.isList ra (alike_int (n :: ns)) (by rw [hd]; omega) fun i v h' tk bs hv rd hk => fin i v h' tk bs its hv rd hk
  · obtain ⟨its, rv, hl, _⟩ := I.tuple hs
    obtain ⟨as, ra⟩ := readsAll_ints (h := s.heap) rv.ints
    exact PySem.W.max_tuple_data (x := .int n) (xs := ns.map .int) (I.ok.hd hc) hl ra (alike_int (n :: ns)) (by rw [hd]; omega) fun i v h' tk bs hv rd hk => fin i v h' tk bs its hv rd hk
theorem cr_minA (hc : X.calm = true) (hu : X.A.units + 64 < cLine) : CallR X (.builtin "min") (rMaxA X.K minI) := by
  intro pins s σ H vs us Q I r h
  obtain ⟨a, n, ns, rfl, hs, q⟩ := h
  rw [Vals.ref1 r]
  have fin : ∀ (i : Nat) v h' tk bs (its : List Value), its.toArray[i]? = some v → Reads h' v (PySem.W.minD (.int n) (ns.map .int)) bs → (∀ b o, s.heap.get? b = some o → h'.get? b = some o) → EP X pins σ Q v { s with heap := h', toks := tk } := fun i v h' tk bs its _ rd hk => by
    rw [PySem.W.minD_ints, ← minI_fold] at rd
    cases rd
    exact ⟨.int _, H, I.kept hk, ⟨_, rfl⟩, q⟩
  have hd : PyData.depthAll (PyData.int n :: ns.map .int) = 0 := PySem.W.depth_ints (n :: ns)
  rcases hs with hs | hs
  · obtain ⟨its, rv, hl, _⟩ := I.list hs
    obtain ⟨as, ra⟩ := readsAll_ints (h := s.heap) rv.ints
    exact PySem.W.min_list_data (x := .int n) (xs := ns.map .int) (I.ok.hd hc) hl.isList ra (alike_int (n :: ns)) (by rw [hd]; omega) fun i v h' tk bs hv rd hk => fin i v h' tk bs its hv rd hk
  · obtain ⟨its, rv, hl, _⟩ := I.tuple hs
    obtain ⟨as, ra⟩ := readsAll_ints (h := s.heap) rv.ints
    exact PySem.W.min_tuple_data (x := .int n) (xs := ns.map .int) (I.ok.hd hc) hl ra (alike_int (n :: ns)) (by rw [hd]; omega) fun i v h' tk bs hv rd hk => fin i v h' tk bs its hv rd hk
theorem okL_max {p : Pm} {f : Int → List Int → Int} (hp : ∀ d, pm1 p d = (seqOf d).bind fun xs => (intsOf xs).bind fun ns => match ns with
    | n :: r => some (.int (f n r))
    | [] => none) (h2 : ∀ a b, pm2 p a b = none) (h3 : p ≠ .slLoHi) : PrOkL K p (rMaxA K f) := by
  intro vs ds J r H Q z h hP
  replace h := pm_1 h h2 h3
  obtain ⟨d, rfl, h⟩ := h
  obtain ⟨v, F, rfl, fp, rfl⟩ := z1 z rfl
  rw [hp] at h
  simp only [Option.bind_eq_some_iff] at h
  obtain ⟨xs, h1, ns, h2, h3⟩ := h
  cases ns with
  | nil => cases h3
  | cons n ns =>
    simp only [Option.some.injEq] at h3
    subst h3
    rw [intsOf_eq h2] at h1
    rcases seqOf_eq h1 with rfl | rfl
    · obtain ⟨a, us, G, rfl, rfl, ra, ta⟩ := fp.list
      exact ⟨a, n, ns, rfl, .inl (.inl (by rw [← ta.ints]; exact ra)), hP.imm (.int _) rfl⟩
    · obtain ⟨a, us, rfl, ra, ta⟩ := fp.tuple
      exact ⟨a, n, ns, rfl, .inr (by rw [← ta.ints]; exact ra), hP.imm (.int _) rfl⟩
theorem okL_maxL : PrOkL K .maxL (rMaxA K maxI) := okL_max (fun d => rfl) (fun a b => by simp [pm2]) (by decide)
theorem okL_minL : PrOkL K .minL (rMaxA K minI) := okL_max (fun d => rfl) (fun a b => by simp [pm2]) (by decide)
end
end Ev
set_option maxHeartbeats 2000000
set_option maxRecDepth 100000
/-! sorted: of lists and tuples. -/
namespace Ev
open PySem PySem.Spec PyProof.Rows L2
variable [Tb]

section
variable {prog : Program} {w : World} {A : Around} {E : Value → Shared → Prop} {s : Shared}
/-- a tuple's things gathered into a new list -/
theorem collect_tup {l : Addr} {vs : List Value} {Q : List Value → Shared → Prop} (hl : s.heap.IsTuple l vs.toArray)
    (h : Q vs { s with heap := (s.heap.push (seqObj "list" #[] 0)).update s.heap.objs.size (Obj.mapSeq (· ++ vs.toArray)) }) (hsz : vs.length ≤ sizeLine) :
    wpAny (model prog w) A (collect (.ref l)) Q E s := by
  obtain ⟨o, ho, hc, n, hd⟩ := id hl
  unfold collect
  refine wpAny_bind (wpAny_runValue (codeAny_builtin entry_proto_collect' ?_))
  show wpAny _ _ (do again (.builtin "list.__iadd__" ⟨[← newList [], .ref l], []⟩)) _ _ s
  refine wpAny_bind (wpAny_newList (wpAny_pure ⟨Code.quiet_builtin _ (by decide +kernel), codeAny_builtin entry_list_iadd' ?_⟩))
  show wpAny _ _ (Builtin.List.listExtendWith (.ref s.heap.objs.size) (.ref l) (.ref s.heap.objs.size)) _ _ { s with heap := s.heap.push (seqObj "list" #[] 0) }
  unfold Builtin.List.listExtendWith
  have ho' : (s.heap.push (seqObj "list" #[] 0)).get? l = some o := Heap.get?_push_of_some _ ho
  refine wpAny_bind (wpAny_typeOf (T := "tuple") ⟨o, ho', hc⟩ ?_)
  have ht : (Value.type "tuple" == Value.type "tuple") = true := by rfl
  rw [if_pos (by rw [ht]; simp)]
  refine wpAny_bind (listItems_at ho' hd ?_)
  refine wpAny_bind (listItems_at (xs := #[]) (n := 0) (Heap.get?_push_size _ rfl) rfl ?_)
  rw [if_neg (by simp)]
  refine wpAny_bind (listUpdate_at (xs := #[]) (n := 0) (Heap.get?_push_size _ rfl) rfl ?_ (Nat.zero_le _) (by show (#[] ++ vs.toArray).size ≤ sizeLine + 1; simp only [Array.size_append, List.size_toArray, List.length_nil]; omega))
  refine wpAny_pure ?_
  show wpAny (model prog w) A (do
      let o ← load s.heap.objs.size
      match o.data with
      | .seq xs _ => pure xs.toList
      | _ => unsupported "internal:collect") Q E { s with heap := (s.heap.push (seqObj "list" #[] 0)).update s.heap.objs.size (Obj.mapSeq (· ++ vs.toArray)) }
  refine wpAny_bind (wpAny_load (get?_update_seq (Heap.get?_push_size _ rfl) _) ?_)
  show wpAny _ _ (pure ((#[] : Array Value) ++ vs.toArray).toList) Q E _
  rw [show ((#[] : Array Value) ++ vs.toArray).toList = vs by simp]
  exact wpAny_pure h
open PySem.W in
theorem sortedT_of_sort {l : Addr} {vs : List Value} {kw : List (Str × Value)} {Q : Value → Shared → Prop} (hl : s.heap.IsTuple l vs.toArray) (hL : vs.length ≤ sizeLine) (ha1 : argsOk "sorted" ⟨[.ref l], kw⟩) (ha2 : ∀ x, argsOk "list.sort" ⟨[.ref x], kw⟩)
    (body : ∀ E' : Value → Shared → Prop, wpAny (model prog w) A.in1.in1 (Builtin.«list.sort» ⟨[.ref (s.heap.objs.size + 1)], kw⟩) (fun f s' => f = .done (.ret .none) ∧ Q (.ref (s.heap.objs.size + 1)) s') E' { s with heap := copyHeap s.heap vs }) :
    wpAny (model prog w) A (call (.builtin "sorted") [.ref l] kw) Q E s := by
  refine call_function_entry_kw kind_sorted plain_sorted entry_sorted ha1 ?_
  unfold Builtin.«sorted»
  refine wpAny_bind (m := checkCount "sorted" 1 1 _) (wpAny_pure ?_)
  refine wpAny_bind (collect_tup hl ?_ hL)
  refine wpAny_bind (wpAny_newList ?_ hL)
  have hsz : ((s.heap.push (seqObj "list" #[] 0)).update s.heap.objs.size (Obj.mapSeq (· ++ vs.toArray))).objs.size = s.heap.objs.size + 1 := by
    rw [Heap.size_update, size_push']
  show wpAny _ _ _ _ _ { s with heap := copyHeap s.heap vs }
  rw [hsz]
  refine wpAny_bind (wpAny_holding (wpAny_call_entry_kw slot_list_sort ⟨_, copyHeap_at s.heap vs, rfl⟩ entry_list_sort ?body (ha2 _)))
  case body =>
    show wpAny (model prog w) A.in1.in1 (Builtin.«list.sort» ⟨[.ref (s.heap.objs.size + 1)], kw⟩) _ _ _
    refine wpAny_mono (body _) (fun f s' hf => ?_) fun _ _ e => e
    obtain ⟨rfl, hq⟩ := hf
    exact ⟨_, rfl, wpAny_pure ⟨_, rfl, hq⟩⟩
open PySem.W in
/-- sorted of a list or a tuple, either way -/
theorem sortedA_data {β : Type} {R : Value → β → Prop} {enc : β → PyData} {bs : List β} {vs : List Value} {l : Addr} {b : Bool} {kw : List (Str × Value)} {Q : Value → Shared → Prop} (hl : s.heap.IsList l vs.toArray ∨ s.heap.IsTuple l vs.toArray) (hk0 : (kw = [] ∧ b = false) ∨ kw = [(Str.ofString "reverse", .bool b)])
    (e : EachIs R vs bs) (er : EachIs (fun v b => ∃ as, Reads s.heap v (enc b) as) vs bs) (hal : AllAlike (bs.map enc)) (hk : Sortable (bs.map enc)) (hL : bs.length ≤ sizeLine)
    (hu : ∀ b, b ∈ bs → A.units + 2 + (enc b).depth < cLine) (h : ∀ out, out.length = bs.length → EachIs R out (bs.mergeSort (dataLe b enc)) → Q (.ref (s.heap.objs.size + 1)) { s with heap := sortedAll s.heap vs (List.toArray out) }) :
    wpAny (model prog w) A (call (.builtin "sorted") [.ref l] kw) Q E s := by
  have er' : EachIs (fun v b => ∃ as, Reads (sortingHeap (copyHeap s.heap vs) (s.heap.objs.size + 1) vs) v (enc b) as) vs bs := er.mono fun _ _ ⟨as, r⟩ => ⟨as, PyProof.Rows.Reads.keeps (fun _ _ => sorting_copy_old) r⟩
  have hL' : vs.length ≤ sizeLine := by rw [e.length]; exact hL
  have S := SortsAt.data (prog := prog) (w := w) (A := A.in1.in1) (s := { s with heap := sortingHeap (copyHeap s.heap vs) (s.heap.objs.size + 1) vs }) (each_map (R := fun v d => ∃ as, Reads (sortingHeap (copyHeap s.heap vs) (s.heap.objs.size + 1) vs) v d as) enc er') hal hk (bound_map hu)
  have fin := h _ (by rw [sortVals_length b rfl]; exact e.length) (sortVals_data b e er' hal)
  rcases hl with hl | hl
  · rcases hk0 with ⟨rfl, rfl⟩ | rfl
    · exact sorted_of_sort hl hL' (args_sorted1 _) (fun _ => args_list_sort _) fun _ => list_sort_vals (s := { s with heap := copyHeap s.heap vs }) (copyHeap_at s.heap vs) S hL' ⟨rfl, fin⟩
    · exact sorted_of_sort hl hL' (args_sorted_rev _ _) (fun _ => args_list_sort_rev _ _) fun _ => list_sort_rev_vals (s := { s with heap := copyHeap s.heap vs }) (copyHeap_at s.heap vs) S hL' ⟨rfl, fin⟩
  · rcases hk0 with ⟨rfl, rfl⟩ | rfl
    · exact sortedT_of_sort hl hL' (args_sorted1 _) (fun _ => args_list_sort _) fun _ => list_sort_vals (s := { s with heap := copyHeap s.heap vs }) (copyHeap_at s.heap vs) S hL' ⟨rfl, fin⟩
    · exact sortedT_of_sort hl hL' (args_sorted_rev _ _) (fun _ => args_list_sort_rev _ _) fun _ => list_sort_rev_vals (s := { s with heap := copyHeap s.heap vs }) (copyHeap_at s.heap vs) S hL' ⟨rfl, fin⟩
end

section
variable {K : PySem.W.Frag} {X : Cx} {C : FS}
/-- the things with their data, as they stand -/
def rSortA (K : PySem.W.Frag) (b : Bool) : List V → Hp → VK → Prop := fun vs H Q => ∃ (a : Addr) (ps : List (V × D)), vs = [V.ref a] ∧ (SqL K H a (ps.map (·.1)) ∨ SqT K H a (ps.map (·.1))) ∧ (∀ p ∈ ps, Dp K H p.1 p.2) ∧
  sortOk (ps.map (·.2)) = true ∧ ∀ q, H q = none → Q (.ref q) (upd H q (.lst ((ps.mergeSort (PySem.W.dataLe b (·.2))).map (·.1))))
theorem sortOk_facts {ds : List D} (h : sortOk ds = true) : PySem.W.AllAlike ds ∧ PySem.W.Sortable ds ∧ chkAll 20 ds = true ∧ ds.length ≤ big := by
  simp only [sortOk, Bool.and_eq_true, Bool.or_eq_true, List.all_eq_true, decide_eq_true_eq] at h
  obtain ⟨⟨⟨h1, h2⟩, h3⟩, h4⟩ := h
  refine ⟨fun d hd d' hd' => h1 d hd d' hd', ?_, h2, h3⟩
  rcases h4 with h4 | h4
  · left
    intro d hd
    have := h4 d hd
    cases d with
    | tuple xs =>
      cases xs with
      | nil => simp [isTup1] at this
      | cons x r => exact ⟨x, r, rfl⟩
    | _ => simp [isTup1] at this
  · right
    intro d hd
    have := h4 d hd
    cases d <;> simp [isTup, isNone] at this ⊢
theorem chkAll_mem : ∀ {n : Nat} {ds : List D} {d : D}, chkAll n ds = true → d ∈ ds → chk n d = true
  | _, [], _, _, h => by cases h
  | n, x :: xs, d, h, hd => by
    simp only [chkAll, Bool.and_eq_true] at h
    rcases List.mem_cons.mp hd with rfl | hd
    · exact h.1
    · exact chkAll_mem h.2 hd
theorem each_vals : ∀ {ps : List (V × D)} {us : List Value}, Vals (ps.map (·.1)) us → PySem.W.EachIs (fun v (b : V × D) => RelV b.1 v) us ps
  | [], _, .nil => .nil
  | p :: ps, _, .cons r t => .cons r (each_vals t)
theorem vals_each : ∀ {ps : List (V × D)} {us : List Value}, PySem.W.EachIs (fun v (b : V × D) => RelV b.1 v) us ps → Vals (ps.map (·.1)) us
  | _, _, .nil => .nil
  | _, _, .cons r t => .cons r (vals_each t)
theorem each_reads {pins : List (Addr × Obj)} {σ : L2.St} {H : Hp} {s : Shared} (I : Inv X pins σ H s) : ∀ {ps : List (V × D)} {us : List Value}, (∀ p ∈ ps, Dp X.K H p.1 p.2) → Vals (ps.map (·.1)) us → PySem.W.EachIs (fun v (b : V × D) => ∃ as, Reads s.heap v b.2 as) us ps
  | [], _, _, .nil => .nil
  | p :: ps, _, h, .cons r t => .cons (Dp.reads I p.2 p.1 _ (h p List.mem_cons_self) r) (each_reads I (fun q hq => h q (List.mem_cons_of_mem _ hq)) t)
theorem sortA_run {pins : List (Addr × Obj)} {σ : L2.St} {H : Hp} {s : Shared} {vs : List V} {us : List Value} {Q : VK} {b : Bool} {kw : List (Str × Value)} (hu : X.A.units + 64 < cLine) (hk0 : (kw = [] ∧ b = false) ∨ kw = [(Str.ofString "reverse", .bool b)]) (I : Inv X pins σ H s) (r : Vals vs us) (h : rSortA X.K b vs H Q) :
    wpAny (model X.prog X.w) X.A (call (.builtin "sorted") us kw) (EP X pins σ Q) X.xe s := by
  obtain ⟨a, ps, rfl, hs, hd, ho, q⟩ := h
  rw [Vals.ref1 r]
  obtain ⟨f1, f2, f3, f4⟩ := sortOk_facts ho
  have go : ∀ (its : List Value), Vals (ps.map (·.1)) its → (s.heap.IsList a its.toArray ∨ s.heap.IsTuple a its.toArray) → wpAny (model X.prog X.w) X.A (call (.builtin "sorted") [.ref a] kw) (EP X pins σ Q) X.xe s := fun its rv hl => by
    refine sortedA_data (enc := (·.2)) (R := fun v (b : V × D) => RelV b.1 v) hl hk0 (each_vals rv) (each_reads I hd rv) f1 f2 (by rw [← List.length_map (f := (·.2)) (as := ps)]; exact big_line f4) (fun p hp => ?_) fun out hlen ho => ?_
    · have := (chk_lay (chkAll_mem f3 (List.mem_map_of_mem hp))).2
      have e : (p.2).depth ≤ 20 := this
      omega
    · obtain ⟨ep, he'⟩ := PyProof.Rows.sortedAll_at s.heap its out.toArray
      have rv' := vals_each ho
      have hz : ((ps.mergeSort (PySem.W.dataLe b (·.2))).map (·.1)).length ≤ sizeLine := by
        rw [rv'.length, hlen, ← List.length_map (f := (·.2)) (as := ps)]; exact big_line f4
      exact ⟨.ref _, upd H (s.heap.objs.size + 1) (.lst ((ps.mergeSort (PySem.W.dataLe b (·.2))).map (·.1))), I.laid (t' := s.toks) (fun _ _ => PyProof.Rows.sortedAll_old) (Nat.le_succ _) ⟨hz, out, ep, rv', he'⟩, rfl, q _ (I.hok.fresh (Nat.le_succ _))⟩
  rcases hs with hs | hs
  · obtain ⟨its, rv, hl, _⟩ := I.list hs
    exact go its rv (.inl hl.isList)
  · obtain ⟨its, rv, hl, _⟩ := I.tuple hs
    exact go its rv (.inr hl)
theorem cr_sortA (hu : X.A.units + 64 < cLine) : CallR X (.builtin "sorted") (rSortA X.K false) := by
  intro pins s σ H vs us Q I r h
  exact sortA_run hu (.inl ⟨rfl, rfl⟩) I r h
/-- pairs of a list's things -/
theorem FpAll.pairs {H : Hp} : ∀ {vs : List V} {xs : List D} {F : List Addr}, FpAll K H vs xs F → noDictAll xs = true → ∃ ps : List (V × D), vs = ps.map (·.1) ∧ xs = ps.map (·.2) ∧ ∀ p ∈ ps, Dp K H p.1 p.2 ∧ ∃ G, Fp K H p.1 p.2 G ∧ ∀ a ∈ G, a ∈ F
  | _, _, _, .nil, _ => ⟨[], rfl, rfl, fun p h => by cases h⟩
  | _, _, _, .cons (v := v) (d := d) (F := F1) h t, n => by
    simp only [noDictAll, Bool.and_eq_true] at n
    obtain ⟨ps, e1, e2, e3⟩ := FpAll.pairs t n.2
    refine ⟨(v, d) :: ps, by rw [e1]; rfl, by rw [e2]; rfl, fun p hp => ?_⟩
    rcases List.mem_cons.mp hp with rfl | hp
    · exact ⟨h.dp n.1, F1, h, fun a ha => List.mem_append_left _ ha⟩
    · obtain ⟨z1, G, z2, z3⟩ := e3 p hp
      exact ⟨z1, G, z2, fun a ha => List.mem_append_right _ (z3 a ha)⟩
theorem sortD_pairs (b : Bool) (ps : List (V × D)) : (ps.mergeSort (PySem.W.dataLe b (·.2))).map (·.2) = sortD b (ps.map (·.2)) := by
  unfold sortD
  exact List.map_mergeSort fun _ _ _ _ => rfl
theorem ok_sort {p : Pm} {b : Bool} (hp : ∀ d, pm1 p d = (seqOf d).bind fun xs => guardO (sortOk xs) (.list (sortD b xs))) (h2 : ∀ a b, pm2 p a b = none) (h3 : p ≠ .slLoHi) : PrOkL K p (rSortA K b) := by
  intro vs ds J r H Q z h hP
  replace h := pm_1 h h2 h3
  obtain ⟨d, rfl, h⟩ := h
  obtain ⟨v, F, rfl, fp, rfl⟩ := z1 z rfl
  rw [hp] at h
  simp only [Option.bind_eq_some_iff] at h
  obtain ⟨xs, h1, h4⟩ := h
  obtain ⟨hs, rfl⟩ := guardO_some h4
  have main : ∀ (us : List V) (G : List Addr) (a : Addr), FpAll K H us xs G → (∀ c ∈ G, c ∈ inn d F ++ []) → (SqL K H a us ∨ SqT K H a us) → rSortA K b [.ref a] H Q := fun us G a t sub sq => by
    obtain ⟨ps, e1, e2, e3⟩ := t.pairs (chkAll_noDict (sortOk_facts hs).2.2.1)
    rw [e2] at hs hP
    rw [← sortD_pairs] at hP
    refine ⟨a, ps, rfl, by rw [← e1]; exact sq, fun p hp => (e3 p hp).1, hs, fun q hq => ?_⟩
    obtain ⟨G', g1, g2⟩ := FpAll.of_each (K := K) (H := H) (vs := (ps.mergeSort (PySem.W.dataLe b (·.2))).map (·.1)) (ds := (ps.mergeSort (PySem.W.dataLe b (·.2))).map (·.2)) (F := G) (by simp) fun i v d hv hd => by
      simp only [List.getElem?_map, Option.map_eq_some_iff] at hv hd
      obtain ⟨p1, q1, rfl⟩ := hv
      obtain ⟨p2, q2, rfl⟩ := hd
      rw [q1] at q2; cases q2
      have hm : p1 ∈ ps := (List.mergeSort_perm ps _).mem_iff.mp (List.mem_of_getElem? q1)
      exact (e3 p1 hm).2
    exact hP.lst g1 (fun c hc => sub c (g2 c hc)) hq
  rcases seqOf_eq h1 with rfl | rfl
  · obtain ⟨a, us, G, rfl, rfl, ra, ta⟩ := fp.list
    exact main us G a ta (fun c hc => by simp [inn, hc]) (.inl (.inl ra))
  · obtain ⟨a, us, rfl, ra, ta⟩ := fp.tuple
    exact main us F a ta (fun c hc => by simp [inn, hc]) (.inr ra)
theorem okL_sorted : PrOkL K .sorted (rSortA K false) := ok_sort (fun d => rfl) (fun a b => by simp [pm2]) (by decide)
theorem okL_sortedR : PrOkL K .sortedR (rSortA K true) := ok_sort (fun d => rfl) (fun a b => by simp [pm2]) (by decide)
end
end Ev
set_option maxHeartbeats 2000000
set_option maxRecDepth 100000
/-! repr, products, lists of ranges. -/
namespace Ev
open PySem PySem.Spec PyProof.Rows L2
variable [Tb]

section
variable {K : PySem.W.Frag} {X : Cx} {C : FS}

/-! ### repr -/
def rRepr (K : PySem.W.Frag) : List V → Hp → VK → Prop := fun vs H Q => ∃ x d, vs = [x] ∧ Dp K H x d ∧ chk 20 d = true ∧ PyData.showable d = true ∧ (PyData.shown d).length ≤ big ∧ Q (.str (PyData.shown d)) H
theorem cr_repr (hg : X.A.guards = some []) (hu : X.A.units + 64 < cLine) : CallR X (.builtin "repr") (rRepr X.K) := by
  intro pins s σ H vs us Q I r h
  obtain ⟨x, d, rfl, hd, c1, c2, c3, q⟩ := h
  obtain ⟨u, rfl, ru⟩ := vals1 r
  obtain ⟨as, rd⟩ := Dp.reads I d x u hd ru
  have dep := (chk_lay c1).2
  have hsz : (PyData.shown d).length ≤ sizeLine := big_line c3
  have hno := PyData.hasDict_of_canLay d (chk_lay c1).1
  have ref : ∀ a, u = .ref a → wpAny (model X.prog X.w) X.A (call (.builtin "repr") [u]) (EP X pins σ Q) X.xe s := fun a e => by
    subst e
    exact repr_of_reads' rd c2 (PyData.noDict_hsm hno) hg (by omega) (fun _ _ e => e) (fun h' u tk hk => ⟨.str _, H, I.kept hk, ⟨_, rfl⟩, q⟩) hsz
  cases rd with
  | none => exact PySem.P.repr_of_none ⟨.str _, H, I.tok _, ⟨_, rfl⟩, q⟩
  | bool b => exact PySem.P.repr_of_bool ⟨.str _, H, I.tok _, ⟨_, rfl⟩, q⟩
  | int i t => exact PySem.P.repr_of_int (by simpa [PyData.showable] using c2) ⟨.str _, H, I.tok _, ⟨_, rfl⟩, q⟩
  | str y t => exact PySem.P.repr_of_str ⟨.str _, H, I.tok _, ⟨_, rfl⟩, q⟩ hsz
  | list h1 h2 h3 h4 => exact ref _ rfl
  | tuple h1 h2 h3 h4 => exact ref _ rfl
  | dict h1 h2 h3 h4 h5 => exact ref _ rfl
theorem okL_repr : PrOkL K .repr (rRepr K) := by
  intro vs ds J r H Q z h hP
  replace h := pm_1 h (fun a b => by simp [pm2]) (by decide)
  obtain ⟨d, rfl, h⟩ := h
  obtain ⟨v, F, rfl, fp, rfl⟩ := z1 z rfl
  obtain ⟨h1, rfl⟩ := guardO_some (show guardO _ _ = some r from h)
  simp only [Bool.and_eq_true, decide_eq_true_eq] at h1
  exact ⟨v, d, rfl, fp.dp (chk_noDict h1.1.1), h1.1.1, h1.1.2, h1.2, hP.imm (.str _) rfl⟩

/-! ### products -/
theorem tuple_mulS (l : Addr) (items : Array Value) (n : Nat) (dd : Option Addr) (sl : Array (Option Value)) (x : Int) (u : Tok) (c0 : (decide (x < -(2 ^ 63)) || decide (x ≥ 2 ^ 63)) = false) (c1 : (items.isEmpty || x == 1) = true) :
    Meets (Builtin.«tuple.__mul__» ⟨[.ref l, .int x u], []⟩) (fun _ R s => s.heap.get? l = some { cls := .type "tuple", dict := dd, data := .seq items n, slots := sl } ∧ R (.ok (.ret (Value.ref l))) s) :=
  .of_wp fun prog w A R s h => by
    obtain ⟨hp, g, d, tk, os⟩ := s
    obtain ⟨hl, h⟩ := h
    have f1 := AutoSeq1.idx_int
    wp_walk using wpAny_loadPart' hl
    repeat (first
      | (refine wpAny_ite_false (decide_eq_false (by rw [c0]; exact Bool.false_ne_true)) ?_; wp_walk using wpAny_loadPart' hl)
      | (refine wpAny_ite_true (decide_eq_true (by rw [c1])) ?_; wp_walk using wpAny_loadPart' hl))
    exact ⟨_, rfl, h⟩
theorem tuple_mul0 (l : Addr) (items : Array Value) (n : Nat) (dd : Option Addr) (sl : Array (Option Value)) (x : Int) (u : Tok) (c0 : (decide (x < -(2 ^ 63)) || decide (x ≥ 2 ^ 63)) = false) (c1 : (items.isEmpty || x == 1) = false) (c2 : (decide (x ≤ 0) || items.isEmpty) = true) :
    Meets (Builtin.«tuple.__mul__» ⟨[.ref l, .int x u], []⟩) (fun _ R s => s.heap.get? l = some { cls := .type "tuple", dict := dd, data := .seq items n, slots := sl } ∧
      R (.ok (.ret (Value.ref s.heap.objs.size))) { s with heap := s.heap.push { cls := Value.type "tuple", data := Data.seq #[] }, toks := s.toks }) :=
  .of_wp fun prog w A R s h => by
    obtain ⟨hp, g, d, tk, os⟩ := s
    obtain ⟨hl, h⟩ := h
    have f1 := AutoSeq1.idx_int
    have c3 : ((#[] : Array Value).size ≤ sizeLine) := Nat.zero_le _
    wp_walk using wpAny_loadPart' hl
    repeat (first
      | (refine wpAny_ite_false (decide_eq_false (by rw [c0]; exact Bool.false_ne_true)) ?_; wp_walk using wpAny_loadPart' hl)
      | (refine wpAny_ite_false (decide_eq_false (by rw [c1]; exact Bool.false_ne_true)) ?_; wp_walk using wpAny_loadPart' hl)
      | (refine wpAny_ite_true (decide_eq_true (by rw [c2])) ?_; wp_walk using wpAny_loadPart' hl)
      | (refine wpAny_ite_false (decide_eq_false (Nat.not_lt.mpr c3)) ?_; wp_walk using wpAny_loadPart' hl))
    exact ⟨_, rfl, h⟩
/-- list * int -/
def rRepR : R2 := fun x y H Q => ∃ l k xs, x = .ref l ∧ y = .int k ∧ Rd H l (.lst xs) ∧ -(2 ^ 63) ≤ k ∧ k < 2 ^ 63 ∧ xs.length * k.toNat ≤ sizeLine ∧ ∀ p, H p = none → Q (.ref p) (upd H p (.lst (List.replicate k.toNat xs).flatten))
theorem op_repR : OpR X (binaryOp .Mult) rRepR := by
  intro pins s σ H x y v u Q I rx ry h
  obtain ⟨l, k, xs, rfl, rfl, hH, h1, h2, hz, q⟩ := h
  cases rx
  obtain ⟨t, rfl⟩ := ry
  obtain ⟨z, its, n, r, hl, e⟩ := rd_lst I hH
  have hlen : its.toArray.size * k.toNat ≤ sizeLine := by rw [List.size_toArray, ← hl]; exact hz
  have hcap : ¬ its.toArray.size * k.toNat > (2 ^ 63 - 1) / 8 := by
    have : (sizeLine : Nat) ≤ (2 ^ 63 - 1) / 8 := by decide
    omega
  have hfit : ¬ (!Builtin.List.listFitsIndex k) = true := by
    rw [fitsIndex_both h1 h2]
    exact Bool.false_ne_true
  have hlong : ¬ Builtin.List.listTooLong (its.toArray.size * k.toNat) = true := by
    rw [notLongL hlen]
    exact Bool.false_ne_true
  have hnew : List.foldl (fun x1 x2 => x1 ++ x2) #[] (List.replicate (if its.toArray.isEmpty = true then 0 else k.toNat) its.toArray) = (List.replicate k.toNat its).flatten.toArray := by
    rw [size_rep]
    cases its with
    | nil => simp
    | cons a r' => rw [if_neg (by simp)]
  refine wpAny_binaryOp_repeat_ref (T := "list") (U := "int") (by decide) ⟨_, e, rfl⟩ (fun s' => typeIs_int s' k t) noFill_list_mul F.fills_int_mul F.slot_int_rmul repeat_list F.slot_int_index.lookup
    (call_meets F.slot_int_rmul (typeIs_int s k t) F.entry_int_rmul (F.args_int_rmul_2 _ _) (int___rmul___int_list k t l its.toArray n)
      ⟨e, rfl, ⟨_, e, rfl⟩, call_meets F.slot_list_mul ⟨_, e, rfl⟩ F.entry_list_mul (F.args_list_mul_2 _ _) (AutoListH.list___mul___list_int_3 l its.toArray n k t hfit hcap hlong) ⟨e, ?_⟩⟩)
  rw [hnew]
  exact ⟨.ref _, _, I.lnew (t' := s.toks) (r.rep k.toNat) (by rw [PyProof.Rows.lm_len_rep_flat, Nat.mul_comm]; exact hz), rfl, q _ I.fresh⟩
/-- tuple * 1, tuple * 0 and less, () * int -/
def rRepS (K : PySem.W.Frag) : R2 := fun x y H Q => ∃ l k xs, x = .ref l ∧ y = .int k ∧ SqT K H l xs ∧ -1000 ≤ k ∧ k ≤ 1000 ∧ ((xs = [] ∨ k = 1) → Q (.ref l) H) ∧ (xs ≠ [] → k ≤ 0 → ∀ p, H p = none → Q (.ref p) (upd H p (.tup []))) ∧ (xs = [] ∨ k ≤ 1)
theorem op_repS : OpR X (binaryOp .Mult) (rRepS X.K) := by
  intro pins s σ H x y v u Q I rx ry h
  obtain ⟨l, k, xs, rfl, rfl, hT, h1, h2, q1, q2, h3⟩ := h
  cases rx
  obtain ⟨t, rfl⟩ := ry
  obtain ⟨its, r, ⟨⟨cls, dd, data, sl⟩, ho, hc, n, hd⟩, hs⟩ := I.tuple hT
  simp only at hc hd
  subst hc hd
  have hle : its.length = xs.length := r.length.symm
  have c0 : (decide (k < -(2 ^ 63)) || decide (k ≥ 2 ^ 63)) = false := by
    rw [decide_eq_false (by omega), decide_eq_false (by omega)] <;> rfl
  have emp : its.toArray.isEmpty = true ↔ xs = [] := by
    cases xs with
    | nil =>
      have : its = [] := List.eq_nil_of_length_eq_zero hle
      subst this
      simp
    | cons a b =>
      cases its with
      | nil => simp at hle
      | cons c d => simp
  by_cases hs1 : xs = [] ∨ k = 1
  · have c1 : (its.toArray.isEmpty || k == 1) = true := by
      rcases hs1 with h | h
      · rw [emp.mpr h]; rfl
      · rw [h]; simp
    refine wpAny_binaryOp_repeat_ref (T := "tuple") (U := "int") (by decide) ⟨_, ho, rfl⟩ (fun s' => typeIs_int s' k t) noFill_tuple_mul F.fills_int_mul F.slot_int_rmul repeat_tuple F.slot_int_index.lookup
      (call_meets F.slot_int_rmul (typeIs_int s k t) F.entry_int_rmul (F.args_int_rmul_2 _ _) (int_rmul_tuple k t l its.toArray n dd sl)
        ⟨ho, rfl, ⟨_, ho, rfl⟩, call_meets F.slot_tuple_mul ⟨_, ho, rfl⟩ F.entry_tuple_mul (F.args_tuple_mul_2 _ _) (tuple_mulS l its.toArray n dd sl k t c0 c1) ⟨ho, ?_⟩⟩)
    exact ⟨.ref l, H, I, rfl, q1 hs1⟩
  · have hne : xs ≠ [] := fun z => hs1 (.inl z)
    have hk0 : k ≤ 0 := by
      have : k ≠ 1 := fun z => hs1 (.inr z)
      have := h3.resolve_left hne
      omega
    have c1 : (its.toArray.isEmpty || k == 1) = false := by
      have e1 : its.toArray.isEmpty = false := by
        cases h : its.toArray.isEmpty with
        | true => exact absurd (emp.mp h) hne
        | false => rfl
      rw [e1, Bool.false_or]
      exact beq_eq_false_iff_ne.mpr (by omega)
    have c2 : (decide (k ≤ 0) || its.toArray.isEmpty) = true := by rw [decide_eq_true hk0]; rfl
    refine wpAny_binaryOp_repeat_ref (T := "tuple") (U := "int") (by decide) ⟨_, ho, rfl⟩ (fun s' => typeIs_int s' k t) noFill_tuple_mul F.fills_int_mul F.slot_int_rmul repeat_tuple F.slot_int_index.lookup
      (call_meets F.slot_int_rmul (typeIs_int s k t) F.entry_int_rmul (F.args_int_rmul_2 _ _) (int_rmul_tuple k t l its.toArray n dd sl)
        ⟨ho, rfl, ⟨_, ho, rfl⟩, call_meets F.slot_tuple_mul ⟨_, ho, rfl⟩ F.entry_tuple_mul (F.args_tuple_mul_2 _ _) (tuple_mul0 l its.toArray n dd sl k t c0 c1 c2) ⟨ho, ?_⟩⟩)
    exact ⟨.ref s.heap.objs.size, _, I.laid (t' := s.toks) (o := .tup []) (fun b ob q => Heap.get?_push_of_some _ q) (Nat.le_refl _) ⟨Nat.zero_le _, [], .nil, IsTup.new _ _⟩, rfl, q2 hne hk0 _ (I.hok.fresh (Nat.le_refl _))⟩

def rMulA (K : PySem.W.Frag) : R2 := fun x y H Q => rI CMul (fun i j => .int (i * j)) x y H Q ∨ (rRepR x y H Q ∨ (rRepT K x y H Q ∨ rRepS K x y H Q))
theorem op_mulA : OpR X (binaryOp .Mult) (rMulA X.K) := OpR.or op_mul (OpR.or op_repR (OpR.or op_repT op_repS))
theorem FpAll.rep {H : Hp} {vs : List V} {xs : List D} {F : List Addr} (h : FpAll K H vs xs F) : ∀ n : Nat, ∃ G, FpAll K H (List.replicate n vs).flatten (List.replicate n xs).flatten G ∧ ∀ a ∈ G, a ∈ F
  | 0 => ⟨[], .nil, fun a z => by cases z⟩
  | n + 1 => by
    obtain ⟨G, h1, h2⟩ := FpAll.rep h n
    rw [List.replicate_succ, List.replicate_succ, List.flatten_cons, List.flatten_cons]
    refine ⟨_, h.append h1, fun a ha => (List.mem_append.mp ha).elim id (h2 a)⟩
theorem ok_mul : PrOk2 K .mul (rMulA K) := by
  intro x y dx dy F G r H Q fx fy h hP
  have h : pMul dx dy = some r := h
  cases dx with
  | int i =>
    cases dy with
    | int j =>
      obtain ⟨h1, rfl⟩ := guardO_some (show guardO _ _ = some r from h)
      refine .inl ⟨i, j, fx.int_v, fy.int_v, ?_, hP.imm (.int _) rfl⟩
      simp only [mulOk, Bool.or_eq_true, decide_eq_true_eq] at h1
      unfold CMul
      omega
    | _ => simp [pMul] at h
  | list xs =>
    cases dy with
    | int k =>
      obtain ⟨h1, rfl⟩ := guardO_some (show guardO _ _ = some r from h)
      simp only [Bool.and_eq_true, decide_eq_true_eq] at h1
      obtain ⟨a, us, Ga, rfl, rfl, ra, ta⟩ := fx.list
      have e : big = 1000000 := rfl
      rw [e] at h1
      refine .inr (.inl ⟨a, k, us, rfl, fy.int_v, ra, by omega, by omega, ?_, fun p hp => ?_⟩)
      · rw [ta.len]; exact Nat.le_trans h1.1 (by decide)
      · obtain ⟨G', g1, g2⟩ := ta.rep k.toNat
        exact hP.lst g1 (fun q hq => by simp [inn, g2 q hq]) hp
    | _ => simp [pMul] at h
  | tuple xs =>
    cases dy with
    | int k =>
      obtain ⟨h1, rfl⟩ := guardO_some (show guardO _ _ = some r from h)
      simp only [Bool.and_eq_true, decide_eq_true_eq] at h1
      obtain ⟨⟨h1, h2⟩, h3⟩ := h1
      have fx0 := fx
      obtain ⟨a, us, rfl, ra, ta⟩ := fx.tuple
      have nl : us = [] ↔ xs = [] := by
        have := ta.len
        constructor
        · intro e; subst e; exact List.eq_nil_of_length_eq_zero (by simpa using this.symm)
        · intro e; subst e; exact List.eq_nil_of_length_eq_zero (by simpa using this)
      by_cases hs1 : us = [] ∨ k ≤ 1
      · refine .inr (.inr (.inr ⟨a, k, us, rfl, fy.int_v, ra, h2, h3, fun hh => ?_, fun hne hk p hp => ?_, hs1⟩))
        · have e : repL k xs = xs := by
            rcases hh with hh | hh
            · rw [nl.mp hh]
              unfold repL
              exact List.eq_nil_iff_forall_not_mem.mpr fun z hz => by simp at hz
            · subst hh; simp [repL]
          rw [e] at hP
          exact hP.part fx0 (fun q hq => by simp [inn, hq]) fun _ z => by simp [flat] at z
        · have e : repL k xs = [] := by
            unfold repL
            rw [show k.toNat = 0 by omega]; rfl
          rw [e] at hP
          exact hP.tup (G := []) .nil (fun q hq => by cases hq) hp
      · have hne : us ≠ [] := fun z => hs1 (.inl z)
        have hk2 : 2 ≤ k := by
          have : ¬ k ≤ 1 := fun z => hs1 (.inr z)
          omega
        refine .inr (.inr (.inl ⟨a, k, us, rfl, fy.int_v, ra, hne, hk2, h3, by rw [ta.len]; exact h1, fun p hp => ?_⟩))
        obtain ⟨G', g1, g2⟩ := ta.rep k.toNat
        exact hP.tup g1 (fun q hq => by simp [inn, g2 q hq]) hp
    | _ => simp [pMul] at h
  | _ => simp [pMul] at h

/-! ### list(range(..)) -/
theorem FpAll.rg {H : Hp} (a b : Int) : FpAll K H (rgV a b) (rangeD a b) [] := by
  unfold rgV rangeD
  induction (List.range (b - a).toNat) with
  | nil => exact .nil
  | cons x xs ih => exact .cons (F := []) (.int _) ih
theorem rgOk_RgOk {a b : Int} (h : rgOk a b = true) : RgOk a b := by
  simp only [rgOk, Bool.and_eq_true, decide_eq_true_eq] at h
  have e : big = 1000000 := rfl
  rw [e] at h
  exact ⟨by omega, by omega, by omega, by omega, by omega⟩
theorem se_listRg {a : Ex} {e : Expr} (h : PE X e (tLstRg (tRg1 (tOd X.K C a)))) : SE X C (.prim .listRg [a]) e := se_prim1 (R := fun x H Q => ∃ n, x = .int n ∧ RgOk 0 n ∧ ∀ q, H q = none → Q (.ref q) (upd H q (.lst (rgV 0 n)))) h (by
  intro x dx F r H Q fx h hP
  simp only [pm1, Option.bind_eq_some_iff] at h
  obtain ⟨n, h1, h2⟩ := h
  obtain ⟨h3, rfl⟩ := guardO_some h2
  rw [asI_eq h1] at fx
  exact ⟨n, fx.int_v, rgOk_RgOk h3, fun q hq => hP.lst (FpAll.rg 0 n) (fun a z => by cases z) hq⟩)
theorem se_listRg2 {a b : Ex} {e : Expr} (h : PE X e (tLstRg (tRg2 (tOd X.K C a) (tOd X.K C b)))) : SE X C (.prim .listRg2 [a, b]) e := se_prim2 (R := fun x y H Q => ∃ i j, x = .int i ∧ y = .int j ∧ RgOk i j ∧ ∀ q, H q = none → Q (.ref q) (upd H q (.lst (rgV i j)))) h (by
  intro x y dx dy F G r H Q fx fy h hP
  simp only [pm2, Option.bind_eq_some_iff] at h
  obtain ⟨i, h1, j, h2, h3⟩ := h
  obtain ⟨h4, rfl⟩ := guardO_some h3
  rw [asI_eq h1] at fx
  rw [asI_eq h2] at fy
  exact ⟨i, j, fx.int_v, fy.int_v, rgOk_RgOk h4, fun q hq => hP.lst (FpAll.rg i j) (fun a z => by cases z) hq⟩)
theorem se_tupRg {a : Ex} {e : Expr} (h : PE X e (tTupRg (tRg1 (tOd X.K C a)))) : SE X C (.prim .tupRg [a]) e := se_prim1 (R := fun x H Q => ∃ n, x = .int n ∧ RgOk 0 n ∧ ∀ q, H q = none → Q (.ref q) (upd H q (.tup (rgV 0 n)))) h (by
  intro x dx F r H Q fx h hP
  simp only [pm1, Option.bind_eq_some_iff] at h
  obtain ⟨n, h1, h2⟩ := h
  obtain ⟨h3, rfl⟩ := guardO_some h2
  rw [asI_eq h1] at fx
  exact ⟨n, fx.int_v, rgOk_RgOk h3, fun q hq => hP.tup (FpAll.rg 0 n) (fun a z => by cases z) hq⟩)
end
end Ev
set_option maxHeartbeats 2000000
set_option maxRecDepth 100000
/-! Defs that are called where no repr is under way. -/
namespace Ev
open PySem PySem.Spec PyProof.Rows L2
variable [Tb]

structure FnG (P : Program) (w : World) (K : PySem.W.Frag) (mg : Str → Option Value) (base : Heap) (k : Nat) (f : Addr) (fd : FuncData) (ps : List Str) (sp : Sp) : Prop where
  len : ∀ vs H Q E, sp vs H Q E → vs.length = ps.length
  run : ∀ (A : Around) (outer : List Env) (s : Shared) (H : Hp) (args : Args) (us : List Value) (vs : List V) (Q : VK) (E : XK), Room k A → A.guards = some [] → Env0 P w K mg base A outer s H → BindsTo s fd args (ps.zip us) → Vals vs us → sp vs H Q E →
    codeAny (model P w) A (.call (.ref f) args) (CR CX0 outer P w H s Q E) s

section
variable {X : Cx} {k : Nat} {f : Addr} {fd : FuncData} {ps : List Str} {sp : Sp} {E : XK} {x : Str} {p pos : Pos} {e : Expr} {es : List Expr} {t : TA}
theorem run_fnG {pins : List (Addr × Obj)} {σ : L2.St} {H : Hp} {s : Shared} {Q : VK} {us : List Value} {vs : List V} (F : FnG X.prog X.w X.K X.mg X.base k f fd ps sp) (hr : Room k X.A) (hG : X.A.guards = some []) (hb : Binds X.K fd ps [])
    (I : Inv X pins σ H s) (r : Vals vs us) (h : sp vs H Q E0) : wpAny (model X.prog X.w) X.A (call (.ref f) us) (EP X pins σ Q) X.xe s := by
  have hl : (us ++ []).length = ps.length := by rw [List.append_nil, ← r.length]; exact F.len _ _ _ _ h
  have bb := hb s us I.kIn hl
  rw [List.append_nil] at bb
  refine wpAny_call (codeAny_mono (F.run X.A X.stack s H ⟨us, []⟩ us vs Q E0 hr hG I.env0 bb r h) fun r s' hq => ?_)
  cases r with
  | error e => exact (hq : False).elim
  | ok fl =>
    cases fl with
    | ret u => exact I.after hq
    | next => exact False.elim hq
    | brk => exact False.elim hq
    | cont => exact False.elim hq
/-- f(..): the written arguments -/
def tCallG (sp : Sp) (t : TA) : TE := fun σ H Q => t σ H fun vs H1 => sp vs H1 Q E0
theorem pe_callG (F : FnG X.prog X.w X.K X.mg X.base k f fd ps sp) (hr : Room k X.A) (hG : X.A.guards = some []) (hg : Gl X x) (hm : X.mg x = some (.ref f)) (hk : PySem.W.keepIn X.K (.ref f) = true) (hb : Binds X.K fd ps [])
    (ha : PA X (e :: es) t) (hdb : (x == ("__debug__" : Str)) = false) (he : starEach (e :: es) X.env = (false, eval e X.env) :: starEach es X.env) (hpl : (PySem.backTo pos (starEach es X.env)).any (·.1) = false) :
    PE X (.Call (.Name x p) (e :: es) [] pos) (tCallG sp t) := by
  refine ⟨fun pins s σ H Q I h => ?_⟩
  refine wpAny_Call_Name_kw (ld_glob I hg hm ?_ hdb)
  refine PySem.W.callWith_K (h₀ := X.base) I.ok.mod.kin hk (thn (ha.run pos pins s σ H _ I h) fun us s1 ⟨vs, H1, I1, r, q⟩ => ⟨I1.kIn, ?_⟩) he hpl
  exact run_fnG F hr hG hb I1 r q
theorem pe_callG0 (F : FnG X.prog X.w X.K X.mg X.base k f fd ps sp) (hr : Room k X.A) (hG : X.A.guards = some []) (hg : Gl X x) (hm : X.mg x = some (.ref f)) (hk : PySem.W.keepIn X.K (.ref f) = true) (hb : Binds X.K fd ps [])
    (hdb : (x == ("__debug__" : Str)) = false) (ha : PA X [] t) : PE X (.Call (.Name x p) [] [] pos) (tCallG sp (fun σ H Q => Q [] H)) := by
  refine ⟨fun pins s σ H Q I h => ?_⟩
  refine wpAny_Call_Name_kw (ld_glob I hg hm ?_ hdb)
  exact PySem.W.callWith_K0 I.kIn hk (run_fnG (us := []) F hr hG hb I .nil h)
end

/-- a def by its body -/
theorem fn_ofG {P : Program} {w : World} {K : PySem.W.Frag} {mg : Str → Option Value} {base : Heap} {k : Nat} {x qual : Str} {st : Stmt} {f : Addr} {fd : FuncData} {N ps : List Str} {sp : Sp} (F : Fun K x qual st f fd) (S : FnScope N ps (defScope st))
    (len : ∀ vs H Q E, sp vs H Q E → vs.length = ps.length)
    (hbody : ∀ (cdv : Value) (A : Around) (outer : List Env) (s : Shared) (H : Hp) (vs : List V) (Q : VK) (E : XK), cdv = fd.code → Room k (A.deeper (envOfC qual (defScope st) s.heap.objs.size f cdv)) → A.guards = some [] → sp vs H Q E →
      ∃ t, PSs (cxOf CX0 P w K mg base N qual (defScope st) f cdv A outer s H E).nox (defBody st) t ∧ t { nx := fun _ H' => Q .non H', rt := Q } (start N vs) H) :
    FnG P w K mg base (k + 1) f fd ps sp := by
  obtain ⟨oc, od, kV, doc, pm, an, cdv, ct, osl, rfl, lk, hcd⟩ := F.ex
  generalize hsc : defScope st = scope at *
  refine ⟨len, fun A outer s H args us vs Q E hr hG e0 hb r hsp => ?_⟩
  have hl := len _ _ _ _ hsp
  have KX : K.In s.heap := e0.mod.kin.keeps fun b o e => (e0.bs b o e).1
  have lim : s.heap.NoLimit := e0.mod.nolimit.keeps fun b o e => (e0.bs b o e).1
  have hkind : ∀ y ∈ ps.zip us, scope.names.lookup y.1 = some .local ∨ (scope.names.lookup y.1 = some .cell ∧ ((cellsFrom (s.heap.objs.size + 1) scope.names []).lookup y.1).isSome = true) := fun ⟨n, v⟩ hy => by
    rcases S.par n (List.of_mem_zip hy).1 with q | q
    · exact .inl q
    · exact .inr ⟨q, PySem.W.cellsFrom_some _ _ _ (.inl q)⟩
  refine codeAny_call_function hr.depth (KX _ _ lk) rfl S.co S.gen rfl (PySem.W.codeRec_of KX hcd) (hb _ _ _ _ ?_)
  refine wpAny_newFunctionEnv_cells S.kind hkind fun env he s1 x => ?_
  subst he
  refine ⟨lim.keeps x.toInCall.keep, codeAny_func ?_⟩
  obtain ⟨t, ht0, hq⟩ := hbody cdv A outer s H vs Q E rfl (hr.deeper _) hG hsp
  have ht := ht0.nox
  have I : Inv (cxOf CX0 P w K mg base N qual scope f cdv A outer s H E) [] (start N vs) H s1 := inv_start S hr.hd e0 hl r x
  refine wpAny_mono (ht.run [] s1 (start N vs) H _ I hq) (fun fl s' hs => ?_) fun e s' hs => hs
  have fin : ∀ {σ' : L2.St} {H' : Hp} {v : V} {u : Value}, Inv (cxOf CX0 P w K mg base N qual scope f cdv A outer s H E) [] σ' H' s' → RelV v u → Q v H' → CE outer P w H s Q u s' :=
    fun {σ' H' v u} J rv q => ⟨v, H', J.os, J.bare, J.base, J.hok, rv, q⟩
  cases fl with
  | ret u =>
    obtain ⟨v, σ', H', J, rv, q⟩ := hs
    exact fin J rv q
  | next =>
    obtain ⟨σ', H', J, q⟩ := hs
    exact fin (v := V.non) (u := Value.none) J rfl q
  | brk =>
    obtain ⟨_, _, _, q⟩ := hs
    exact False.elim q
  | cont =>
    obtain ⟨_, _, _, q⟩ := hs
    exact False.elim q

/-- the law's promise at the heap behind the top, where the script isn't one of K's own -/
theorem law_callG {P : Program} {w : World} {K : PySem.W.Frag} {mg mb : Str → Option Value} {k : Nat} {fa a : Addr} {fd : FuncData} {x : Str} {sp : Sp} {s₁ : Shared} {vs : List Value} {ns : List Int}
    (KX : K.In s₁.heap) (hka : K.lookup a = none) (hns : s₁.heap.Ns mainGlobals mg) (hb : s₁.heap.Ns builtinsNs mb) (hbb : ∀ x : Str, x ≠ "__name__" → mb x = bootBuiltins x) (hlim : s₁.heap.NoLimit) (hg : s₁.gens = #[])
    (ha : s₁.heap.get? a = some { cls := .type "list", data := .seq vs.toArray }) (hi : IntsAre vs ns) (hl : ns.length ≤ sizeLine) (hr : Room k callerA)
    (F : ∀ base : Heap, K.In base → base.Ns mainGlobals mg → FnG P w K mg base k fa fd [x] sp) (hbind : ∀ (s : Shared) (u : Value), BindsTo s fd ⟨[u], []⟩ [(x, u)])
    (hsp : ∀ H : Hp, Rd H a (.lst (ns.map V.int)) → sp [.ref a] H (fun v _ => v = .bl true) E0) :
    codeAny (model P w) callerA (.call (.ref fa) ⟨[.ref a], []⟩) (fun r s' => r = .ok (.ret (.bool true)) ∧ OldK s₁.heap s'.heap ∧ s'.os = s₁.os ∧ AllBare s'.gens) s₁ := by
  have rv := vals_ints hi
  have lenV := hi.length
  obtain ⟨H, hO, hS, hok, hA⟩ : ∃ H : Hp, Only H ∧ Rd H a (.lst (ns.map V.int)) ∧ HOk P w H s₁.heap ∧ (∀ b, H b ≠ none → b = a) := by
    refine ⟨fun b => if b = a then some (.frz { cls := .type "list", data := .seq vs.toArray } (.lst (ns.map V.int))) else none, fun b => ?_, .inr ⟨_, if_pos rfl⟩, fun b u z => ?_, fun b z => ?_⟩
    · by_cases hb : b = a
      · exact .inr ⟨_, _, if_pos hb⟩
      · exact .inl (if_neg hb)
    · by_cases hb : b = a
      · subst hb
        cases (if_pos rfl).symm.trans z
        exact ⟨ha, by rw [List.length_map]; exact hl, vs, _, rv, ha⟩
      · cases (if_neg hb).symm.trans z
    · by_cases hb : b = a
      · exact hb
      · exact absurd (if_neg hb) z
  have hK : H a ≠ none → K.lookup a = none := fun _ => hka
  -- what isn't tracked is base
  have noA : ∀ {b : Addr} {o : Obj} {es : Array DictEntry} {ep : Nat}, s₁.heap.get? b = some o → o.data = .dict es ep → H b = none := fun {b o es ep} e d => by
    by_cases q : H b = none
    · exact q
    · have e' := hA b q
      subst e'
      rw [ha] at e; cases e
      cases (show Data.seq vs.toArray _ = Data.dict es ep from d)
  have nsK : ∀ {b : Addr} {m : Str → Option Value}, s₁.heap.Ns b m → (hidT s₁.heap H).Ns b m := fun {b m} ⟨o, es, ep, e, d, r⟩ => ⟨o, es, ep, hidT_get e (noA e d), d, r⟩
  have hKb : K.In (hidT s₁.heap H) := fun b o e => hidT_get (KX b o e) (by
    by_cases q : H b = none
    · exact q
    · have e' := hA b q
      subst e'
      rw [hK q] at e; cases e)
  have hM : Mod K mg (hidT s₁.heap H) := ⟨hKb, nsK hns, ⟨mb, nsK hb, hbb⟩, let ⟨mc, h1, h2⟩ := hlim; ⟨mc, nsK h1, h2⟩⟩
  have e0 : Env0 P w K mg (hidT s₁.heap H) callerA [] s₁ H := ⟨rfl, hM, fun b o e => of_hidT e, Nat.le_of_eq (hidT_size _ _), trivial, fun b hb => (by cases (show b ∈ ([] : List Addr) from hb)), hok, .of_eq hg⟩
  refine codeAny_mono ((F _ hKb (nsK hns)).run callerA [] s₁ H ⟨[.ref a], []⟩ [.ref a] [.ref a] _ _ hr rfl e0 (hbind s₁ (.ref a)) (.cons rfl .nil) (hsp H hS)) fun r s' h => ?_
  cases r with
  | error e => exact (h : False).elim
  | ok fl =>
    cases fl with
    | next => exact False.elim h
    | brk => exact False.elim h
    | cont => exact False.elim h
    | ret u =>
      obtain ⟨v, H', os, bare, un, hok', r', q⟩ := h
      obtain rfl : v = .bl true := q
      obtain rfl : u = Value.bool true := r'
      refine ⟨rfl, OldK.of_keep fun b o e => ?_, os, bare⟩
      rcases hO b with z | ⟨ob, xs, z⟩
      · exact un.keep b o e z (by intro z; cases (show b ∈ ([] : List Addr) from z)) (by simp)
      · obtain ⟨e1, _⟩ := hok b _ z
        obtain ⟨e2, _⟩ := hok' b _ (un.frzs b ob _ z)
        rw [e] at e1; cases e1
        exact e2

/-- all of K but lists and tuples -/
def SubK (K K0 : PySem.W.Frag) : Prop := ∀ b o, K.lookup b = some o → (∀ its n, o.data ≠ .seq its n) → K0.lookup b = some o
theorem lookup_filter {K : PySem.W.Frag} {a b : Addr} : List.lookup b (K.filter fun p => p.1 != a) = if b = a then none else List.lookup b K := by
  induction K with
  | nil => simp [List.lookup]
  | cons p r ih =>
    obtain ⟨c, o⟩ := p
    by_cases hc : c = a
    · subst hc
      rw [List.filter_cons_of_neg (by simp), ih]
      by_cases hb : b = c
      · simp [hb]
      · rw [if_neg hb, if_neg hb]
        simp only [List.lookup]
        rw [show (b == c) = false by simpa using hb]
    · rw [List.filter_cons_of_pos (by simpa using hc)]
      simp only [List.lookup]
      by_cases hb : b = c
      · subst hb
        rw [show (b == b) = true by simp, if_neg hc]
      · rw [show (b == c) = false by simpa using hb]
        exact ih

theorem walk_ofG {l : PySem.W.OpenLaw} {n k : Nat} {q : Program} {loose : List Str} {XP : (Str → Option Value) → Heap → Prop} {YP : World → Heap → Prop} {d : DefRec} {K : Params → PySem.W.Frag} {sp : PySem.W.Frag → Sp} {x : Str}
    (hn : l.most = some n) (hn2 : n ≤ sizeLine) (hdf : d.params.defaults = []) (hr : Room k callerA)
    (hY : ∀ (w : World) (h : Heap), YP w h → (K w.params).In h)
    (F : ∀ (w : World) (mg : Str → Option Value) (fa : Addr) (h : Heap), (K w.params).In h → h.Ns mainGlobals mg → mg d.name = some (.ref fa) →
      ∃ fd : FuncData, (∀ (s : Shared) (u : Value), BindsTo s fd ⟨[u], []⟩ [(x, u)]) ∧
        ∀ K0, SubK (K w.params) K0 → ∀ base : Heap, K0.In base → base.Ns mainGlobals mg → FnG l.prog w K0 mg base k fa fd [x] (sp K0))
    (hsp : ∀ (K0 : PySem.W.Frag) (H : Hp) (a : Addr) (ns : List Int), ns.length ≤ n → Rd H a (.lst (ns.map V.int)) → sp K0 [.ref a] H (fun v _ => v = .bl true) E0) :
    PySem.W.WalkO q loose XP YP l.row.toRowW d [] (fun f vs => PySem.call f vs) := by
  refine Att.attach_call hn hdf fun w s₀ s₁ mg mb fa o pm cd doc a vs ns G Y ho hd hcd hmg hobj hints hlen hg => ?_
  have KX := hY w _ Y
  obtain ⟨fd, hb, hF⟩ := F w mg fa _ KX G.T.g hmg
  have sub : SubK (K w.params) ((K w.params).filter fun p => p.1 != a) := fun b o e hn => by
    rw [lookup_filter, if_neg]
    · exact e
    · intro z
      subst z
      have := KX _ _ e
      rw [hobj] at this
      cases this
      exact hn _ _ rfl
  have KX0 : PySem.W.Frag.In ((K w.params).filter fun p => p.1 != a) s₁.heap := fun b o e => by
    rw [lookup_filter] at e
    split at e
    · cases e
    · exact KX _ _ e
  exact law_callG KX0 (by rw [lookup_filter, if_pos rfl]) G.T.g G.T.b G.T.builtins G.T.nolimit hg hobj hints (Nat.le_trans hlen hn2) hr (hF _ sub) hb fun H hS => hsp _ H a ns hlen hS
/-- a def that stands in K stands in all but lists -/
theorem Fun.sub {K K0 : PySem.W.Frag} {x qual : Str} {st : Stmt} {f : Addr} {fd : FuncData} (F : Fun K x qual st f fd) (S : SubK K K0) : Fun K0 x qual st f fd := by
  obtain ⟨⟨oc, od, kV, doc, pm, an, cdv, ct, osl, h1, h2, h3⟩, h4⟩ := F
  have l0 : K0.lookup f = some ⟨oc, od, .func fd, osl⟩ := S _ _ h2 fun its n z => by cases z
  refine ⟨⟨oc, od, kV, doc, pm, an, cdv, ct, osl, h1, l0, ?_⟩, ?_⟩
  · unfold PySem.W.codeIn at h3 ⊢
    cases cdv with
    | ref c =>
      simp only at h3 ⊢
      cases hc : K.lookup c with
      | none => rw [hc] at h3; cases h3
      | some o =>
        rw [hc] at h3
        obtain ⟨o1, o2, o3, o4⟩ := o
        cases o3 with
        | fields vs =>
          rw [S _ _ hc fun its n z => by cases z]
          exact h3
        | _ => cases h3
    | _ => cases h3
  · unfold PySem.W.keepIn
    simp only [l0]
end Ev
set_option maxHeartbeats 2000000
set_option maxRecDepth 100000
/-! Places inside lists and dicts. -/
namespace Ev
open PySem PySem.Spec PyProof.Rows L2
variable [Tb]

def vOf : D → V
  | .none => .non
  | .bool b => .bl b
  | .int i => .int i
  | .str x => .str x
  | _ => .non
def scal : D → Bool
  | .none => true
  | .bool _ => true
  | .int _ => true
  | .str _ => true
  | _ => false
theorem vOf_fp {K : PySem.W.Frag} {H : Hp} {d : D} (h : scal d = true) : Fp K H (vOf d) d [] := by
  cases d with
  | none => exact .non
  | bool b => exact .bl b
  | int i => exact .int i
  | str x => exact .str x
  | _ => simp [scal] at h
/-- a name, a written constant -/
def tSm (ex : Ex) : TE := match ex with
  | .var j => tVar j
  | .cst d => tC (vOf d)
  | _ => fun _ _ _ => False
def smOk : Ex → Bool
  | .var _ => true
  | .cst d => scal d
  | _ => false
abbrev SSm (X : Cx) (ex : Ex) (e : Expr) : Prop := PE X e (tSm ex) ∧ smOk ex = true

section
variable {K : PySem.W.Frag} {B : Bd} {H H' : Hp} {n m : Nat} {env env' : En} {σ : L2.St} {cs cs' : Cs}

theorem sm_read (w : Wd K B n env σ H cs) {ex : Ex} {d : D} (hk : smOk ex = true) (h : smE env ex = some d) : ∃ v, (∀ Q : VK, Q v H → tSm ex σ H Q) ∧ Fp K H v d [] ∧ imm d = true := by
  cases ex with
  | var j =>
    simp only [smE, Option.bind_eq_some_iff] at h
    obtain ⟨s, h1, h2⟩ := h
    split at h2
    · rename_i hi
      cases h2
      obtain ⟨c, c1, c2, c3, c4⟩ := w.mt.slot h1
      have fp := w.gd.fp _ c c1
      rw [c3] at fp
      have eF := fp.imm hi
      rw [eF] at fp
      exact ⟨c.v, fun Q q => ⟨c.v, c2, q⟩, fp, hi⟩
    · cases h2
  | cst d' =>
    simp only [smE] at h
    split at h
    · rename_i hi
      cases h
      exact ⟨vOf d, fun Q q => q, vOf_fp hk, hi⟩
    · cases h
  | _ => simp [smOk] at hk
theorem smAll_read (w : Wd K B n env σ H cs) : ∀ {es : List Ex} {ds : List D}, es.all smOk = true → smAll env es = some ds → ∃ vs, (∀ Q : List V → Hp → Prop, Q vs H → (es.foldr (fun e (t : TA) => tCons (tSm e) t) tNil) σ H Q) ∧ FpAll K H vs ds [] ∧ immAll ds = true
  | [], ds, _, h => by
    cases h
    exact ⟨[], fun Q q => q, .nil, rfl⟩
  | e :: es, ds, hk, h => by
    simp only [List.all_cons, Bool.and_eq_true] at hk
    simp only [smAll, Option.bind_eq_some_iff, Option.map_eq_some_iff] at h
    obtain ⟨d, h1, ds', h2, rfl⟩ := h
    obtain ⟨v, v1, v2, v3⟩ := sm_read w hk.1 h1
    obtain ⟨vs, g1, g2, g3⟩ := smAll_read w hk.2 h2
    exact ⟨v :: vs, fun Q q => v1 _ (g1 _ q), .cons (F := []) v2 g2, by simp [immAll, v3, g3]⟩

/-! ### a dict's places -/
theorem valD_at {k : Str} : ∀ {ks : List Str} {ds : List D} {d : D}, ks.length = ds.length → ks.Nodup → valD k ((ks.map PyData.str).zip ds) = some d →
    ∃ j : Nat, ks[j]? = some k ∧ ds[j]? = some d ∧ (∀ v, putD k v ((ks.map PyData.str).zip ds) = some ((ks.map PyData.str).zip (ds.set j v))) ∧
      (∀ (vs : List V) (v' : V), vs.length = ks.length → valV ((ks.map Sum.inr).zip vs) (Sum.inr k : Key) = vs[j]? ∧ putK ((ks.map Sum.inr).zip vs) (Sum.inr k : Key) v' = (ks.map Sum.inr).zip (vs.set j v'))
  | [], ds, d, hl, nd, h => by simp [valD] at h
  | x :: ks, [], d, hl, nd, h => by simp at hl
  | x :: ks, d0 :: ds, d, hl, nd, h => by
    simp only [List.map_cons, List.zip_cons_cons, valD] at h
    obtain ⟨hx, nd'⟩ := List.nodup_cons.mp nd
    by_cases e : x = k
    · rw [if_pos e] at h
      subst e
      refine ⟨0, rfl, by simpa using h, fun v => by simp [putD], fun vs v' hv => ?_⟩
      cases vs with
      | nil => simp at hv
      | cons v vs =>
        refine ⟨by simp only [List.map_cons, List.zip_cons_cons]; rw [valV_pos rfl]; rfl, ?_⟩
        have hany : (((x :: ks).map Sum.inr).zip (v :: vs)).any (fun kv => decide (kv.1 = (Sum.inr x : Key))) = true := by simp
        unfold putK
        rw [if_pos hany]
        simp only [List.map_cons, List.zip_cons_cons, if_true, List.set_cons_zero, List.cons.injEq, true_and]
        have : ∀ p ∈ (ks.map Sum.inr).zip vs, (if p.1 = (Sum.inr x : Key) then (p.1, v') else p) = p := fun p hp => by
          have hm := List.of_mem_zip hp
          obtain ⟨y, hy, he⟩ := List.mem_map.mp hm.1
          rw [if_neg]
          intro z
          rw [z] at he
          have : y = x := by injection he
          subst this
          exact hx hy
        exact (List.map_congr_left this).trans (List.map_id _)
    · rw [if_neg e] at h
      obtain ⟨j, h1, h2, h3, h4⟩ := valD_at (by simpa using hl) nd' h
      refine ⟨j + 1, by simpa using h1, by simpa using h2, fun v => ?_, fun vs v' hv => ?_⟩
      · simp only [List.map_cons, List.zip_cons_cons, putD, if_neg e, h3, Option.map_some, List.set_cons_succ]
      · cases vs with
        | nil => simp at hv
        | cons v vs =>
          obtain ⟨g1, g2⟩ := h4 vs v' (by simpa using hv)
          have hne : ¬ (Sum.inr x : Key) = Sum.inr k := fun z => e (by injection z)
          refine ⟨by simp only [List.map_cons, List.zip_cons_cons]; rw [valV_neg hne, g1]; simp, ?_⟩
          have hin : (((ks.map Sum.inr).zip vs).any fun kv => decide (kv.1 = (Sum.inr k : Key))) = true := by
            rw [valV_any, g1]
            have : j < vs.length := by
              have := (List.getElem?_eq_some_iff.mp h1).1
              have hv : vs.length = ks.length := by simpa using hv
              omega
            rw [List.getElem?_eq_getElem this]; rfl
          unfold putK at g2 ⊢
          rw [if_pos hin] at g2
          simp only [List.map_cons, List.zip_cons_cons, List.any_cons, hin, Bool.or_true, if_true, hne, if_false, List.set_cons_succ, List.cons.injEq, true_and]
          exact g2

/-- what has the list at l inside: it gets other things -/
theorem Wd.inner (w : Wd K B n env σ H cs) {i : Nat} {s : Sl} {c : Cell} {l : Addr} {o' : HO} {d' : D} (hs : getS env i = some s) (hf : s.fl = .own) (e : cs (.s i) = some c) (hl : l ∈ c.F) (mu' : Mut (some o')) (fp : Fp K (upd H l o') c.v d' c.F) :
    Wd K B n (putS env i d' .own) σ (upd H l o') (putC cs (.s i) (some ⟨c.v, d', c.F, c.F⟩)) := by
  obtain ⟨c0, e1, e2, e3, e4⟩ := w.mt.slot hs
  rw [e] at e1; cases e1
  rw [hf] at e4
  obtain ⟨f1, f2⟩ := e4
  have inX : ∀ b ∈ c.F, b ∈ c.X := fun b hb => by rw [f1]; exact hb
  refine ⟨w.gd.write (c' := ⟨c.v, d', c.F, c.F⟩) e (inX l hl) fp (fun b hb => ?_) (fun b hb => w.gd.rc _ _ e b hb) (fun q c2 hq eq b hb => w.gd.dis (.s i) q c c2 (Ne.symm hq) e eq b (inX b hb)) (fun q c2 hq eq b hb => w.gd.dis q (.s i) c2 c hq eq e b hb), fun j => ?_, fun j hj => by rw [putC_ne Ky_ts]; exact w.tm j hj, by rw [putS_len]; exact w.len⟩
  · obtain ⟨z1, z2, z3⟩ := w.gd.wr _ _ e b (inX b hb)
    refine ⟨hb, ?_, z3⟩
    by_cases q : b = l
    · subst q; rw [upd_same]; exact mu'
    · rw [upd_ne q]; exact z2
  · rw [getS_put (getS_lt hs)]
    by_cases q : j = i
    · subst q
      rw [if_pos rfl]
      exact ⟨_, putC_same, e2, rfl, rfl, f2⟩
    · rw [if_neg q]
      have h := w.mt j
      have ne : Ky.s j ≠ Ky.s i := fun z => by cases z; exact q rfl
      cases hj : getS env j with
      | none => rw [hj] at h; show putC _ _ _ _ = none; rw [putC_ne ne]; exact h
      | some s' =>
        rw [hj] at h
        obtain ⟨c', e1, e2, e3⟩ := h
        exact ⟨c', by rw [putC_ne ne]; exact e1, e2, e3⟩

/-- how a place is read: x[k] with k a number, a text -/
def rPl (K : PySem.W.Frag) (kd : Bool) : R2 := if kd then rGetD else rIxA K

/-- a list inside, at a place -/
theorem at_ok (w : Wd K B n env σ H cs) {i : Nat} {s : Sl} {kd : Bool} {dk d' : D} {xs ys : List D} {kv : V} (hs : getS env i = some s) (hf : s.fl = .own) (hk : Fp K H kv dk []) (hg : getK kd s.d dk = some (.list xs)) (hi : immAll xs = true) (hp : putIn kd s.d dk (.list ys) = some d') :
    ∃ a l us, σ[i]? = some (some (.ref a)) ∧ H l = some (.lst us) ∧ FpAll K H us xs [] ∧ (∀ Q : VK, Q (.ref l) H → rPl K kd (.ref a) kv H Q) ∧
      ∀ us', FpAll K H us' ys [] → ∃ c, Wd K B n (putS env i d' .own) σ (upd H l (.lst us')) (putC cs (.s i) (some c)) := by
  obtain ⟨c, e1, e2, e3, e4⟩ := w.mt.slot hs
  have fp := w.gd.fp _ _ e1
  rw [hf] at e4
  obtain ⟨f1, f2⟩ := e4
  rw [e3] at fp
  cases kd with
  | false =>
    cases hd : s.d with
    | list ds =>
      rw [hd] at hg hp fp
      cases dk with
      | int j0 =>
        have hg : pIdx (.list ds) (.int j0) = some (.list xs) := hg
        have hp : (putAt ds j0 (.list ys)).map PyData.list = some d' := hp
        simp only [Option.map_eq_some_iff] at hp
        obtain ⟨ds', hp2, rfl⟩ := hp
        unfold putAt at hp2
        split at hp2
        case isFalse => cases hp2
        rename_i hb
        cases hp2
        obtain ⟨a, vs, G, ev, eF, rd, t⟩ := fp.list
        have hat : atIx ds.length j0 = some j0.toNat := by unfold atIx; rw [if_pos hb.1, if_pos hb.2]
        have g1 : ds[j0.toNat]? = some (.list xs) := by
          simp only [pIdx, hat, Option.bind_some] at hg
          exact hg
        have g2 : ∀ v, vs[j0.toNat]? = some v → atI vs j0 = some v := fun v hv => by
          unfold atI
          rw [t.len, ixN_at hat]
          exact hv
        obtain ⟨v, Gv, y1, y2, y3⟩ := t.get g1
        obtain ⟨l, us, Gl, el, eG, rl, tl⟩ := y2.list
        have : Gl = [] := tl.imm hi
        subst this
        subst el
        subst eG
        have hlG : l ∈ G := y3 l (by simp)
        have hlF : l ∈ c.F := by rw [eF]; exact List.mem_cons_of_mem _ hlG
        have hlX : l ∈ c.X := by rw [f1]; exact hlF
        have mu : Mut (H l) := (w.gd.wr _ _ e1 l hlX).2.1
        have hH : H l = some (.lst us) := by
          rcases rl with rl | ⟨o, rl⟩
          · exact rl
          · rw [rl] at mu; exact mu.elim
        have nd : (a :: G).Nodup := by rw [← eF]; exact f2
        have hal : a ≠ l := fun z => by subst z; exact (List.nodup_cons.mp nd).1 hlG
        refine ⟨a, l, us, by rw [e2, ev], hH, tl, fun Q q => ?_, fun us' fy => ?_⟩
        · cases hk
          exact .inl ⟨a, vs, j0, .ref l, rfl, rfl, .inl rd, g2 _ y1, q⟩
        · obtain ⟨fi, _⟩ := t.inner (List.nodup_cons.mp nd).2 g1 hi y1 mu fy
          refine ⟨_, w.inner hs hf e1 hlF (o' := .lst us') trivial ?_⟩
          rw [ev, eF]
          exact .lst (Rd.keeps rd (Keeps.upd mu) (by simpa using hal)) fi
      | _ => simp [putIn] at hp
    | _ => rw [hd] at hp; simp [putIn] at hp
  | true =>
    cases hd : s.d with
    | dict kvs =>
      rw [hd] at hg hp fp
      cases dk with
      | str k =>
        have hg : valD k kvs = some (.list xs) := hg
        have hp : (putD k (.list ys) kvs).map PyData.dict = some d' := hp
        obtain ⟨a, ks, vs, ds, G, ev, eF, ek, rd, hl, ndk, t⟩ := fp.dict
        subst ek
        obtain ⟨j, g0, g1, g2, g3⟩ := valD_at (by rw [hl, t.len]) ndk hg
        rw [g2] at hp
        simp only [Option.map_some, Option.some.injEq] at hp
        subst hp
        obtain ⟨v, Gv, y1, y2, y3⟩ := t.get g1
        obtain ⟨l, us, Gl, el, eG, rl, tl⟩ := y2.list
        have : Gl = [] := tl.imm hi
        subst this
        subst el
        subst eG
        have hlG : l ∈ G := y3 l (by simp)
        have hlF : l ∈ c.F := by rw [eF]; exact List.mem_cons_of_mem _ hlG
        have hlX : l ∈ c.X := by rw [f1]; exact hlF
        have mu : Mut (H l) := (w.gd.wr _ _ e1 l hlX).2.1
        have hH : H l = some (.lst us) := by
          rcases rl with rl | ⟨o, rl⟩
          · exact rl
          · rw [rl] at mu; exact mu.elim
        have nd : (a :: G).Nodup := by rw [← eF]; exact f2
        have hal : a ≠ l := fun z => by subst z; exact (List.nodup_cons.mp nd).1 hlG
        refine ⟨a, l, us, by rw [e2, ev], hH, tl, fun Q q => ?_, fun us' fy => ?_⟩
        · cases hk
          exact ⟨a, .ref l, rfl, .inl ⟨_, Sum.inr k, rd, rfl, by rw [(g3 vs .non hl.symm).1, y1]⟩, q⟩
        · obtain ⟨fi, _⟩ := t.inner (List.nodup_cons.mp nd).2 g1 hi y1 mu fy
          refine ⟨_, w.inner hs hf e1 hlF (o' := .lst us') trivial ?_⟩
          rw [ev, eF]
          exact .dic (Rd.keeps rd (Keeps.upd mu) (by simpa using hal)) hl ndk fi
      | _ => simp [putIn] at hp
    | _ => rw [hd] at hp; cases dk <;> simp [putIn] at hp
end
end Ev
set_option maxHeartbeats 2000000
set_option maxRecDepth 100000
/-! Methods at places; dict displays. -/
namespace Ev
open PySem PySem.Spec PyProof.Rows L2
variable [Tb]

section
variable {K : PySem.W.Frag} {B : Bd} {H H' : Hp} {n m : Nat} {env env' : En} {σ : L2.St} {cs cs' : Cs}
theorem FpAll.one {vs : List V} {d : D} {F : List Addr} (h : FpAll K H vs [d] F) : ∃ v, vs = [v] ∧ Fp K H v d F := by
  cases h with
  | cons h t =>
    cases t
    exact ⟨_, rfl, by simpa using h⟩
/-- what stands at a place -/
theorem at_read (w : Wd K B n env σ H cs) {i : Nat} {s : Sl} {kd : Bool} {dk d : D} {kv : V} (hs : getS env i = some s) (hk : Fp K H kv dk []) (hg : getK kd s.d dk = some d) :
    ∃ x v G, σ[i]? = some (some x) ∧ Fp K H v d G ∧ (∀ Q : VK, Q v H → rPl K kd x kv H Q) := by
  obtain ⟨c, e1, e2, e3, e4⟩ := w.mt.slot hs
  have fp := w.gd.fp _ _ e1
  rw [e3] at fp
  cases kd with
  | false =>
    have hg : pIdx s.d dk = some d := hg
    cases hd : s.d with
    | list ds =>
      rw [hd] at hg fp
      cases dk with
      | int j0 =>
        obtain ⟨a, vs, G, ev, eF, rd, t⟩ := fp.list
        obtain ⟨j, g1, g2⟩ := pIdx_at (show _ = some d from hg) t.len
        obtain ⟨v, Gv, y1, y2, y3⟩ := t.get g1
        exact ⟨c.v, v, Gv, e2, y2, fun Q q => .inl ⟨a, vs, j0, v, ev, hk.int_v, .inl rd, g2 v y1, q⟩⟩
      | _ => simp [pIdx] at hg
    | tuple ds =>
      rw [hd] at hg fp
      cases dk with
      | int j0 =>
        obtain ⟨a, vs, ev, rd, t⟩ := fp.tuple
        obtain ⟨j, g1, g2⟩ := pIdx_at (show _ = some d from hg) t.len
        obtain ⟨v, Gv, y1, y2, y3⟩ := t.get g1
        exact ⟨c.v, v, Gv, e2, y2, fun Q q => .inr ⟨a, vs, j0, v, ev, hk.int_v, rd, g2 v y1, q⟩⟩
      | _ => simp [pIdx] at hg
    | _ => rw [hd] at hg; simp [pIdx] at hg
  | true =>
    have hg : pIdxD s.d dk = some d := hg
    cases hd : s.d with
    | dict kvs =>
      rw [hd] at hg fp
      cases dk with
      | str k =>
        obtain ⟨a, ks, vs, ds, G, ev, eF, ek, rd, hl, nd, t⟩ := fp.dict
        subst ek
        obtain ⟨v, Gv, g1, g2, g3⟩ := valD_get t hl (show valD k _ = some d from hg)
        cases hk
        exact ⟨c.v, v, Gv, e2, g2, fun Q q => ⟨a, v, ev, .inl ⟨_, Sum.inr k, rd, rfl, g1.symm⟩, q⟩⟩
      | _ => simp [pIdxD] at hg
    | _ => rw [hd] at hg; simp [pIdxD] at hg
end

section
variable {X : Cx} {C : FS}
theorem se_appendAt {i : Nat} {k a : Ex} {e : Expr} (hk : smOk k = true) (ha : smOk a = true) (h : PE X e (tBM X.K "list" rAppend (tOp (rPl X.K (keyE k)) (tVar i) (tSm k)) (tCons (tSm a) tNil))) : SE X C (.methAt .append i k [a]) e := PE_imp h fun σ H Q q => by
  obtain ⟨B, n, env, cs, r, w, h1, hq⟩ := q
  simp only [evE, Option.bind_eq_some_iff] at h1
  obtain ⟨dk, g1, as, g2, s, g3, l, g4, xs, g5, wr, g6, d', g7, g8⟩ := h1
  split at g8
  case isFalse => cases g8
  rename_i hcc
  cases g8
  simp only [Bool.and_eq_true, decide_eq_true_eq] at hcc
  obtain ⟨kv, k1, k2, k3⟩ := sm_read w hk g1
  obtain ⟨avs, a1, a2, a3⟩ := smAll_read w (es := [a]) (by simp [ha]) g2
  have a1 : ∀ Q : List V → Hp → Prop, Q avs H → tCons (tSm a) tNil σ H Q := a1
  rw [asL_eq g5] at g4
  have one : ∃ da, as = [da] := by
    match as, g6 with
    | [da], _ => exact ⟨da, rfl⟩
    | [], g6 => simp [change] at g6
    | _ :: _ :: _, g6 => simp [change] at g6
  obtain ⟨da, rfl⟩ := one
  obtain ⟨av, rfl, fa0⟩ := a2.one
  obtain ⟨hlen, rfl⟩ := guardO_some (show guardO (decide (xs.length < big)) (PyData.none, xs ++ [da]) = some wr from g6)
  obtain ⟨ca, l, us, z1, z2, z3, z4, z5⟩ := at_ok w g3 hcc.1 k2 g4 hcc.2 g7
  obtain ⟨c', w2⟩ := z5 (us ++ [av]) (by have := z3.append (.cons fa0 .nil); simpa using this)
  refine ⟨.ref ca, z1, k1 _ (z4 _ ⟨.inl ⟨rfl, us, .inl (.inl z2)⟩, a1 _ ⟨l, us, av, rfl, rfl, z2, ?_, ?_⟩⟩)⟩
  · rw [z3.len]; exact Nat.lt_of_lt_of_le (by simpa using hlen) (by decide)
  · exact hq .non _ _ [] [] (w2.pushImm .non) ((Ext.puts' (cs := cs)).trans (Nat.le_refl n) Ext.put) putC_same (fitsO_imm rfl)

theorem se_popAt0 {i : Nat} {k : Ex} {e : Expr} (hk : smOk k = true) (h : PE X e (tBM0 X.K "list" rPop (tOp (rPl X.K (keyE k)) (tVar i) (tSm k)))) : SE X C (.methAt .popLast i k []) e := PE_imp h fun σ H Q q => by
  obtain ⟨B, n, env, cs, r, w, h1, hq⟩ := q
  simp only [evE, smAll, Option.bind_some, Option.bind_eq_some_iff] at h1
  obtain ⟨dk, g1, s, g3, l, g4, xs, g5, wr, g6, d', g7, g8⟩ := h1
  split at g8
  case isFalse => cases g8
  rename_i hcc
  cases g8
  simp only [Bool.and_eq_true, decide_eq_true_eq] at hcc
  obtain ⟨kv, k1, k2, k3⟩ := sm_read w hk g1
  rw [asL_eq g5] at g4
  simp only [change, Option.map_eq_some_iff] at g6
  obtain ⟨zd, g6, rfl⟩ := g6
  rw [List.getLast?_eq_getElem?] at g6
  obtain ⟨ca, l, us, z1, z2, z3, z4, z5⟩ := at_ok w g3 hcc.1 k2 g4 hcc.2 g7
  obtain ⟨y, Fy, y1, y2, y3⟩ := z3.get g6
  have Fy0 : Fy = [] := List.eq_nil_iff_forall_not_mem.mpr fun a ha => by have := y3 a ha; cases this
  subst Fy0
  obtain ⟨G', fG', sub⟩ := z3.takeS (us.length - 1)
  have G0 : G' = [] := by cases sub; rfl
  subst G0
  have e2 : us.length = xs.length := z3.len
  obtain ⟨c', w2⟩ := z5 us.dropLast (by rw [List.dropLast_eq_take, List.dropLast_eq_take, ← e2]; exact fG')
  refine ⟨.ref ca, z1, k1 _ (z4 _ ⟨.inl ⟨rfl, us, .inl (.inl z2)⟩, l, us, y, rfl, rfl, z2, by rw [e2]; exact y1, ?_⟩)⟩
  have mu : Mut (H l) := by rw [z2]; trivial
  have hi : imm zd = true := by
    have := List.mem_of_getElem? g6
    have hall : ∀ {ds : List D} {d : D}, immAll ds = true → d ∈ ds → imm d = true := by
      intro ds
      induction ds with
      | nil => intro d _ h; cases h
      | cons x xs ih =>
        intro d h hd
        simp only [immAll, Bool.and_eq_true] at h
        rcases List.mem_cons.mp hd with rfl | hd
        · exact h.1
        · exact ih h.2 hd
    exact hall hcc.2 this
  have fy : Fp X.K (upd H l (.lst us.dropLast)) y zd [] := y2.keeps (Keeps.upd mu) fun b hb => by cases hb
  exact hq y _ _ [] [] (w2.pushImm fy) ((Ext.puts' (cs := cs)).trans (Nat.le_refl n) Ext.put) putC_same (fitsO_imm hi)

theorem se_lenAt {p : Pm} {i : Nat} {k : Ex} {e : Expr} {R : List V → Hp → VK → Prop} (hp : PrOkL X.K p R) (hk : smOk k = true) (h : PE X e (tCB R (tCons (tOp (rPl X.K (keyE k)) (tVar i) (tSm k)) tNil))) : SE X C (.lenAt p i k) e := PE_imp h fun σ H Q q => by
  obtain ⟨B, n, env, cs, r, w, h1, hq⟩ := q
  simp only [evE, Option.bind_eq_some_iff] at h1
  obtain ⟨dk, g1, s, g3, d, g4, r', g5, g6⟩ := h1
  split at g6
  case isFalse => cases g6
  rename_i hi
  cases g6
  obtain ⟨kv, k1, k2, k3⟩ := sm_read w hk g1
  obtain ⟨x, v, G, z1, z2, z3⟩ := at_read w g3 k2 g4
  refine ⟨x, z1, k1 _ (z3 _ (hp [v] [d] _ r' H Q (.cons z2 .nil) g5 fun v' H' G' s' fp _ _ => ?_))⟩
  have eG := fp.imm hi
  subst eG
  exact hq v' H' _ [] [] ((w.grow s').pushImm fp) Ext.put putC_same (fitsO_imm hi)


/-! ### dict displays -/
def trsOf (K : PySem.W.Frag) (C : FS) (ks : List Str) (es : List Ex) : List (TE × TE) := (ks.zip es).map fun p => (tC (.str p.1), tOd K C p.2)
theorem pairs_read {K : PySem.W.Frag} {B : Bd} {σ : L2.St} : ∀ {ks : List Str} {es : List Ex} {n : Nat} {env : En} {H : Hp} {cs : Cs} {os : List Od} {e' : En} {Q : List (V × V) → Hp → Prop}, ks.length = es.length → Wd K B n env σ H cs → evOs C es env = some (os, e') →
    (∀ vs H' cs', Wd K B (n + tmpsN os) e' σ H' cs' → Ext n cs cs' → OdsV cs' σ n os vs → Q ((ks.map V.str).zip vs) H') → tPairs (trsOf K C ks es) σ H Q
  | [], [], n, env, H, cs, os, e', Q, _, w, h, hq => by
    simp only [evOs, Option.some.injEq, Prod.mk.injEq] at h
    obtain ⟨rfl, rfl⟩ := h
    exact hq [] H cs (by simpa [tmpsN] using w) Ext.refl .nil
  | k :: ks, e :: es, n, env, H, cs, os, e', Q, hl, w, h, hq => by
    obtain ⟨o, e1, os', h2, h3, h4⟩ := evOs_cons h
    have h4 : os = o :: os' := h4
    subst h4
    refine ⟨B, n, env, cs, o, e1, w, h2, fun x H1 cs1 w1 x1 v1 => ?_⟩
    refine pairs_read (by simpa using hl) w1 h3 fun xs H2 cs2 w2 x2 v2 => ?_
    exact hq (x :: xs) H2 cs2 (by simpa [tmpsN, Nat.add_assoc] using w2) (x1.trans (Nat.le_add_right _ _) x2) (.cons (v1.ext ⟨fun j hj => x2.t j (by omega), x2.g⟩) v2)
theorem mergeK_nodup : ∀ {more kvs : List (Key × V)}, (kvs.map (·.1) ++ more.map (·.1)).Nodup → mergeK kvs more = kvs ++ more
  | [], kvs, _ => by simp [mergeK]
  | p :: r, kvs, h => by
    have hp : ¬ (kvs.any fun kv => decide (kv.1 = p.1)) = true := by
      intro z
      obtain ⟨q, hq, hq2⟩ := List.any_eq_true.mp z
      have e : q.1 = p.1 := by simpa using hq2
      have := (List.nodup_append.mp h).2.2 q.1 (List.mem_map_of_mem hq) p.1 (by simp)
      exact this e
    have e1 : putK kvs p.1 p.2 = kvs ++ [p] := by unfold putK; rw [if_neg hp]
    show mergeK (putK kvs p.1 p.2) r = _
    rw [e1, mergeK_nodup (by simpa using h)]
    simp

theorem zip_kv : ∀ {ks : List Str} {vs : List V}, (ks.map V.str).zip vs = ((ks.map (Sum.inr : Str → Key)).zip vs).map fun kv => (kV kv.1, kv.2)
  | [], _ => rfl
  | _ :: _, [] => rfl
  | k :: ks, v :: vs => by
    simp only [List.map_cons, List.zip_cons_cons, List.cons.injEq]
    exact ⟨rfl, zip_kv⟩
theorem se_dictS {ks : List Str} {es : List Ex} {e : Expr} (h : PE X e (tDisp (trsOf X.K C ks es))) : SE X C (.dictS ks es) e := PE_imp h fun σ H Q q => by
  obtain ⟨B, n, env, cs, r, w, h1, hq⟩ := q
  simp only [evE, Option.bind_eq_some_iff] at h1
  obtain ⟨⟨os, e1⟩, h1, z, h2, h3⟩ := h1
  split at h3
  case isFalse => cases h3
  rename_i hc
  obtain ⟨nd, h15, hl⟩ := hc
  cases h3
  intro p hp
  have sm := same_upd (o := .dK []) hp
  have w1 := w.pushNew (v := .ref p) (d := .dict []) (G := [p]) sm (.dic (ks := []) (vs := []) (ds := []) (F := []) (.inl upd_same) rfl List.nodup_nil .nil) (fun a ha => by simp at ha; subst ha; exact hp) (fun a ha => by simp at ha; subst ha; rw [upd_same]; trivial)
  refine pairs_read hl w1 h1 fun vs H' cs' w' x v' => ?_
  obtain ⟨cs1, F, w2, l1, f1, A, B1⟩ := gather_ok w' v' h2
  have ec : cs1 (.t n) = some ⟨.ref p, .dict [], [p], [p]⟩ := (l1.t n).trans ((x.t n (by omega)).trans putC_same)
  have hpH : H' p = some (.dK []) := by
    have mu := (w2.gd.wr _ _ ec p (by simp)).2.1
    obtain ⟨a, ks', vs', ds', G', e1, e2, e3, rd, hl', _, _⟩ := (w2.gd.fp _ _ ec).dict
    have e1 : V.ref p = V.ref a := e1
    cases e1
    have hk : ks' = [] ∨ ds' = [] := by
      cases ks' with
      | nil => exact .inl rfl
      | cons a r =>
        cases ds' with
        | nil => exact .inr rfl
        | cons b s => simp at e3
    rcases rd with rd | ⟨o, rd⟩
    · have e0 : (ks'.map Sum.inr).zip vs' = ([] : List (Key × V)) := by
        rcases hk with hk | hk
        · subst hk; rfl
        · subst hk
          rename_i t
          have : vs' = [] := by cases t; rfl
          subst this
          simp
      rw [e0] at rd
      exact rd
    · rw [rd] at mu; exact mu.elim
  have hlv : vs.length = ks.length := by rw [v'.len, evOs_len h1, hl]
  refine ⟨hpH, (ks.map Sum.inr).zip vs, ?_, by rw [List.length_zip, List.length_map, hlv]; omega, ?_⟩
  · exact zip_kv
  · have hm : mergeK [] ((ks.map Sum.inr).zip vs) = (ks.map Sum.inr).zip vs := by
      rw [mergeK_nodup]
      · rfl
      · rw [List.map_nil, List.nil_append, List.map_fst_zip (by simp [hlv])]
        exact List.Pairwise.map _ (fun a b hab z => hab (by injection z)) nd
    rw [hm]
    -- the temporaries from n + 1 on are taken off; the dict is written
    obtain ⟨A', B'⟩ := gather_end (own := allOwn z.1) (n := n + 1) w2 A B1
    have w3 := w2.cut (n + 1)
    have ec3 : cutT (n + 1) cs1 (.t n) = some ⟨.ref p, .dict [], [p], [p]⟩ := (cutT_lo (by omega)).trans ec
    have pF : p ∉ F := fun hz => (A' p hz).1 _ _ ec3 (by simp)
    have fF : FpAll X.K (upd H' p (.dK ((ks.map Sum.inr).zip vs))) vs (things z.1) F := f1.keeps (Keeps.upd (by rw [hpH]; trivial)) fun b hb y => by simp at y; subst y; exact pF hb
    have hX : ∀ b ∈ (if allOwn z.1 then p :: F else []), allOwn z.1 = true ∧ (b = p ∨ b ∈ F) := fun b hb => by
      cases ho : allOwn z.1 with
      | true => rw [ho] at hb; simpa using hb
      | false => rw [ho] at hb; simp at hb
    have g := w3.gd.write (c' := ⟨.ref p, .dict ((ks.map PyData.str).zip (things z.1)), p :: F, if allOwn z.1 then p :: F else []⟩) ec3 (by simp) (.dic (.inl upd_same) hlv.symm nd fF) (fun b hb => ?_) (fun b hb => ?_) (fun q c2 hq2 eq b hb => ?_) (fun q c2 hq2 eq b hb y => ?_)
    · have w4 : Wd X.K B (n + 1) z.2 σ (upd H' p (.dK ((ks.map Sum.inr).zip vs))) (putC (cutT (n + 1) cs1) (.t n) (some ⟨.ref p, .dict ((ks.map PyData.str).zip (things z.1)), p :: F, if allOwn z.1 then p :: F else []⟩)) := ⟨g, fun i => by
        have h := w3.mt i
        cases hj : getS z.2 i with
        | none => rw [hj] at h; show putC _ _ _ _ = none; rw [putC_ne Ky_st]; exact h
        | some s' =>
          rw [hj] at h
          obtain ⟨c', e1, e2⟩ := h
          exact ⟨c', by rw [putC_ne Ky_st]; exact e1, e2⟩, fun j hj => by rw [putC_ne (by intro z; cases z; omega)]; exact w3.tm j hj, w3.len⟩
      refine hq (.ref p) _ _ (p :: F) _ w4 ⟨fun j hj => ?_, fun j => ?_⟩ putC_same (fitsO_of (own := allOwn z.1) (v := .ref p) (G := p :: F) (fun ho => List.nodup_cons.mpr ⟨pF, (B' ho).1⟩) (fun (hi : imm (.dict _) = true) => absurd hi (by simp [imm])))
      · rw [putC_ne (by intro z; cases z; omega), cutT_lo (by omega), l1.t j, x.t j (by omega), putC_ne (by intro z; cases z; omega)]
      · rw [putC_ne (by intro z; cases z)]
        show cs1 (.g j) = _
        rw [l1.g j, x.g j, putC_ne (by intro z; cases z)]
    · obtain ⟨ho, hb⟩ := hX b hb
      rcases hb with rfl | hb
      · exact ⟨List.mem_cons_self, by rw [upd_same]; trivial, (w3.gd.wr _ _ ec3 b (by simp)).2.2⟩
      · obtain ⟨y1, y2, y3⟩ := (B' ho).2 b hb
        exact ⟨List.mem_cons_of_mem _ hb, by rw [upd_ne (fun (y : b = p) => pF (y ▸ hb))]; exact y2, y3⟩
    · rcases List.mem_cons.mp hb with rfl | hb
      · exact w3.gd.rc _ _ ec3 b (by simp)
      · exact (A' b hb).2
    · obtain ⟨ho, hb⟩ := hX b hb
      rcases hb with rfl | hb
      · exact w3.gd.dis (.t n) q _ c2 (Ne.symm hq2) ec3 eq b (by simp)
      · exact ((B' ho).2 b hb).1 q c2 eq
    · rcases List.mem_cons.mp y with rfl | y
      · exact w3.gd.dis q (.t n) c2 _ hq2 eq ec3 b hb (by simp)
      · exact (A' b y).1 q c2 eq hb
end
end Ev
set_option maxHeartbeats 2000000
set_option maxRecDepth 100000
/-! Statements. -/
namespace Ev
open PySem PySem.Spec PyProof.Rows L2
variable [Tb]

def Prot (pr : List Nat) (σ σ' : L2.St) : Prop := ∀ j ∈ pr, σ'[j]? = σ[j]?
theorem Prot.refl (pr : List Nat) (σ : L2.St) : Prot pr σ σ := fun _ _ => rfl
theorem Prot.trans {pr : List Nat} {a b c : L2.St} (x : Prot pr a b) (y : Prot pr b c) : Prot pr a c := fun j hj => (y j hj).trans (x j hj)

def PostF (K : PySem.W.Frag) (B : Bd) (n : Nat) (cs : Cs) (σ : L2.St) (pr : List Nat) (f : Flow) (D : Ends) : Prop := match f with
  | .next e => ∀ σ' H' cs', Wd K B n e σ' H' cs' → Ext n cs cs' → Prot pr σ σ' → D.nx σ' H'
  | .cont e => ∀ σ' H' cs', Wd K B n e σ' H' cs' → Ext n cs cs' → Prot pr σ σ' → D.ct σ' H'
  | .brk e => ∀ σ' H' cs', Wd K B n e σ' H' cs' → Ext n cs cs' → Prot pr σ σ' → D.bk σ' H'
  | .ret d o e => ∀ v σ' H' cs' F X, Wd K B (n + 1) e σ' H' cs' → Ext n cs cs' → cs' (.t n) = some ⟨v, d, F, X⟩ → FitsO o ⟨v, d, F, X⟩ → Prot pr σ σ' → D.rt v H'
theorem PostF.deeper {K : PySem.W.Frag} {B : Bd} {n n2 : Nat} {cs cs2 : Cs} {σ σ2 : L2.St} {pr : List Nat} {f : Flow} {D : Ends} (h : PostF K B n cs σ pr f D) (hn : n ≤ n2) (x : Ext n cs cs2) (p : Prot pr σ σ2) : PostF K B n2 cs2 σ2 pr f D := by
  cases f with
  | next e => exact fun σ' H' cs' w x' p' => h σ' H' _ (w.cut n) (x.trans hn x').cut (p.trans p')
  | cont e => exact fun σ' H' cs' w x' p' => h σ' H' _ (w.cut n) (x.trans hn x').cut (p.trans p')
  | brk e => exact fun σ' H' cs' w x' p' => h σ' H' _ (w.cut n) (x.trans hn x').cut (p.trans p')
  | ret d o e => exact fun v σ' H' cs' F X w x' e' f p' => h v σ' H' _ F X (w.move e' hn) ((x.trans hn x').cut.trans (Nat.le_refl n) Ext.put) putC_same f (p.trans p')
/-- the ends looked at are those of another's -/
theorem PostF.ends {K : PySem.W.Frag} {B : Bd} {n : Nat} {cs : Cs} {σ : L2.St} {pr : List Nat} {f : Flow} {D D' : Ends} (h : PostF K B n cs σ pr f D) (hn : ∀ e, f = .next e → D'.nx = D.nx) (hc : ∀ e, f = .cont e → D'.ct = D.ct) (hb : ∀ e, f = .brk e → D'.bk = D.bk) (hr : ∀ d o e, f = .ret d o e → D'.rt = D.rt) : PostF K B n cs σ pr f D' := by
  cases f with
  | next e => exact fun σ' H' cs' w x' p' => by rw [hn e rfl]; exact h σ' H' _ w x' p'
  | cont e => exact fun σ' H' cs' w x' p' => by rw [hc e rfl]; exact h σ' H' _ w x' p'
  | brk e => exact fun σ' H' cs' w x' p' => by rw [hb e rfl]; exact h σ' H' _ w x' p'
  | ret d o e => exact fun v σ' H' cs' F X w x' e' f p' => by rw [hr d o e rfl]; exact h v σ' H' _ F X w x' e' f p'

def tSt (K : PySem.W.Frag) (C : FS) (np : Nat) (pr : List Nat) (st : St) : TS := fun D σ H => ∃ B n env cs f, Wd K B n env σ H cs ∧ evS C np st env = some f ∧ PostF K B n cs σ pr f D
def tSts (K : PySem.W.Frag) (C : FS) (np : Nat) (pr : List Nat) (sts : List St) : TS := fun D σ H => ∃ B n env cs f, Wd K B n env σ H cs ∧ evSs C np sts env = some f ∧ PostF K B n cs σ pr f D
abbrev SSt (X : Cx) (C : FS) (np : Nat) (pr : List Nat) (st : St) (s : Stmt) : Prop := PS X s (tSt X.K C np pr st)
abbrev SSts (X : Cx) (C : FS) (np : Nat) (pr : List Nat) (sts : List St) (ss : List Stmt) : Prop := PSs X ss (tSts X.K C np pr sts)
theorem PS_imp {X : Cx} {s : Stmt} {t t' : TS} (h : PS X s t) (w : ∀ D σ H, t' D σ H → t D σ H) : PS X s t' := ⟨fun pins s σ H D I q => h.run pins s σ H D I (w D σ H q)⟩
theorem PSs_imp {X : Cx} {s : List Stmt} {t t' : TS} (h : PSs X s t) (w : ∀ D σ H, t' D σ H → t D σ H) : PSs X s t' := ⟨fun pins s σ H D I q => h.run pins s σ H D I (w D σ H q)⟩

section
variable {X : Cx} {C : FS} {np : Nat} {pr : List Nat}

theorem ssts_nil : SSts X C np pr [] [] := PSs_imp pss_nil fun D σ H q => by
  obtain ⟨B, n, env, cs, f, w, h1, hq⟩ := q
  simp only [evSs, Option.some.injEq] at h1
  subst h1
  exact hq σ H cs w Ext.refl (Prot.refl _ _)
theorem ssts_cons {st : St} {sts : List St} {s : Stmt} {ss : List Stmt} (h : SSt X C np pr st s) (hs : SSts X C np pr sts ss) : SSts X C np pr (st :: sts) (s :: ss) := PSs_imp (pss_cons h hs) fun D σ H q => by
  obtain ⟨B, n, env, cs, f, w, h1, hq⟩ := q
  simp only [evSs, Option.bind_eq_some_iff] at h1
  obtain ⟨f1, h1, h2⟩ := h1
  refine ⟨B, n, env, cs, f1, w, h1, ?_⟩
  cases f1 with
  | next e => exact fun σ' H' cs' w' x' p' => ⟨B, n, e, cs', f, w', h2, hq.deeper (Nat.le_refl n) x' p'⟩
  | cont e => simp only [Option.some.injEq] at h2; subst h2; exact hq
  | brk e => simp only [Option.some.injEq] at h2; subst h2; exact hq
  | ret d o e => simp only [Option.some.injEq] at h2; subst h2; exact hq
theorem ssts_one {st : St} {s : Stmt} (h : SSt X C np pr st s) : SSts X C np pr [st] [s] := ssts_cons h ssts_nil

theorem ss_pass {s : Stmt} (h : PS X s tNext) : SSt X C np pr .pass s := PS_imp h fun D σ H q => by
  obtain ⟨B, n, env, cs, f, w, h1, hq⟩ := q
  simp only [evS, Option.some.injEq] at h1
  subst h1
  exact hq σ H cs w Ext.refl (Prot.refl _ _)
theorem ss_brk {s : Stmt} (h : PS X s tBreak) : SSt X C np pr .brk s := PS_imp h fun D σ H q => by
  obtain ⟨B, n, env, cs, f, w, h1, hq⟩ := q
  simp only [evS, Option.some.injEq] at h1
  subst h1
  exact hq σ H cs w Ext.refl (Prot.refl _ _)
theorem ss_cont {s : Stmt} (h : PS X s tCont) : SSt X C np pr .cont s := PS_imp h fun D σ H q => by
  obtain ⟨B, n, env, cs, f, w, h1, hq⟩ := q
  simp only [evS, Option.some.injEq] at h1
  subst h1
  exact hq σ H cs w Ext.refl (Prot.refl _ _)
theorem ss_never {s : Stmt} : SSt X C np pr .never s := PS_imp ps_never fun D σ H q => by
  obtain ⟨B, n, env, cs, f, w, h1, hq⟩ := q
  simp only [evS] at h1
  cases h1
theorem ss_ex {ex : Ex} {s : Stmt} (h : PS X s (tDrop (tEx X.K C ex))) : SSt X C np pr (.ex ex) s := PS_imp h fun D σ H q => by
  obtain ⟨B, n, env, cs, f, w, h1, hq⟩ := q
  simp only [evS, Option.map_eq_some_iff] at h1
  obtain ⟨r, h1, rfl⟩ := h1
  exact ⟨B, n, env, cs, r, w, h1, fun v H' cs' F X' w' x e f => hq σ H' _ (w'.cut n) x.cut (Prot.refl _ _)⟩
theorem ss_ite {c : Ex} {a b : List St} {s : Stmt} (h : PS X s (tIfS (tTt X.K C c) (tSts X.K C np pr a) (tSts X.K C np pr b))) : SSt X C np pr (.ite c a b) s := PS_imp h fun D σ H q => by
  obtain ⟨B, n, env, cs, f, w, h1, hq⟩ := q
  simp only [evS, evC, Option.bind_eq_some_iff, Option.map_eq_some_iff] at h1
  obtain ⟨⟨k, e1⟩, ⟨r, h1, k', h2, h3⟩, h4⟩ := h1
  simp only [Prod.mk.injEq] at h3
  obtain ⟨rfl, rfl⟩ := h3
  refine ⟨B, n, env, cs, r, k', w, h1, h2, fun H' cs' w' x => ?_⟩
  cases k' with
  | true => exact ⟨B, n, r.env, cs', f, w', by simpa using h4, hq.deeper (Nat.le_refl n) x (Prot.refl _ _)⟩
  | false => exact ⟨B, n, r.env, cs', f, w', by simpa using h4, hq.deeper (Nat.le_refl n) x (Prot.refl _ _)⟩
theorem ss_ret {ex : Ex} {s : Stmt} (hv : ∀ i, ex ≠ .var i) (h : PS X s (tRet (tEx X.K C ex))) : SSt X C np pr (.ret ex) s := PS_imp h fun D σ H q => by
  obtain ⟨B, n, env, cs, f, w, h1, hq⟩ := q
  simp only [evS, Option.map_eq_some_iff] at h1
  obtain ⟨r, h1, rfl⟩ := h1
  have h1 : evE C ex env = some r := by
    cases ex <;> first | exact absurd rfl (hv _) | exact h1
  refine ⟨B, n, env, cs, r, w, h1, fun v H' cs' F X' w' x e f => hq v σ H' cs' F X' w' x e ?_ (Prot.refl _ _)⟩
  unfold FitsO at f ⊢
  by_cases hi : imm r.d = true ∨ r.own = true
  · rw [if_pos hi] at f
    rw [if_pos (by rcases hi with z | z <;> simp [z])]
    exact f
  · rw [if_neg hi] at f
    rw [if_neg (by rintro (z | z); exact hi (.inl z); rcases Bool.or_eq_true_iff.mp z with z | z; exact hi (.inl z); exact hi (.inr z))]
    exact f
theorem ss_retV {i : Nat} {s : Stmt} (h : PS X s (tRet (tVar i))) : SSt X C np pr (.ret (.var i)) s := PS_imp h fun D σ H q => by
  obtain ⟨B, n, env, cs, f, w, h1, hq⟩ := q
  simp only [evS, retV, Option.map_eq_some_iff, Option.bind_eq_some_iff] at h1
  obtain ⟨r, ⟨s0, h1, h2⟩, rfl⟩ := h1
  obtain ⟨c, c1, c2, c3, c4⟩ := w.mt.slot h1
  refine ⟨c.v, c2, ?_⟩
  split at h2
  · rename_i hc
    simp only [Bool.and_eq_true, decide_eq_true_eq] at hc
    cases h2
    rw [hc.2] at c4
    -- the cell is moved
    have g1 := w.gd.drop (.s i)
    have w1 : Wd X.K B n (env.set i none) σ H (putC cs (.s i) none) := ⟨g1, fun j => by
      rw [getS_none]
      by_cases hj : j = i
      · subst hj; rw [if_pos rfl]; exact putC_same
      · rw [if_neg hj]
        have h := w.mt j
        have ne : Ky.s j ≠ Ky.s i := fun z => by cases z; exact hj rfl
        cases hg : getS env j with
        | none => rw [hg] at h; show putC _ _ _ _ = none; rw [putC_ne ne]; exact h
        | some s' =>
          rw [hg] at h
          obtain ⟨c', e1, e2, e3⟩ := h
          exact ⟨c', by rw [putC_ne ne]; exact e1, e2, e3⟩, fun j hj => by rw [putC_ne Ky_ts]; exact w.tm j hj, by rw [List.length_set]; exact w.len⟩
    have ne : ∀ q c', putC cs (.s i) none q = some c' → q ≠ .s i ∧ cs q = some c' := fun q c' e => by
      by_cases hq' : q = .s i
      · subst hq'; rw [putC_same] at e; cases e
      · rw [putC_ne hq'] at e; exact ⟨hq', e⟩
    have w2 := w1.push (c := c) (w.gd.fp _ _ c1) (w.gd.wr _ _ c1) (w.gd.rc _ _ c1) (fun q c' e a ha => w.gd.dis (.s i) q c c' (Ne.symm (ne q c' e).1) c1 (ne q c' e).2 a ha) (fun q c' e a ha => w.gd.dis q (.s i) c' c (ne q c' e).1 (ne q c' e).2 c1 a ha)
    refine hq c.v σ H _ c.F c.X w2 (Ext.trans (Nat.le_refl n) (Ext.puts') Ext.put) (by rw [putC_same, ← c3]) ?_ (Prot.refl _ _)
    show FitsO (imm s0.d || true) _
    unfold FitsO
    rw [if_pos (.inr (by simp))]
    exact c4
  · -- as a value
    simp only [readV, Option.bind_eq_some_iff] at h2
    obtain ⟨s1, g1, g2⟩ := h2
    rw [h1] at g1; cases g1
    by_cases hi : imm s0.d = true
    · rw [if_pos hi] at g2
      cases g2
      have fp := w.gd.fp _ c c1
      rw [c3] at fp
      have eF := fp.imm hi
      rw [eF] at fp
      refine hq c.v σ H _ _ _ (w.pushImm fp) Ext.put putC_same ?_ (Prot.refl _ _)
      show FitsO (imm s0.d || true) _
      exact fitsO_imm hi
    · rw [if_neg hi] at g2
      simp only [Option.map_eq_some_iff] at g2
      obtain ⟨e', h3, rfl⟩ := g2
      obtain ⟨cs1, w1, l1, c', e1, e2⟩ := freeze1_ok w h3
      obtain ⟨c0, y1, y2, y3, y4, y5⟩ := l1.s i c' e1
      rw [c1] at y1; cases y1
      have fp := w1.gd.fp _ c' e1
      rw [y2, y3, c3] at fp
      refine hq c.v σ H _ c'.F [] (w1.pushFrz (Same.refl H) fp (fun a ha => .inr fun q cq eq hX => ?_) fun a ha => .inr (w1.gd.rc _ c' e1 a ha)) (l1.ext.trans (Nat.le_refl n) Ext.put) putC_same ?_ (Prot.refl _ _)
      · by_cases hk : q = .s i
        · subst hk; rw [e1] at eq; cases eq; rw [e2] at hX; cases hX
        · exact w1.gd.dis q (.s i) cq c' hk eq e1 a hX ha
      · have hi : imm s0.d = false := by simpa using hi
        show FitsO (imm s0.d || false) _
        rw [hi]
        exact fitsO_frz fp
theorem ss_retN {s : Stmt} (h : PS X s tRetN) : SSt X C np pr .retN s := PS_imp h fun D σ H q => by
  obtain ⟨B, n, env, cs, f, w, h1, hq⟩ := q
  simp only [evS, Option.some.injEq] at h1
  subst h1
  exact hq .non σ H _ [] [] (w.pushImm .non) Ext.put putC_same (fitsO_imm rfl) (Prot.refl _ _)

/-! ### stores -/
theorem tg_nm_read {i : Nat} {v : V} {σ : L2.St} {H : Hp} {Q : L2.St → Hp → Prop} (q : tTg X.K (.nm i) v σ H Q) : gName i v σ H Q := by
  obtain ⟨B, n, env, cs, d, o, env', F, X', w, e, f, h1, hq⟩ := q
  obtain ⟨cs', w', x'⟩ := store_ok (c := ⟨v, d, F, X'⟩) w e f h1
  exact hq _ cs' w' x' (fun j hj => List.getElem?_set_ne (fun z => hj z.symm)) (by simp)
theorem asg_read {t : Tg} {e : Ex} (hp : ∀ j ∈ pr, ¬ tgHas t j) {D : Ends} {σ : L2.St} {H : Hp} (q : tSt X.K C np pr (.asg t e) D σ H) : tAsg (tEx X.K C e) (tTg X.K t) D σ H := by
  obtain ⟨B, n, env, cs, f, w, h1, hq⟩ := q
  simp only [evS, Option.bind_eq_some_iff, Option.map_eq_some_iff] at h1
  obtain ⟨r, h1, e', h2, rfl⟩ := h1
  refine ⟨B, n, env, cs, r, w, h1, fun v H' cs' F X' w' x e1 f => ?_⟩
  exact ⟨B, n, r.env, cs', r.d, r.own, e', F, X', w', e1, f, h2, fun σ2 cs2 w2 x2 h3 h4 => hq σ2 H' cs2 w2 (x.trans (Nat.le_refl n) x2) fun j hj => h3 j (hp j hj)⟩
theorem ss_asg {t : Tg} {e : Ex} {s : Stmt} (hp : ∀ j ∈ pr, ¬ tgHas t j) (h : PS X s (tAsg (tEx X.K C e) (tTg X.K t))) : SSt X C np pr (.asg t e) s := PS_imp h fun D σ H q => asg_read hp q
theorem ss_asgN {i : Nat} {e : Ex} {s : Stmt} (hp : ∀ j ∈ pr, ¬ tgHas (.nm i) j) (h : PS X s (tAsg (tEx X.K C e) (gName i))) : SSt X C np pr (.asg (.nm i) e) s := PS_imp h fun D σ H q => by
  obtain ⟨B, n, env, cs, r, w, h1, hq⟩ := asg_read hp q
  exact ⟨B, n, env, cs, r, w, h1, fun v H' cs' F X' w' x e1 f => tg_nm_read (hq v H' cs' F X' w' x e1 f)⟩
theorem ss_asgC {i : Nat} {elt : Ex} {tg : Tg} {k : Ik} {its ifs : List Ex} {own : List Nat} {s : Stmt} (hp : ∀ j ∈ pr, ¬ tgHas (.nm i) j) (h : PS X s (tAsg (tLc (tIt X.K C k its) (tTg X.K tg) (tTs X.K C ifs) (tEx X.K C elt) own) (gName i))) :
    SSt X C np pr (.asg (.nm i) (.comp elt tg k its ifs own)) s := PS_imp h fun D σ H q => by
  obtain ⟨B, n, env, cs, r, w, h1, hq⟩ := asg_read hp q
  exact comp_read ⟨B, n, env, cs, r, w, h1, fun v H' cs' F X' w' x e1 f => tg_nm_read (hq v H' cs' F X' w' x e1 f)⟩
theorem se_comp {elt : Ex} {tg : Tg} {k : Ik} {its ifs : List Ex} {own : List Nat} {e : Expr} (h : PE X e (tLc (tIt X.K C k its) (tTg X.K tg) (tTs X.K C ifs) (tEx X.K C elt) own)) : SE X C (.comp elt tg k its ifs own) e := PE_imp h fun σ H Q q => comp_read q
end
end Ev
set_option maxHeartbeats 2000000
set_option maxRecDepth 100000
/-! Statements: stores of several, stores at places, loops. -/
namespace Ev
open PySem PySem.Spec PyProof.Rows L2
variable [Tb]

/-! ### several at once -/
inductive TmpsV (cs : Cs) : Nat → List V → List (D × Bool) → Prop
  | nil {n : Nat} : TmpsV cs n [] []
  | cons {n : Nat} {v : V} {d : D} {o : Bool} {F X : List Addr} {vs : List V} {rs : List (D × Bool)} : cs (.t n) = some ⟨v, d, F, X⟩ → FitsO o ⟨v, d, F, X⟩ → TmpsV cs (n + 1) vs rs → TmpsV cs n (v :: vs) ((d, o) :: rs)
theorem TmpsV.same {cs cs' : Cs} : ∀ {n : Nat} {vs : List V} {rs : List (D × Bool)}, TmpsV cs n vs rs → (∀ j, n ≤ j → cs' (.t j) = cs (.t j)) → TmpsV cs' n vs rs
  | _, _, _, .nil, _ => .nil
  | n, _, _, .cons e f t, h => .cons ((h n (Nat.le_refl n)).trans e) f (TmpsV.same t fun j hj => h j (by omega))
theorem TmpsV.len {cs : Cs} : ∀ {n : Nat} {vs : List V} {rs : List (D × Bool)}, TmpsV cs n vs rs → vs.length = rs.length
  | _, _, _, .nil => rfl
  | _, _, _, .cons _ _ t => by simp [TmpsV.len t]

section
variable {K : PySem.W.Frag} {B : Bd} {H H' : Hp} {n m : Nat} {env env' : En} {σ : L2.St} {cs cs' : Cs}

/-- a temporary goes into a slot -/
theorem Wd.take (w : Wd K B m env σ H cs) {i j : Nat} {c : Cell} {o : Bool} (e : cs (.t j) = some c) (f : FitsO o c) (h : store env i c.d o = some env') :
    Wd K B m env' (σ.set i (some c.v)) H (putC (putC cs (.t j) none) (.s i) (some c)) := by
  unfold store at h
  split at h
  · rename_i hi
    cases h
    have ft : Fits (if imm c.d || o then .own else .frz) c := by
      unfold FitsO at f
      by_cases q : imm c.d = true ∨ o = true
      · rw [if_pos q] at f
        have : (imm c.d || o) = true := by simpa using q
        rw [this]; exact f
      · rw [if_neg q] at f
        have : (imm c.d || o) = false := by
          cases h1 : imm c.d <;> cases h2 : o <;> simp_all
        rw [this]; exact f
    have w1 : Wd K B m env σ H (putC cs (.t j) none) := ⟨w.gd.drop _, fun i => by
      have h := w.mt i
      cases hj : getS env i with
      | none => rw [hj] at h; show putC _ _ _ _ = none; rw [putC_ne Ky_st]; exact h
      | some s' =>
        rw [hj] at h
        obtain ⟨c', e1, e2⟩ := h
        exact ⟨c', by rw [putC_ne Ky_st]; exact e1, e2⟩, fun k hk => by
      by_cases q : k = j
      · subst q; exact putC_same
      · rw [putC_ne (by intro z; cases z; exact q rfl)]; exact w.tm k hk, w.len⟩
    have ne : ∀ q c', putC cs (.t j) none q = some c' → q ≠ .t j ∧ cs q = some c' := fun q c' e => by
      by_cases hq' : q = .t j
      · subst hq'; rw [putC_same] at e; cases e
      · rw [putC_ne hq'] at e; exact ⟨hq', e⟩
    exact w1.put hi (w.gd.fp _ c e) (w.gd.wr _ c e) (w.gd.rc _ c e) (fun q c' _ e' a ha => w.gd.dis (.t j) q c c' (Ne.symm (ne q c' e').1) e (ne q c' e').2 a ha) (fun q c' _ e' a ha => w.gd.dis q (.t j) c' c (ne q c' e').1 (ne q c' e').2 e a ha) ft
  · cases h
theorem storeEach_ok : ∀ {is : List Nat} {rs : List (D × Bool)} {vs : List V} {n : Nat} {env env' : En} {σ : L2.St} {cs : Cs}, Wd K B m env σ H cs → TmpsV cs n vs rs → storeEach env is rs = some env' →
    ∃ cs', Wd K B m env' (sets σ is vs) H cs' ∧ (∀ j, j < n → cs' (.t j) = cs (.t j)) ∧ (∀ j, cs' (.g j) = cs (.g j)) ∧ is.length = vs.length
  | [], [], _, n, env, env', σ, cs, w, .nil, h => by cases h; exact ⟨cs, w, fun _ _ => rfl, fun _ => rfl, rfl⟩
  | [], _ :: _, _, _, _, _, _, _, _, _, h => by cases h
  | _ :: _, [], _, _, _, _, _, _, _, _, h => by cases h
  | i :: is, (d, o) :: rs, _, n, env, env', σ, cs, w, .cons (v := v) (F := F) (X := X) e f t, h => by
    simp only [storeEach, Option.bind_eq_some_iff] at h
    obtain ⟨e1, h1, h2⟩ := h
    have w1 := w.take e f h1
    obtain ⟨cs2, w2, x2, g2, l2⟩ := storeEach_ok w1 (t.same fun j hj => by rw [putC_ne Ky_ts, putC_ne (by intro z; cases z; omega)]) h2
    refine ⟨cs2, w2, fun j hj => ?_, fun j => ?_, by simp [l2]⟩
    · rw [x2 j (by omega), putC_ne Ky_ts, putC_ne (by intro z; cases z; omega)]
    · rw [g2 j, putC_ne (by intro z; cases z), putC_ne (by intro z; cases z)]
end

inductive SVs (X : Cx) (C : FS) : List Ex → List Expr → Prop
  | nil : SVs X C [] []
  | cons {a : Ex} {e : Expr} {as : List Ex} {es : List Expr} : SE X C a e → (∀ x p, e ≠ .Starred x p) → SVs X C as es → SVs X C (a :: as) (e :: es)
def tVs (K : PySem.W.Frag) (C : FS) (es : List Ex) : TA := fun σ H Q => ∃ B n env cs q, Wd K B n env σ H cs ∧ evEs C es env = some q ∧ ∀ vs H' cs', Wd K B (n + es.length) q.2 σ H' cs' → Ext n cs cs' → TmpsV cs' n vs q.1 → Q vs H'

section
variable {X : Cx} {C : FS} {np : Nat} {pr : List Nat}
theorem svs_pa : ∀ {as : List Ex} {es : List Expr}, SVs X C as es → PA X es (tVs X.K C as)
  | _, _, .nil => PA_imp pa_nil fun σ H Q q => by
    obtain ⟨B, n, env, cs, q, w, h1, hq⟩ := q
    simp only [evEs, Option.some.injEq] at h1
    subst h1
    exact hq [] H cs (by simpa using w) Ext.refl .nil
  | _, _, .cons (a := a) (as := as) h hs t => PA_imp (pa_cons h (svs_pa t) (star_no hs)) fun σ H Q q => by
    obtain ⟨B, n, env, cs, q, w, h1, hq⟩ := q
    simp only [evEs, Option.bind_eq_some_iff, Option.map_eq_some_iff] at h1
    obtain ⟨r, h1, q', h2, rfl⟩ := h1
    refine ⟨B, n, env, cs, r, w, h1, fun v H1 cs1 F X1 w1 x1 e1 f1 => ?_⟩
    refine ⟨B, n + 1, r.env, cs1, q', w1, h2, fun vs H2 cs2 w2 x2 t2 => ?_⟩
    refine hq (v :: vs) H2 cs2 (by simpa [Nat.add_assoc, Nat.add_comm 1] using w2) (x1.trans (by omega) x2) (.cons ((x2.t n (by omega)).trans e1) f1 t2)
theorem par_read {ts : List Nat} {es : List Ex} (hp : ∀ j ∈ pr, j ∉ ts) {D : Ends} {σ : L2.St} {H : Hp} (q : tSt X.K C np pr (.par ts es) D σ H) : tVs X.K C es σ H fun vs H1 => ts.length = vs.length ∧ D.nx (sets σ ts vs) H1 := by
  obtain ⟨B, n, env, cs, f, w, h1, hq⟩ := q
  simp only [evS, Option.bind_eq_some_iff, Option.map_eq_some_iff] at h1
  obtain ⟨q, h1, e', h2, rfl⟩ := h1
  refine ⟨B, n, env, cs, q, w, h1, fun vs H' cs' w' x t => ?_⟩
  obtain ⟨cs2, w2, x2, g2, l2⟩ := storeEach_ok w' t h2
  exact ⟨l2, hq _ H' _ (w2.cut n) ⟨fun j hj => by rw [cutT_lo hj, x2 j hj, x.t j hj], fun j => (g2 j).trans (x.g j)⟩ fun j hj => sets_other (hp j hj)⟩
theorem ss_par2 {i j : Nat} {es : List Ex} {s : Stmt} (hp : ∀ k ∈ pr, k ∉ [i, j]) (h : PS X s (tPar i j (tVs X.K C es))) : SSt X C np pr (.par [i, j] es) s := PS_imp h fun D σ H q => by
  obtain ⟨B, n, env, cs, q, w, h1, hq⟩ := par_read hp q
  refine ⟨B, n, env, cs, q, w, h1, fun vs H' cs' w' x t => ?_⟩
  obtain ⟨l, hn⟩ := hq vs H' cs' w' x t
  match vs, l, hn with
  | [a, b], _, hn => exact ⟨a, b, rfl, hn⟩
theorem ss_par3 {i j l : Nat} {es : List Ex} {s : Stmt} (hp : ∀ k ∈ pr, k ∉ [i, j, l]) (h : PS X s (tPar3 i j l (tVs X.K C es))) : SSt X C np pr (.par [i, j, l] es) s := PS_imp h fun D σ H q => by
  obtain ⟨B, n, env, cs, q, w, h1, hq⟩ := par_read hp q
  refine ⟨B, n, env, cs, q, w, h1, fun vs H' cs' w' x t => ?_⟩
  obtain ⟨l, hn⟩ := hq vs H' cs' w' x t
  match vs, l, hn with
  | [a, b, c], _, hn => exact ⟨a, b, c, rfl, hn⟩

/-! ### while -/
theorem ss_whl {c : Ex} {b : List St} {s : Stmt} (h : PS X s (tWhile (tTt X.K C c) (tSts X.K C np pr b))) : SSt X C np pr (.whl c b) s := PS_imp h fun D σ H q => by
  obtain ⟨B, n, env, cs, f, w, h1, hq⟩ := q
  have h1 : whileLoop (evC C c) (evSs C np b) fuel env = some f := h1
  refine ⟨fun m σ1 H1 => ∃ env1 cs1, Wd X.K B n env1 σ1 H1 cs1 ∧ Ext n cs cs1 ∧ Prot pr σ σ1 ∧ whileLoop (evC C c) (evSs C np b) m env1 = some f, ⟨fuel, env, cs, w, Ext.refl, Prot.refl _ _, h1⟩, ?_⟩
  rintro m σ1 H1 ⟨env1, cs1, w1, x1, p1, h1⟩
  cases m with
  | zero => simp [whileLoop] at h1
  | succ m =>
    simp only [whileLoop, evC, Option.bind_eq_some_iff, Option.map_eq_some_iff] at h1
    obtain ⟨⟨k, e1⟩, ⟨r, h2, k', h3, h4⟩, h5⟩ := h1
    simp only [Prod.mk.injEq] at h4
    obtain ⟨rfl, rfl⟩ := h4
    refine ⟨B, n, env1, cs1, r, k', w1, h2, h3, fun H2 cs2 w2 x2 => ?_⟩
    have x12 := x1.trans (Nat.le_refl n) x2
    cases k' with
    | false =>
      simp only [Bool.false_eq_true, if_false, Option.some.injEq] at h5 ⊢
      subst h5
      exact hq σ1 H2 cs2 w2 x12 p1
    | true =>
      simp only [if_true, Option.bind_eq_some_iff] at h5 ⊢
      obtain ⟨f1, h6, h7⟩ := h5
      refine ⟨fun σ' H' => ∃ env' cs', Wd X.K B n env' σ' H' cs' ∧ Ext n cs cs' ∧ Prot pr σ σ' ∧ whileLoop (evC C c) (evSs C np b) m env' = some f, fun σ' H' hN => ⟨m, Nat.lt_succ_self m, hN⟩, B, n, r.env, cs2, f1, w2, h6, ?_⟩
      cases f1 with
      | next e => exact fun σ' H' cs' w' x' p' => ⟨e, cs', w', x12.trans (Nat.le_refl n) x', p1.trans p', h7⟩
      | cont e => exact fun σ' H' cs' w' x' p' => ⟨e, cs', w', x12.trans (Nat.le_refl n) x', p1.trans p', h7⟩
      | brk e =>
        simp only [Option.some.injEq] at h7
        subst h7
        exact fun σ' H' cs' w' x' p' => hq σ' H' cs' w' (x12.trans (Nat.le_refl n) x') (p1.trans p')
      | ret d o e =>
        simp only [Option.some.injEq] at h7
        subst h7
        exact fun v σ' H' cs' F X1 w' x' e' f' p' => hq v σ' H' cs' F X1 w' (x12.trans (Nat.le_refl n) x') e' f' (p1.trans p')
end

/-! ### for -/
section
variable {K : PySem.W.Frag} {B : Bd} {H H' : Hp} {n m : Nat} {env env' : En} {σ : L2.St} {cs cs' : Cs}
theorem freeze1_other {i j : Nat} {e : En} (h : freeze1 env i = some e) : ∀ s, getS env j = some s → ∃ s', getS e j = some s' ∧ s'.d = s.d := fun s hj => by
  simp only [freeze1, Option.bind_eq_some_iff] at h
  obtain ⟨t, hs, h⟩ := h
  have put : ∀ f, ∃ s', getS (putS env i t.d f) j = some s' ∧ s'.d = s.d := fun f => by
    rw [getS_put (getS_lt hs)]
    by_cases q : j = i
    · subst q; rw [hs] at hj; cases hj; rw [if_pos rfl]; exact ⟨_, rfl, rfl⟩
    · rw [if_neg q]; exact ⟨s, hj, rfl⟩
  split at h
  · cases h; exact put _
  · cases h; exact put _
  · cases h; exact ⟨s, hj, rfl⟩
  · cases h
theorem freezeAll_other : ∀ {os : List Od} {env e : En} {j : Nat}, freezeAll env os = some e → ∀ s, getS env j = some s → ∃ s', getS e j = some s' ∧ s'.d = s.d
  | [], env, e, j, h, s, hj => by cases h; exact ⟨s, hj, rfl⟩
  | .slot i :: os, env, e, j, h, s, hj => by
    simp only [freezeAll, Option.bind_eq_some_iff] at h
    obtain ⟨e1, h1, h2⟩ := h
    obtain ⟨s1, g1, g2⟩ := freeze1_other h1 s hj
    obtain ⟨s2, k1, k2⟩ := freezeAll_other h2 s1 g1
    exact ⟨s2, k1, k2.trans g2⟩
  | .tmp _ _ :: os, env, e, j, h, s, hj => freezeAll_other (os := os) h s hj
/-- copies of what is read alone -/
inductive Held (cs : Cs) : Nat → List V → List D → Prop
  | nil {n : Nat} : Held cs n [] []
  | cons {n : Nat} {v : V} {d : D} {F : List Addr} {vs : List V} {ds : List D} : cs (.t n) = some ⟨v, d, F, []⟩ → Held cs (n + 1) vs ds → Held cs n (v :: vs) (d :: ds)
theorem Held.ext {cs cs' : Cs} : ∀ {n : Nat} {vs : List V} {ds : List D}, Held cs n vs ds → Ext (n + ds.length) cs cs' → Held cs' n vs ds
  | _, _, _, .nil, _ => .nil
  | n, _, _, .cons (ds := ds) e t, x => .cons ((x.t n (by simp)).trans e) (Held.ext t ⟨fun j hj => x.t j (by simp at hj ⊢; omega), x.g⟩)
theorem Held.fp (w : Wd K B m env σ H cs) : ∀ {n : Nat} {vs : List V} {ds : List D}, Held cs n vs ds → ∃ J, FpZ K H vs ds J ∧ ∀ a ∈ J, (∀ q c', cs q = some c' → a ∉ c'.X) ∧ (B.H0 a = none ∨ a ∈ B.R)
  | _, _, _, .nil => ⟨[], .nil, fun a z => by cases z⟩
  | n, _, _, .cons e t => by
    obtain ⟨J, z1, z2⟩ := Held.fp w t
    refine ⟨_, .cons (w.gd.fp _ _ e) z1, fun a ha => ?_⟩
    rcases List.mem_append.mp ha with ha | ha
    · have ha := inn_sub a ha
      refine ⟨fun q c' e' hX => ?_, w.gd.rc _ _ e a ha⟩
      by_cases hq : q = .t n
      · subst hq; rw [e] at e'; cases e'; cases hX
      · exact w.gd.dis q (.t n) c' _ hq e' e a hX ha
    · exact z2 a ha
/-- the operands are held -/
theorem hold_ok : ∀ {os : List Od} {vs : List V} {ds : List D} {k M : Nat} {cs : Cs}, Wd K B M env σ H cs → OdsV cs σ k os vs → k + tmpsN os ≤ M → fetchAll env os = some ds → (∀ i, Od.slot i ∈ os → ∃ c, cs (.s i) = some c ∧ c.X = []) → (∀ j c, k ≤ j → j < k + tmpsN os → cs (.t j) = some c → c.X = []) →
    ∃ cs', Wd K B (M + ds.length) env σ H cs' ∧ Ext M cs cs' ∧ Held cs' M vs ds
  | [], _, ds, k, M, cs, w, .nil, _, hf, _, _ => by
    simp only [fetchAll, Option.some.injEq] at hf
    subst hf
    exact ⟨cs, w, Ext.refl, .nil⟩
  | o :: os, _, ds, k, M, cs, w, .cons (v := v) hv t, hM, hf, hs, ht => by
    simp only [fetchAll, Option.bind_eq_some_iff, Option.map_eq_some_iff] at hf
    obtain ⟨d, f1, ds', f2, rfl⟩ := hf
    simp only [tmpsN] at hM ht
    have one : ∃ kk c, cs kk = some c ∧ c.v = v ∧ c.d = d ∧ c.X = [] := by
      obtain ⟨kk, c, e1, e2, e3, e4⟩ := hv.cell w f1
      refine ⟨kk, c, e1, e2, e3, ?_⟩
      cases o with
      | slot i =>
        have e4 : kk = .s i := e4
        subst e4
        obtain ⟨c', y1, y2⟩ := hs i List.mem_cons_self
        rw [e1] at y1; cases y1
        exact y2
      | tmp d' o' =>
        have e4 : kk = .t k := e4
        subst e4
        exact ht k c (Nat.le_refl k) (by simp only [tmpN]; omega) e1
    obtain ⟨kk, c, e1, e2, e3, e4⟩ := one
    have fpc := w.gd.fp _ _ e1
    rw [e2, e3] at fpc
    have w1 := w.pushFrz (Same.refl H) fpc (fun a ha => .inr fun q c' eq hX => by
      by_cases hq : q = kk
      · subst hq; rw [e1] at eq; cases eq; rw [e4] at hX; cases hX
      · exact w.gd.dis q kk c' c hq eq e1 a hX ha) fun a ha => .inr (w.gd.rc _ _ e1 a ha)
    have x1 : Ext M cs (putC cs (.t M) (some ⟨v, d, c.F, []⟩)) := Ext.put
    have t1 : OdsV (putC cs (.t M) (some ⟨v, d, c.F, []⟩)) σ (k + tmpN o) os _ := t.ext ⟨fun j hj => x1.t j (by omega), x1.g⟩
    obtain ⟨cs2, w2, x2, h2⟩ := hold_ok w1 t1 (by omega) f2 (fun i hi => by
      obtain ⟨c', y1, y2⟩ := hs i (List.mem_cons_of_mem _ hi)
      exact ⟨c', by rw [putC_ne Ky_st]; exact y1, y2⟩) fun j c' hj hj2 e' => by
      rw [putC_ne (by intro z; cases z; omega)] at e'
      exact ht j c' (by omega) (by omega) e'
    refine ⟨cs2, by simpa [Nat.add_assoc, Nat.add_comm 1] using w2, x1.trans (by omega) x2, .cons ((x2.t M (by omega)).trans putC_same) h2⟩
end

section
variable {X : Cx} {C : FS} {np : Nat} {pr : List Nat}
theorem ss_for {t : Tg} {k : Ik} {its : List Ex} {b : List St} {s : Stmt} (hp : ∀ j ∈ pr, ¬ tgHas t j) (h : PS X s (tFor (tIt X.K C k its) (tTg X.K t) (tSts X.K C np pr b))) : SSt X C np pr (.for t k its b) s := PS_imp h fun D σ H q => by
  obtain ⟨B, n, env, cs, f, w, h1, hq⟩ := q
  simp only [evS, Option.bind_eq_some_iff] at h1
  obtain ⟨⟨os, e0⟩, h1, ds, h2, xs, h3, e1, h4, h5⟩ := h1
  refine ⟨B, n, env, cs, os, e0, ds, xs, w, h1, h2, h3, fun vs H1 cs1 J w1 x1 v1 wk => ?_⟩
  have w2 := w1.dimT n
  have v2 : OdsV (dimT n cs1) σ n (os.map dim) vs := v1.dim w1 (Nat.le_refl n)
  obtain ⟨cs3, w3, l3, st3⟩ := freezeAll_ok w2 h4
  have v3 : OdsV cs3 σ n (os.map dim) vs := v2.less l3
  have f3 : fetchAll e1 (os.map dim) = some ds := by
    rw [fetchAll_dim]
    exact fetchAll_same (fun i _ s hs => freezeAll_other h4 s hs) h2
  generalize hM : n + tmpsN os = M at w1 w2 w3
  obtain ⟨cs4, w4, x4, hd4⟩ := hold_ok w3 v3 (by rw [tmpsN_dim, hM]; exact Nat.le_refl M) f3 (fun i hi => st3 i (slot_dim.mp hi)) fun j c hj _ e => by
    rw [l3.t] at e
    exact dimT_hi hj e
  have x04 : Ext n cs cs4 := (x1.trans (Nat.le_refl n) (ext_dim.trans (Nat.le_refl n) l3.ext)).trans (by omega) x4
  generalize hN : M + ds.length = N at w4
  have hnN : n ≤ N := by omega
  refine ⟨fun i m σ1 H2 => ∃ env1 cs5, Wd X.K B N env1 σ1 H2 cs5 ∧ Ext N cs4 cs5 ∧ Prot pr σ σ1 ∧ forLoop t (evSs C np b) (xs.drop i) env1 = some f ∧ i ≤ xs.length ∧ m = xs.length - i, ⟨_, e1, cs4, w4, Ext.refl, Prot.refl _ _, by rw [List.drop_zero]; exact h5, Nat.zero_le _, rfl⟩, ?_⟩
  rintro i m σ1 H2 ⟨env1, cs5, w5, x5, p5, h6, hle, rfl⟩
  have hd5 : Held cs5 M vs ds := hd4.ext (by rw [hN]; exact x5)
  obtain ⟨Jf, z1, z2⟩ := hd5.fp w5
  obtain ⟨wgo, wstop⟩ := wk H2 Jf z1 i
  by_cases hi : i < xs.length
  · right
    have hx : xs[i]? = some xs[i] := List.getElem?_eq_getElem hi
    obtain ⟨jgo, jy⟩ := wgo _ hx
    rw [List.drop_eq_getElem_cons hi] at h6
    simp only [forLoop, Option.bind_eq_some_iff] at h6
    obtain ⟨e2, g1, f1, g2, g3⟩ := h6
    refine ⟨jgo, fun σ' H' => ∃ env' cs', Wd X.K B N env' σ' H' cs' ∧ Ext N cs4 cs' ∧ Prot pr σ σ' ∧ forLoop t (evSs C np b) (xs.drop (i + 1)) env' = some f, fun σ' H' hN => ?_, fun x H3 y => ?_⟩
    · obtain ⟨env', cs', a1, a2, a3, a4⟩ := hN
      exact ⟨xs.length - (i + 1), by omega, env', cs', a1, a2, a3, a4, hi, rfl⟩
    obtain ⟨sm3, F, fx, sub⟩ := jy x H3 y
    have w7 := w5.pushFrz sm3 fx (fun a ha => .inr (z2 a (sub a ha)).1) fun a ha => .inr (z2 a (sub a ha)).2
    refine ⟨B, N, env1, _, xs[i], false, e2, F, [], w7, putC_same, fitsO_frz fx, g1, fun σ2 cs7 w8 x8 hs8 hl8 => ?_⟩
    have x8' : Ext N cs4 cs7 := x5.trans (Nat.le_refl N) ((Ext.put (n := N)).trans (Nat.le_refl N) x8)
    have p8 : Prot pr σ σ2 := p5.trans fun j hj => hs8 j (hp j hj)
    refine ⟨B, N, e2, cs7, f1, w8, g2, ?_⟩
    have x08 : Ext n cs cs7 := x04.trans hnN x8'
    cases f1 with
    | next e => exact fun σ' H' cs' w' x' p' => ⟨e, cs', w', x8'.trans (Nat.le_refl N) x', p8.trans p', g3⟩
    | cont e => exact fun σ' H' cs' w' x' p' => ⟨e, cs', w', x8'.trans (Nat.le_refl N) x', p8.trans p', g3⟩
    | brk e =>
      simp only [Option.some.injEq] at g3
      subst g3
      exact fun σ' H' cs' w' x' p' => hq σ' H' _ (w'.cut n) (x08.trans hnN x').cut (p8.trans p')
    | ret d o e =>
      simp only [Option.some.injEq] at g3
      subst g3
      exact fun v σ' H' cs' F1 X1 w' x' e' f' p' => hq v σ' H' _ F1 X1 (w'.move e' hnN) ((x08.trans hnN x').cut.trans (Nat.le_refl n) Ext.put) putC_same f' (p8.trans p')
  · left
    have hie : xs.length = i := by omega
    refine ⟨wstop hie, ?_⟩
    rw [List.drop_eq_nil_of_le (by omega)] at h6
    simp only [forLoop, Option.some.injEq] at h6
    subst h6
    exact hq σ1 H2 _ (w5.cut n) (x04.trans hnN x5).cut p5
end
end Ev
set_option maxHeartbeats 2000000
set_option maxRecDepth 100000
/-! Statements: stores at places. -/
namespace Ev
open PySem PySem.Spec PyProof.Rows L2
variable [Tb]

section
variable {K : PySem.W.Frag} {B : Bd} {H H' : Hp} {n m : Nat} {env env' : En} {σ : L2.St} {cs cs' : Cs}

/-- an object of one's own gets other things, of those that it had -/
theorem Wd.innerS (w : Wd K B n env σ H cs) {i : Nat} {s : Sl} {c : Cell} {l : Addr} {o' : HO} {d' : D} {F' : List Addr} (hs : getS env i = some s) (hf : s.fl = .own) (e : cs (.s i) = some c) (hl : l ∈ c.F) (mu' : Mut (some o')) (sub : F'.Sublist c.F) (fp : Fp K (upd H l o') c.v d' F') :
    Wd K B n (putS env i d' .own) σ (upd H l o') (putC cs (.s i) (some ⟨c.v, d', F', F'⟩)) := by
  obtain ⟨c0, e1, e2, e3, e4⟩ := w.mt.slot hs
  rw [e] at e1; cases e1
  rw [hf] at e4
  obtain ⟨f1, f2⟩ := e4
  have inF : ∀ b ∈ F', b ∈ c.F := fun b hb => sub.subset hb
  have inX : ∀ b ∈ c.F, b ∈ c.X := fun b hb => by rw [f1]; exact hb
  refine ⟨w.gd.write (c' := ⟨c.v, d', F', F'⟩) e (inX l hl) fp (fun b hb => ?_) (fun b hb => w.gd.rc _ _ e b (inF b hb)) (fun q c2 hq eq b hb => w.gd.dis (.s i) q c c2 (Ne.symm hq) e eq b (inX b (inF b hb))) (fun q c2 hq eq b hb y => w.gd.dis q (.s i) c2 c hq eq e b hb (inF b y)), fun j => ?_, fun j hj => by rw [putC_ne Ky_ts]; exact w.tm j hj, by rw [putS_len]; exact w.len⟩
  · obtain ⟨z1, z2, z3⟩ := w.gd.wr _ _ e b (inX b (inF b hb))
    refine ⟨hb, ?_, z3⟩
    by_cases q : b = l
    · subst q; rw [upd_same]; exact mu'
    · rw [upd_ne q]; exact z2
  · rw [getS_put (getS_lt hs)]
    by_cases q : j = i
    · subst q
      rw [if_pos rfl]
      exact ⟨_, putC_same, e2, rfl, rfl, f2.sublist sub⟩
    · rw [if_neg q]
      have h := w.mt j
      have ne : Ky.s j ≠ Ky.s i := fun z => by cases z; exact q rfl
      cases hj : getS env j with
      | none => rw [hj] at h; show putC _ _ _ _ = none; rw [putC_ne ne]; exact h
      | some s' =>
        rw [hj] at h
        obtain ⟨c', e1, e2, e3⟩ := h
        exact ⟨c', by rw [putC_ne ne]; exact e1, e2, e3⟩

theorem putAt_eq {xs ys : List D} {i : Int} {v : D} (h : putAt xs i v = some ys) : 0 ≤ i ∧ i.toNat < xs.length ∧ ys = xs.set i.toNat v := by
  unfold putAt at h
  split at h
  · rename_i hb
    cases h
    exact ⟨hb.1, hb.2, rfl⟩
  · cases h
theorem ixN_nat {n : Nat} {i : Int} (h0 : 0 ≤ i) (h : i.toNat < n) : ixN n i = some i.toNat := by
  unfold ixN
  rw [if_pos h0, if_pos (by omega)]

/-- a list's place gets what can't change -/
theorem set_imm (w : Wd K B n env σ H cs) {i : Nat} {s : Sl} {xs : List D} {j : Int} {v : V} {d : D} {ys : List D} (hs : getS env i = some s) (hd : s.d = .list xs) (hc : canChange s.fl = true) (hp : putAt xs j d = some ys) (fv : Fp K H v d []) :
    ∃ a us, σ[i]? = some (some (.ref a)) ∧ H a = some (.lst us) ∧ us.length = xs.length ∧ ixN us.length j = some j.toNat ∧ ∃ c, Wd K B n (putS env i (.list ys) s.fl) σ (upd H a (.lst (us.set j.toNat v))) (putC cs (.s i) (some c)) := by
  obtain ⟨h0, h1, rfl⟩ := putAt_eq hp
  obtain ⟨a, G, Xc, us, e2, eσ, hH, fG, haX, haG, hX⟩ := w.slotL hs hd hc
  obtain ⟨G', g1, g2⟩ := fG.setS fv j.toNat
  obtain ⟨X', w2, _⟩ := w.relistSub true hs e2 haX eσ haG hX g1 g2
  exact ⟨a, us, eσ, hH, fG.len, ixN_nat h0 (by rw [fG.len]; exact h1), _, w2⟩
end

section
variable {X : Cx} {C : FS} {np : Nat} {pr : List Nat}
/-- x[k] = e of a list -/
theorem ss_setL {i : Nat} {k e : Ex} {s : Stmt} (hk : smOk k = true) (hkey : keyE k = false) (h : PS X s (tAsg (tEx X.K C e) (gSub (tVar i) (tSm k) rSetL))) : SSt X C np pr (.setAt i k e) s := PS_imp h fun D σ H q => by
  obtain ⟨B, n, env, cs, f, w, h1, hq⟩ := q
  simp only [evS, Option.bind_eq_some_iff] at h1
  obtain ⟨r, h1, dk, h2, s0, h3, d, h4, h5⟩ := h1
  split at h5
  case isFalse => cases h5
  rename_i hc
  cases h5
  rw [hkey] at h4 hc
  simp only [Bool.and_eq_true, Bool.not_false, Bool.or_true, and_true] at hc
  obtain ⟨hcc, _⟩ := hc
  refine ⟨B, n, env, cs, r, w, h1, fun v H1 cs1 F X1 w1 x1 e1 f1 => ?_⟩
  obtain ⟨kv, k1, k2, k3⟩ := sm_read w1 hk h2
  cases hd : s0.d with
  | list xs =>
    rw [hd] at h4
    cases dk with
    | int j =>
      simp only [putIn, Option.map_eq_some_iff] at h4
      obtain ⟨ys, h4, rfl⟩ := h4
      have fv := w1.gd.fp _ _ e1
      by_cases hi : imm r.d = true
      · have := fv.imm hi
        have eF : F = [] := this
        subst eF
        obtain ⟨a, us, g1, g2, g3, g4, c, w2⟩ := set_imm (w1.cut n) h3 hd hcc h4 fv
        refine ⟨.ref a, g1, k1 _ ⟨a, us, j, j.toNat, rfl, k2.int_v, g2, g4, ?_⟩⟩
        refine hq σ _ _ (by rw [if_pos hi]; exact w2) (x1.cut.trans (Nat.le_refl n) Ext.puts') (Prot.refl _ _)
      · -- others may have the value
        obtain ⟨h0, hl, rfl⟩ := putAt_eq h4
        have w2 := w1.cut n
        obtain ⟨a, G, Xc, us, e2, eσ, hH, fG, haX, haG, hX⟩ := w2.slotL h3 hd hcc
        have e2' : cs1 (.s i) = some ⟨.ref a, .list xs, a :: G, Xc⟩ := e2
        obtain ⟨G', g1, g2⟩ := fG.setA fv j.toNat
        have notl : ∀ q c2, cutT n cs1 q = some c2 → q ≠ .t n := fun q c2 e z => by subst z; rw [cutT_hi (Nat.le_refl _)] at e; cases e
        have aF : a ∉ F := w1.gd.dis (.s i) (.t n) _ _ (fun z => by cases z) e2' e1 a haX
        have w3 := w2.relist (own := false) (fl := .spn) (ys := xs.set j.toNat r.d) h3 e2 haX eσ g1 (fun z => (g2 a z).elim haG aF) (fun b hb => by
          rcases g2 b hb with hb | hb
          · exact ⟨fun q c2 hq2 e3 hX2 => w2.gd.dis q (.s i) c2 _ hq2 e3 e2 b hX2 (List.mem_cons_of_mem _ hb), w2.gd.rc _ _ e2 b (List.mem_cons_of_mem _ hb)⟩
          · exact ⟨fun q c2 hq2 e3 hX2 => w1.gd.dis q (.t n) c2 _ (notl q c2 e3) (cutT_some e3) e1 b hX2 hb, w1.gd.rc _ _ e1 b hb⟩) (fun z => by cases z) (fun z => by cases z) (.inr ⟨rfl, rfl⟩)
        refine ⟨.ref a, eσ, k1 _ ⟨a, us, j, j.toNat, rfl, k2.int_v, hH, ixN_nat h0 (by rw [fG.len]; exact hl), ?_⟩⟩
        exact hq σ _ _ (by rw [if_neg hi]; exact w3) (x1.cut.trans (Nat.le_refl n) Ext.puts') (Prot.refl _ _)
    | _ => simp [putIn] at h4
  | _ => rw [hd] at h4; simp [putIn] at h4

/-- x[k] = e of a dict, k a written text -/
theorem ss_setD {i : Nat} {k e : Ex} {s : Stmt} (hk : smOk k = true) (hkey : keyE k = true) (h : PS X s (sDPut (tVar i) (tSm k) (tEx X.K C e))) : SSt X C np pr (.setAt i k e) s := PS_imp h fun D σ H q => by
  obtain ⟨B, n, env, cs, f, w, h1, hq⟩ := q
  simp only [evS, Option.bind_eq_some_iff] at h1
  obtain ⟨r, h1, dk, h2, s0, h3, d, h4, h5⟩ := h1
  split at h5
  case isFalse => cases h5
  rename_i hc
  cases h5
  rw [hkey] at h4 hc
  simp only [Bool.and_eq_true, Bool.not_true, Bool.or_false] at hc
  obtain ⟨⟨hcc, hi⟩, hsm⟩ := hc
  refine ⟨B, n, env, cs, r, w, h1, fun v H1 cs1 F X1 w1 x1 e1 f1 => ?_⟩
  obtain ⟨kv, k1, k2, k3⟩ := sm_read w1 hk h2
  cases hd : s0.d with
  | dict kvs =>
    rw [hd] at h4 hsm
    cases dk with
    | str z =>
      simp only [putIn, Option.map_eq_some_iff] at h4
      obtain ⟨kvs', h4, rfl⟩ := h4
      have w2 := w1.cut n
      obtain ⟨c, c1, c2, c3, c4⟩ := w2.mt.slot h3
      have hown : s0.fl = .own := by
        cases hf : s0.fl with
        | own => rfl
        | spn =>
          rw [hf] at c4
          obtain ⟨xs, _, _, z0, _⟩ := c4
          rw [c3, hd] at z0; cases z0
        | frz => rw [hf] at hcc; simp [canChange] at hcc
        | lck => rw [hf] at hcc; simp [canChange] at hcc
      have fp := w2.gd.fp _ _ c1
      rw [c3, hd] at fp
      obtain ⟨a, ks, vs, ds, G, ev, eF, ek, rd, hl, nd, t⟩ := fp.dict
      subst ek
      have hv : ∃ d0, valD z ((ks.map PyData.str).zip ds) = some d0 := by
        have : ∀ {ks : List Str} {ds : List PyData} {v : PyData} {r : List (PyData × PyData)}, putD z v ((ks.map PyData.str).zip ds) = some r → ∃ d0, valD z ((ks.map PyData.str).zip ds) = some d0 := by
          intro ks
          induction ks with
          | nil => intro ds v r h; simp [putD] at h
          | cons x ks ih =>
            intro ds v r h
            cases ds with
            | nil => simp [putD] at h
            | cons d ds =>
              simp only [List.map_cons, List.zip_cons_cons, putD, valD] at h ⊢
              by_cases e : x = z
              · rw [if_pos e]; exact ⟨d, rfl⟩
              · rw [if_neg e] at h ⊢
                simp only [Option.map_eq_some_iff] at h
                obtain ⟨r', h, _⟩ := h
                exact ih h
        exact this h4
      obtain ⟨d0, hv⟩ := hv
      obtain ⟨j, g0, g1, g2, g3⟩ := valD_at (by rw [hl, t.len]) nd hv
      rw [g2] at h4
      simp only [Option.some.injEq] at h4
      subst h4
      have fv := w1.gd.fp _ _ e1
      have eF1 : F = [] := fv.imm hi
      subst eF1
      obtain ⟨G', s1, s2⟩ := t.setS fv j
      rw [hown] at c4
      obtain ⟨f2, f3⟩ := c4
      have haF : a ∈ c.F := by rw [eF]; exact List.mem_cons_self
      have mu : Mut (H1 a) := (w2.gd.wr _ _ c1 a (by rw [f2]; exact haF)).2.1
      have hH : H1 a = some (.dK ((ks.map Sum.inr).zip vs)) := by
        rcases rd with rd | ⟨o, rd⟩
        · exact rd
        · rw [rd] at mu; exact mu.elim
      rw [eF] at f3
      have haG : a ∉ G := (List.nodup_cons.mp f3).1
      have haG' : a ∉ G' := fun z => haG (s2.subset z)
      have ft : FpAll X.K (upd H1 a (.dK ((ks.map Sum.inr).zip (vs.set j v)))) (vs.set j v) (ds.set j r.d) G' := s1.keeps (Keeps.upd mu) fun b hb y => by simp at y; subst y; exact haG' hb
      have w3 := w2.innerS h3 hown c1 haF (o' := .dK ((ks.map Sum.inr).zip (vs.set j v))) (d' := .dict ((ks.map PyData.str).zip (ds.set j r.d))) (F' := a :: G') trivial (by rw [eF]; exact s2.cons₂ a) (by rw [ev]; exact .dic (.inl upd_same) (by rw [List.length_set]; exact hl) nd ft)
      have kz : kv = .str z := by cases k2; rfl
      refine ⟨.ref a, by rw [c2, ev], k1 _ ⟨a, _, rfl, .inl ⟨_, Sum.inr z, hH, kz, ?_, rfl⟩, ?_⟩⟩
      · have hle : ((ks.map PyData.str).zip ds).length ≤ 1000 := by simpa [dSmall] using hsm
        have e3 : ((ks.map (Sum.inr : Str → Key)).zip vs).length = ((ks.map PyData.str).zip ds).length := by simp [t.len]
        rw [e3]
        exact Nat.lt_of_le_of_lt hle (by decide)
      · rw [(g3 vs v hl.symm).2]
        exact hq σ _ _ (by rw [if_pos hi, hown]; exact w3) (x1.cut.trans (Nat.le_refl n) Ext.puts') (Prot.refl _ _)
    | _ => simp [putIn] at h4
  | _ => rw [hd] at h4; cases dk <;> simp [putIn] at h4

/-! ### x[k] += e, x += e -/
theorem get_list : PGet X (rIxL X.K) := by
  intro pins s σ H o i ov iv Q I ro ri h
  obtain ⟨p, xs, k, v, rfl, rfl, hq, he, q⟩ := h
  cases ro
  obtain ⟨t, rfl⟩ := ri
  obtain ⟨its, r, pl, hz⟩ := I.list hq
  obtain ⟨j, h1, h2, h3, h4, h5⟩ := atI_get he
  obtain ⟨w, ew, rw'⟩ := r.get h2
  have hl := r.length
  have hn := line63
  have fin : EP X pins σ Q w s := ⟨v, H, I, rw', q⟩
  by_cases h0 : 0 ≤ k
  · have hj : k.toNat = j := by
      rw [seqIndex_of h0 h5] at h1
      exact Option.some.inj h1
    exact wpAny_getItem_list pl.isList h0 (by omega) (by rw [hj]; simpa using ew) fin
  · have hj : (k + (its.toArray.size : Int)).toNat = j := by
      rw [seqIndex_neg (by omega) h4] at h1
      rw [List.size_toArray, ← hl]
      exact Option.some.inj h1
    exact wpAny_getItem_list_neg (Q := EP X pins σ Q) pl.isList (by omega) (by rw [List.size_toArray] <;> omega) (by omega) (by rw [hj]; simpa using ew) fin
theorem ss_augAt {i : Nat} {k e : Ex} {s : Stmt} (hk : smOk k = true) (h : PS X s (tAugS (tVar i) (tSm k) (tEx X.K C e) (rIxL X.K) (ipI fun i j => i + j) rSetL)) : SSt X C np pr (.augAt i k e) s := PS_imp h fun D σ H q => by
  obtain ⟨B, n, env, cs, f, w, h1, hq⟩ := q
  simp only [evS, Option.bind_eq_some_iff] at h1
  obtain ⟨dk, h2, s0, h3, o, h4, a0, h5, r, h6, b0, h7, s1, h8, d, h9, h10⟩ := h1
  split at h10
  case isFalse => cases h10
  rename_i hc
  cases h10
  simp only [Bool.and_eq_true] at hc
  obtain ⟨hcc, hls⟩ := hc
  obtain ⟨xs0, hd0⟩ := asL_some hls
  obtain ⟨kv, k1, k2, k3⟩ := sm_read w hk h2
  obtain ⟨c, c1, c2, c3, c4⟩ := w.mt.slot h3
  have fp := w.gd.fp _ _ c1
  rw [c3, hd0] at fp
  obtain ⟨a, us, G, ev, eF, rd, t⟩ := fp.list
  rw [hd0] at h4
  cases dk with
  | int j =>
    have h4 : pIdx (.list xs0) (.int j) = some o := h4
    obtain ⟨j', g1, g2⟩ := pIdx_at (show _ = some o from h4) t.len
    obtain ⟨v, Gv, y1, y2, y3⟩ := t.get g1
    rw [asI_eq h5] at y2
    have ekv := k2.int_v
    refine ⟨.ref a, by rw [c2, ev], k1 _ ⟨a, us, j, v, rfl, ekv, .inl rd, g2 v y1, B, n, env, cs, r, w, h6, fun vr H1 cs1 F X1 w1 x1 e1 f1 => ?_⟩⟩
    have fr := w1.gd.fp _ _ e1
    rw [asI_eq h7] at fr
    cases hd1 : s1.d with
    | list xs1 =>
      rw [hd1] at h9
      simp only [putIn, Option.map_eq_some_iff] at h9
      obtain ⟨ys, h9, rfl⟩ := h9
      obtain ⟨a', us', z1, z2, z3, z4, c', w2⟩ := set_imm (w1.cut n) h8 hd1 hcc h9 (v := .int (a0 + b0)) (.int _)
      have ea : a = a' := by
        rw [c2, ev] at z1
        simpa using z1
      subst ea
      refine ⟨a0, b0, y2.int_v, fr.int_v, a, us', j, j.toNat, rfl, ekv, z2, z4, ?_⟩
      exact hq σ _ _ w2 (x1.cut.trans (Nat.le_refl n) Ext.puts') (Prot.refl _ _)
    | _ => rw [hd1] at h9; simp [putIn] at h9
  | _ => simp [getK, pIdx] at h4
theorem ss_augL {i : Nat} {e : Ex} {s : Stmt} (hp : i ∉ pr) (h : PS X s (tAug i (tEx X.K C e) (ipI fun i j => i + j))) : SSt X C np pr (.augL i e) s := PS_imp h fun D σ H q => by
  obtain ⟨B, n, env, cs, f, w, h1, hq⟩ := q
  simp only [evS, Option.bind_eq_some_iff, Option.map_eq_some_iff] at h1
  obtain ⟨s0, h1, a0, h2, r, h3, b0, h4, rfl⟩ := h1
  obtain ⟨c, c1, c2, c3, c4⟩ := w.mt.slot h1
  have fp := w.gd.fp _ _ c1
  rw [c3, asI_eq h2] at fp
  refine ⟨c.v, c2, B, n, env, cs, r, w, h3, fun vr H1 cs1 F X1 w1 x1 e1 f1 => ?_⟩
  have fr := w1.gd.fp _ _ e1
  rw [asI_eq h4] at fr
  refine ⟨a0, b0, fp.int_v, fr.int_v, ?_⟩
  have w2 := w1.cut n
  have hi : i < r.env.length := by
    have l1 : r.env.length = σ.length := w1.len
    rw [l1]
    exact (List.getElem?_eq_some_iff.mp c2).1
  have w3 := w2.put (i := i) (c := ⟨.int (a0 + b0), .int (a0 + b0), [], []⟩) (f := .own) hi (.int _) (fun a z => by cases z) (fun a z => by cases z) (fun _ _ _ _ a z => by cases z) (fun _ _ _ _ a _ z => by cases z) ⟨rfl, List.nodup_nil⟩
  exact hq _ _ _ w3 (x1.cut.trans (Nat.le_refl n) Ext.puts) fun j hj => List.getElem?_set_ne (fun z => by subst z; exact hp hj)
end
end Ev
set_option maxHeartbeats 2000000
set_option maxRecDepth 100000
/-! Defs: from a body to a promise. -/
namespace Ev
open PySem PySem.Spec PyProof.Rows L2
variable [Tb]

/-! ### what comes in, what goes out -/
theorem getS_app {l : List Sl} {k i : Nat} : getS (l.map some ++ List.replicate k none) i = l[i]? := by
  unfold getS
  by_cases h : i < l.length
  · rw [List.getElem?_append_left (by simpa using h), List.getElem?_map, List.getElem?_eq_getElem h]
    rfl
  · rw [List.getElem?_append_right (by simpa using h), List.getElem?_replicate, List.getElem?_eq_none (by omega)]
    split <;> first | rfl | (rename_i q; split at q <;> simp_all)
def inA (re : List Bool) (j : Nat) (a : Sl) : Sl := if re[j]? = some true ∧ imm a.d = false then ⟨a.d, .frz⟩ else a
theorem inS_get : ∀ {re : List Bool} {as : List Sl} {j : Nat}, as.length = re.length → (inS re as)[j]? = (as[j]?).map (inA re j)
  | [], [], j, _ => by simp [inS]
  | true :: re, a :: as, 0, _ => by
    simp only [inS, List.getElem?_cons_zero, Option.map_some, Option.some.injEq, inA]
    by_cases h : imm a.d = true
    · rw [if_pos h, if_neg (by simp [h])]
    · have h : imm a.d = false := by simpa using h
      rw [if_neg (by simp [h]), if_pos (by simp [h])]
  | false :: re, a :: as, 0, _ => by
    simp only [inS, List.getElem?_cons_zero, Option.map_some, Option.some.injEq, inA]
    rw [if_neg (by simp)]
  | true :: re, a :: as, j + 1, h => by
    simp only [inS, List.getElem?_cons_succ]
    rw [inS_get (by simpa using h)]
    congr 1
  | false :: re, a :: as, j + 1, h => by
    simp only [inS, List.getElem?_cons_succ]
    rw [inS_get (by simpa using h)]
    congr 1
  | [], _ :: _, _, h => by simp at h
  | _ :: _, [], _, h => by simp at h
theorem inS_len : ∀ {re : List Bool} {as : List Sl}, as.length = re.length → (inS re as).length = as.length
  | [], [], _ => rfl
  | true :: re, a :: as, h => by simp [inS, inS_len (re := re) (as := as) (by simpa using h)]
  | false :: re, a :: as, h => by simp [inS, inS_len (re := re) (as := as) (by simpa using h)]
  | [], _ :: _, h => by simp at h
  | _ :: _, [], h => by simp at h
theorem outS_get {env : En} : ∀ {n : Nat} {re : List Bool} {as fin : List Sl}, as.length = re.length → outS env n re as = some fin → fin.length = re.length ∧ ∀ j, j < re.length → fin[j]? = if re[j]? = some true then as[j]? else getS env (n + j)
  | n, [], [], fin, _, h => by simp [outS] at h; subst h; exact ⟨rfl, fun j hj => by simp at hj⟩
  | n, true :: re, a :: as, fin, hl, h => by
    simp only [outS, Option.map_eq_some_iff] at h
    obtain ⟨r, h1, rfl⟩ := h
    obtain ⟨l1, g1⟩ := outS_get (by simpa using hl) h1
    refine ⟨by simp [l1], fun j hj => ?_⟩
    cases j with
    | zero => simp
    | succ j =>
      have := g1 j (by simpa using hj)
      simp only [List.getElem?_cons_succ]
      rw [this, show n + 1 + j = n + (j + 1) by omega]
  | n, false :: re, a :: as, fin, hl, h => by
    simp only [outS, Option.bind_eq_some_iff, Option.map_eq_some_iff] at h
    obtain ⟨s, h0, r, h1, rfl⟩ := h
    obtain ⟨l1, g1⟩ := outS_get (by simpa using hl) h1
    refine ⟨by simp [l1], fun j hj => ?_⟩
    cases j with
    | zero => simp [h0]
    | succ j =>
      have := g1 j (by simpa using hj)
      simp only [List.getElem?_cons_succ]
      rw [this, show n + 1 + j = n + (j + 1) by omega]
  | _, [], _ :: _, _, h, _ => by simp at h
  | _, _ :: _, [], _, h, _ => by simp at h
def prS (re : List Bool) : List Nat := (List.range re.length).filter fun j => decide (re[j]? = some false)
theorem prS_mem {re : List Bool} {j : Nat} (h : j < re.length) (h2 : re[j]? ≠ some true) : j ∈ prS re := by
  refine List.mem_filter.mpr ⟨List.mem_range.mpr h, ?_⟩
  rw [List.getElem?_eq_getElem h] at h2 ⊢
  cases hb : re[j] with
  | true => rw [hb] at h2; exact absurd rfl h2
  | false => simp

section
variable {K : PySem.W.Frag} {B : Bd} {H H' : Hp} {σ : L2.St} {cs cs' : Cs}
/-- cells from other cells -/
theorem Gd.copy (g : Gd K B H cs) (o : Ky → Ky) (h : ∀ k c, cs' k = some c → ∃ c0, cs (o k) = some c0 ∧ c.v = c0.v ∧ c.d = c0.d ∧ c.F = c0.F ∧ ∀ a ∈ c.X, a ∈ c0.X) (h2 : ∀ k k' c c', k ≠ k' → o k = o k' → cs' k = some c → cs' k' = some c' → c.X = []) : Gd K B H cs' where
  kp := g.kp
  tb := g.tb
  al := g.al
  rc := fun k c e a ha => by
    obtain ⟨c0, e0, h1, h2, h3, h4⟩ := h k c e
    exact g.rc _ c0 e0 a (h3 ▸ ha)
  fp := fun k c e => by
    obtain ⟨c0, e0, h1, h2, h3, h4⟩ := h k c e
    rw [h1, h2, h3]; exact g.fp _ c0 e0
  wr := fun k c e a ha => by
    obtain ⟨c0, e0, h1, h2, h3, h4⟩ := h k c e
    rw [h3]; exact g.wr _ c0 e0 a (h4 a ha)
  dis := fun k k' c c' hne e e' a ha => by
    obtain ⟨c0, e0, h1, h2', h3, h4⟩ := h k c e
    obtain ⟨c1, e1, g1, g2, g3, g4⟩ := h k' c' e'
    rw [g3]
    by_cases q : o k = o k'
    · rw [h2 k k' c c' hne q e e'] at ha; cases ha
    · exact g.dis (o k) (o k') c0 c1 q e0 e1 a (h4 a ha)

def cs0 (re : List Bool) (cs : Cs) : Cs := fun k => match k with
  | .s j => (cs (.s j)).map fun c => if re[j]? = some true then { c with X := [] } else c
  | .g j => if re[j]? = some true then (cs (.s j)).map (fun c => { c with X := [] }) else none
  | .t _ => none
theorem start_ok {re : List Bool} {as : List Sl} {vs : List V} {k : Nat} (g : Gd K B H cs) (mt : Mt (as.map some) (vs.map some) cs) (hl : as.length = re.length) (hv : vs.length = re.length) :
    Wd K B 0 ((inS re as).map some ++ List.replicate k none) (vs.map some ++ List.replicate k none) H (cs0 re cs) := by
  refine ⟨g.copy (fun q => match q with | .g j => .s j | q => q) (fun q c e => ?_) (fun q q' c c' hne ho e e' => ?_), fun i => ?_, fun j _ => rfl, ?_⟩
  · cases q with
    | s j =>
      simp only [cs0, Option.map_eq_some_iff] at e
      obtain ⟨c0, e0, rfl⟩ := e
      refine ⟨c0, e0, ?_⟩
      split <;> exact ⟨rfl, rfl, rfl, fun a ha => by first | exact ha | cases ha⟩
    | g j =>
      simp only [cs0] at e
      split at e
      · simp only [Option.map_eq_some_iff] at e
        obtain ⟨c0, e0, rfl⟩ := e
        exact ⟨c0, e0, rfl, rfl, rfl, fun a ha => by cases ha⟩
      · cases e
    | t j => cases e
  · cases q with
    | s j =>
      cases q' with
      | s j' => exact absurd ho hne
      | t j' => cases ho
      | g j' =>
        cases ho
        have hr : re[j]? = some true := by
          by_cases h : re[j]? = some true
          · exact h
          · simp only [cs0, if_neg h] at e'; cases e'
        simp only [cs0, if_pos hr, Option.map_eq_some_iff] at e
        obtain ⟨c0, e0, rfl⟩ := e
        rfl
    | g j =>
      simp only [cs0] at e
      split at e
      · simp only [Option.map_eq_some_iff] at e
        obtain ⟨c0, e0, rfl⟩ := e
        rfl
      · cases e
    | t j => cases e
  · rw [getS_app, inS_get hl]
    have h := mt i
    rw [getS_map] at h
    cases ha : as[i]? with
    | none =>
      rw [ha] at h
      show cs0 re cs (.s i) = none
      have h : cs (.s i) = none := h
      simp [cs0, h]
    | some a =>
      rw [ha] at h
      obtain ⟨c, e1, e2, e3, e4⟩ := h
      have hi : i < vs.length := by rw [hv, ← hl]; exact (List.getElem?_eq_some_iff.mp ha).1
      refine ⟨if re[i]? = some true then { c with X := [] } else c, by simp [cs0, e1], ?_, ?_, ?_⟩
      · rw [List.getElem?_append_left (by simpa using hi), e2]
        split <;> rfl
      · have : (inA re i a).d = a.d := by unfold inA; split <;> rfl
        rw [this, ← e3]
        split <;> rfl
      · unfold inA
        by_cases hr : re[i]? = some true
        · rw [if_pos hr]
          by_cases hi2 : imm a.d = true
          · rw [if_neg (by simp [hi2])]
            have fp := g.fp _ _ e1
            rw [e3] at fp
            have eF := fp.imm hi2
            have eX : c.X = [] := nil_of e4.sub eF
            have ec : ({ c with X := [] } : Cell) = c := by
              cases c; simp at eX; subst eX; rfl
            rw [ec]; exact e4
          · have hi2 : imm a.d = false := by simpa using hi2
            rw [if_pos ⟨hr, hi2⟩]
            rfl
        · rw [if_neg hr, if_neg (by simp [hr])]
          exact e4
  · simp [inS_len hl, hl, hv]

def csE (np : Nat) (re : List Bool) (cs : Cs) : Cs := fun k => match k with
  | .s j => if j < np then (if re[j]? = some true then cs (.g j) else cs (.s j)) else none
  | .t j => if j = 0 then cs (.t 0) else none
  | .g _ => none
theorem end_ok {re : List Bool} {as fin : List Sl} {vs : List V} {k : Nat} {e : En} {σ' : L2.St} (hl : as.length = re.length) (hv : vs.length = re.length) (w0 : Wd K B 0 ((inS re as).map some ++ List.replicate k none) (vs.map some ++ List.replicate k none) H (cs0 re cs))
    (w : Wd K B 1 e σ' H' cs') (x : Ext 0 (cs0 re cs) cs') (p : Prot (prS re) (vs.map some ++ List.replicate k none) σ') (ho : outS e 0 re (inS re as) = some fin) :
    Gd K B H' (csE re.length re cs') ∧ Mt (fin.map some) (vs.map some) (csE re.length re cs') ∧ fin.length = re.length ∧ csE re.length re cs' (.t 0) = cs' (.t 0) := by
  obtain ⟨l1, g1⟩ := outS_get (by rw [inS_len hl, hl]) ho
  refine ⟨w.gd.copy (fun q => match q with | .s j => if re[j]? = some true then .g j else .s j | q => q) (fun q c eq => ?_) (fun q q' c c' hne hoo eq eq' => ?_), fun i => ?_, l1, by simp [csE]⟩
  · cases q with
    | s j =>
      simp only [csE] at eq
      split at eq
      · refine ⟨c, ?_, rfl, rfl, rfl, fun _ h => h⟩
        split at eq
        · rename_i h; simp only [if_pos h]; exact eq
        · rename_i h; simp only [if_neg h]; exact eq
      · cases eq
    | t j =>
      simp only [csE] at eq
      split at eq
      · rename_i h; subst h; exact ⟨c, eq, rfl, rfl, rfl, fun _ h => h⟩
      · cases eq
    | g j => cases eq
  · exfalso
    cases q with
    | s j =>
      cases q' with
      | s j' =>
        simp only at hoo
        split at hoo <;> split at hoo <;> first | (cases hoo; exact hne rfl) | cases hoo
      | t j' => simp only at hoo; split at hoo <;> cases hoo
      | g j' => cases eq'
    | t j =>
      cases q' with
      | s j' => simp only at hoo; split at hoo <;> cases hoo
      | t j' => cases hoo; exact hne rfl
      | g j' => cases eq'
    | g j => cases eq
  · rw [getS_map]
    by_cases hi : i < re.length
    · have gi := g1 i hi
      have hva : (vs.map some ++ List.replicate k none)[i]? = some (some vs[i]) := by
        rw [List.getElem?_append_left (by simp; omega)]; simp [hv, hi]
      have hvb : (vs.map some)[i]? = some (some (vs[i])) := by simp [hv, hi]
      by_cases hr : re[i]? = some true
      · rw [if_pos hr] at gi
        rw [gi]
        have hs : (inS re as)[i]? = some ((inS re as)[i]'(by rw [inS_len hl, hl]; exact hi)) := List.getElem?_eq_getElem _
        obtain ⟨c, e1, e2, e3, e4⟩ := w0.mt.slot (i := i) (by rw [getS_app]; exact hs)
        rw [hs]
        have ec : cs' (.g i) = some { c with X := [] } := by
          rw [x.g i]
          simp only [cs0, if_pos hr] at e1 ⊢
          simp only [Option.map_eq_some_iff] at e1
          obtain ⟨c0, z1, z2⟩ := e1
          rw [z1]
          rw [← z2]
          rfl
        have eX : c.X = [] := by
          simp only [cs0, if_pos hr, Option.map_eq_some_iff] at e1
          obtain ⟨c0, z1, z2⟩ := e1
          rw [← z2]
        refine ⟨{ c with X := [] }, by simp only [csE, if_pos hi, if_pos hr]; exact ec, ?_, e3, ?_⟩
        · rw [hvb]; rw [hva] at e2; exact e2
        · have : ({ c with X := [] } : Cell) = c := by
            cases c; simp at eX; subst eX; rfl
          rw [this]; exact e4
      · rw [if_neg hr, Nat.zero_add] at gi
        rw [gi]
        cases hg : getS e i with
        | none =>
          -- it is some: fin has it
          rw [hg] at gi
          have : i < fin.length := by omega
          rw [List.getElem?_eq_getElem this] at gi
          cases gi
        | some s =>
          obtain ⟨c, e1, e2, e3, e4⟩ := w.mt.slot hg
          refine ⟨c, by simp only [csE, if_pos hi, if_neg hr]; exact e1, ?_, e3, e4⟩
          rw [hvb]
          have pj := p i (prS_mem hi hr)
          rw [e2, hva] at pj
          exact pj.symm
    · have hn : fin[i]? = none := List.getElem?_eq_none (by omega)
      rw [hn]
      show csE re.length re cs' (.s i) = none
      simp [csE, hi]
end

/-- what a def's body must be, for its promise -/
theorem fn_step {P : Program} {w : World} {K : PySem.W.Frag} {mg : Str → Option Value} {base : Heap} {k : Nat} {x : Str} {st : Stmt} {addr : Addr} {fd : FuncData} {N ps : List Str} {T : List Fn} {f : Nat} {F : Fn} (hT : T[f]? = some F) (Fu : Fun K x x st addr fd) (S : FnScope N ps (defScope st))
    (hps : ps.length = F.re.length) (hN : N.length = F.ns) (hns : F.re.length ≤ F.ns)
    (hbody : ∀ X : Cx, X.prog = P → X.w = w → X.K = K → X.mg = mg → X.base = base → X.N = N → X.calm = true → Room k X.A → X.A.guards = some [] → X.env.scope = defScope st → (∀ y, X.fn y = true) → (∀ e s, ¬ X.xe e s) → X.env.code = fd.code → X.env.qual = x ++ ".<locals>." → PSs X (defBody st) (tSts K (semF T k) F.re.length (prS F.re) F.body)) :
    FnG P w K mg base (k + 1) addr fd ps (spF K (semF T (k + 1)) f F.re.length) := by
  refine fn_ofG Fu S (fun vs H Q E h => by rw [h.1, hps]) fun cdv A outer s H vs Q E hcd hr hG hsp => ?_
  refine ⟨_, hbody _ rfl rfl rfl rfl rfl rfl rfl hr hG rfl (fun _ => rfl) (fun _ _ h => h) hcd rfl, ?_⟩
  obtain ⟨hv, L, R, cs, as, q, g, mt, ht, hg, hla, hC, hq⟩ := hsp
  have hC : (T[f]?).bind (fun F => runFn (semF T k) F as) = some q := hC
  rw [hT] at hC
  simp only [Option.bind_some] at hC
  unfold runFn at hC
  rw [if_pos hla] at hC
  simp only [Option.bind_eq_some_iff] at hC
  obtain ⟨fl, h1, h2⟩ := hC
  have w0 := start_ok (re := F.re) (k := F.ns - F.re.length) g mt hla hv
  have hst : L2.start N vs = vs.map some ++ List.replicate (F.ns - F.re.length) none := by
    unfold L2.start
    rw [hN, hv]
  refine ⟨⟨H, L, R⟩, 0, _, cs0 F.re cs, fl, by rw [hst]; exact w0, h1, ?_⟩
  rw [hst]
  cases fl with
  | ret d o e =>
    simp only [Option.map_eq_some_iff] at h2
    obtain ⟨fin, h3, rfl⟩ := h2
    intro v σ' H' cs' F1 X1 w' x' e' f' p'
    obtain ⟨z1, z2, z3, z4⟩ := end_ok hla hv w0 w' x' p' h3
    exact hq v H' _ F1 X1 z1 z2 z3 (z4.trans e') f'
  | next e =>
    simp only [Option.map_eq_some_iff] at h2
    obtain ⟨fin, h3, rfl⟩ := h2
    intro σ' H' cs' w' x' p'
    obtain ⟨z1, z2, z3, z4⟩ := end_ok hla hv w0 (w'.pushImm .non) (x'.trans (Nat.le_refl 0) Ext.put) p' h3
    exact hq .non H' _ [] [] z1 z2 z3 (z4.trans putC_same) (fitsO_imm rfl)
  | brk e => cases h2
  | cont e => cases h2
end Ev
set_option maxHeartbeats 2000000
set_option maxRecDepth 100000
/-! What a body's context is; the forms as the checker meets them. -/
namespace Ev
open PySem PySem.Spec PyProof.Rows L2
variable [Tb]

structure Glo where
  N : List Str
  tab : List (Str × Nat × Nat)
  bn : List Str
  lam : Bool

/-- a def's body may make lambdas -/
def Mk (X : Cx) : Prop := ∃ c P, LamX.TabB X.base X.mg c P ∧ X.env.code = .ref c ∧ (P, X.env.qual ++ "<lambda>") ∈ Tb.T ∧ ∀ p ∈ Tb.T, p.1 = P → p.2 = X.env.qual ++ "<lambda>"
structure Sit (G : Glo) (C : FS) (k : Nat) (SC : Scope) (top : Bool) (X : Cx) : Prop where
  calm : X.calm = true
  nn : X.N = G.N
  nd : G.N.Nodup
  room : Room k X.A
  gd : X.A.guards = some []
  sc : X.env.scope = SC
  fn : top = true → ∀ x, X.fn x = true
  bl : ∀ x ∈ G.bn, X.mg x = none
  fs : ∀ x f np, (x, f, np) ∈ G.tab → ∃ addr fd ps, FnG X.prog X.w X.K X.mg X.base k addr fd ps (spF X.K C f np) ∧ X.mg x = some (.ref addr) ∧ PySem.W.keepIn X.K (.ref addr) = true ∧ Binds X.K fd ps []
  lam : G.lam = true → top = true → Mk X

section
variable {G : Glo} {C : FS} {k : Nat} {SC : Scope} {top : Bool} {X : Cx}
theorem Sit.blk (S : Sit G C k SC top X) (s : Shared) (H : Hp) (scope : Scope) (D : Addr) (cl : List (Str × Addr)) (fp : List Addr) : Sit G C k (relS scope SC) false (X.blk s H scope (compEnvC scope cl D X.env) fp) where
  calm := S.calm
  nn := S.nn
  nd := S.nd
  room := S.room
  gd := S.gd
  sc := by
    show relabel scope X.env = relS scope SC
    rw [← S.sc]
    rfl
  fn := fun h => by cases h
  bl := S.bl
  fs := S.fs
  lam := fun _ h => by cases h
theorem Sit.hN (S : Sit G C k SC top X) : X.N.Nodup := by rw [S.nn]; exact S.nd
theorem Sit.u64 (S : Sit G C k SC top X) : X.A.units + 64 < cLine := S.room.units
theorem Sit.u65 (S : Sit G C k SC top X) : X.A.units + 65 < cLine := by have := S.room.un; omega
theorem Sit.u1 (S : Sit G C k SC top X) : X.A.units + 1 < cLine := by have := S.room.un; omega

def visK (SC : Scope) (x : Str) : Bool := match SC.names.lookup x with
  | some .local => true
  | some .cell => true
  | some .free => true
  | _ => false
def glK (SC : Scope) (x : Str) : Bool := decide (SC.names.lookup x = some .globalImplicit)
def nmOk (x : Str) : Bool := decide (x ≠ ("__debug__" : Str)) && decide (x ≠ ("__classdict__" : Str)) && decide (x ≠ ("__name__" : Str))
def okVar (G : Glo) (SC : Scope) (i : Nat) (x : Str) : Bool := decide (G.N[i]? = some x) && visK SC x && nmOk x
def okBn (G : Glo) (SC : Scope) (x : Str) : Bool := decide (x ∈ G.bn) && glK SC x && nmOk x

theorem nm_facts {x : Str} (h : nmOk x = true) : (x == ("__debug__" : Str)) = false ∧ (x == ("__classdict__" : Str)) = false ∧ x ≠ ("__name__" : Str) := by
  simp only [nmOk, Bool.and_eq_true, decide_eq_true_eq] at h
  exact ⟨by simpa using h.1.1, by simpa using h.1.2, h.2⟩
theorem pe_ok (S : Sit G C k SC top X) {i : Nat} {x : Str} {pos : Pos} (h : okVar G SC i x = true) : PE X (.Name x pos) (tVar i) := by
  simp only [okVar, Bool.and_eq_true, decide_eq_true_eq] at h
  obtain ⟨⟨h1, h2⟩, h3⟩ := h
  obtain ⟨n1, n2, n3⟩ := nm_facts h3
  refine pe_var (by rw [S.nn]; exact h1) ?_ n1 n2
  unfold Vis
  rw [S.sc]
  unfold visK at h2
  split at h2
  · rename_i q; exact .inl q
  · rename_i q; exact .inr (.inl q)
  · rename_i q; exact .inr (.inr q)
  · cases h2
theorem gl_ok (S : Sit G C k SC top X) {x : Str} (h : glK SC x = true) : Gl X x := by
  show X.env.scope.names.lookup x = some .globalImplicit
  rw [S.sc]
  simpa [glK] using h
theorem bn_ok (S : Sit G C k SC top X) {x : Str} (h : okBn G SC x = true) : Gl X x ∧ X.mg x = none ∧ (x == ("__debug__" : Str)) = false ∧ x ≠ ("__name__" : Str) := by
  simp only [okBn, Bool.and_eq_true, decide_eq_true_eq] at h
  obtain ⟨n1, n2, n3⟩ := nm_facts h.2
  exact ⟨gl_ok S h.1.2, S.bl x h.1.1, n1, n3⟩

/-! ### arguments -/
def noStar : Expr → Bool
  | .Starred _ _ => false
  | _ => true
theorem noStar_ne {e : Expr} (h : noStar e = true) : ∀ x p, e ≠ .Starred x p := fun x p z => by subst z; simp [noStar] at h
theorem pl_ok {env : Env} {pos : Pos} : ∀ {es : List Expr}, es.all noStar = true → (PySem.backTo pos (starEach es env)).any (·.1) = false
  | [], _ => rfl
  | e :: es, h => by
    simp only [List.all_cons, Bool.and_eq_true] at h
    rw [star_no (noStar_ne h.1)]
    have ih := pl_ok (env := env) (pos := pos) h.2
    simp only [PySem.backTo, List.map_cons, List.any_cons, Bool.false_or] at ih ⊢
    exact ih
theorem few_ok {env : Env} {pos : Pos} {e : Expr} {es : List Expr} (h : (e :: es).all noStar = true) (hl : (e :: es).length < 28) :
    ((PySem.backTo pos (starEach (e :: es) env)).all (fun x => !x.1) && (backToKw pos (keywordEach [] env)).all (fun x => x.1.isSome) && decide ((e :: es).length + ([] : List Keyword).length + (if ([] : List Keyword).isEmpty then 0 else 1) < 30)) = true := by
  have h1 := pl_ok (env := env) (pos := pos) h
  have h2 : (PySem.backTo pos (starEach (e :: es) env)).all (fun x => !x.1) = true := by
    rw [List.all_eq_not_any_not]
    simp only [Bool.not_not]
    rw [h1]; rfl
  rw [h2]
  simp only [Bool.true_and, Bool.and_eq_true, decide_eq_true_eq]
  refine ⟨rfl, ?_⟩
  simp at hl ⊢
  omega
theorem sos_all {as : List Ex} {es : List Expr} (h : SOs X C as es) : es.all noStar = true := by
  induction h with
  | nil => rfl
  | cons _ hs _ ih =>
    simp only [List.all_cons, ih, Bool.and_true]
    rename_i e _ _ _ _
    cases e <;> first | rfl | exact absurd rfl (hs _ _)
theorem sos_len {as : List Ex} {es : List Expr} (h : SOs X C as es) : es.length = as.length := by
  induction h with
  | nil => rfl
  | cons _ _ _ ih => simp [ih]

/-- a built-in function's call -/
theorem se_blt {p : Pm} {x : Str} {id : String} {r : List V → Hp → VK → Prop} {as : List Ex} {es : List Expr} {pp pos : Pos} (S : Sit G C k SC top X) (hb : okBn G SC x = true) (hc : CallR X (.builtin id) r) (hp : PrOkL X.K p r) (hv : bootBuiltins x = some (.builtin id)) (ha : SOs X C as es) (hne : es ≠ []) : SE X C (.prim p as) (.Call (.Name x pp) es [] pos) := by
  obtain ⟨b1, b2, b3, b4⟩ := bn_ok S hb
  cases ha with
  | nil => exact absurd rfl hne
  | cons h hs t => exact se_primL (pe_callB hc b1 b2 hv (sos_pa (.cons h hs t)) b4 b3 (star_no hs) (pl_ok (sos_all t))) hp
theorem se_typ {p : Pm} {x : Str} {T : String} {r : List V → Hp → VK → Prop} {as : List Ex} {es : List Expr} {pp pos : Pos} (S : Sit G C k SC top X) (hb : okBn G SC x = true) (hc : CallR X (.type T) r) (hp : PrOkL X.K p r) (hv : bootBuiltins x = some (.type T)) (ha : SOs X C as es) (hne : es ≠ []) : SE X C (.prim p as) (.Call (.Name x pp) es [] pos) := by
  obtain ⟨b1, b2, b3, b4⟩ := bn_ok S hb
  cases ha with
  | nil => exact absurd rfl hne
  | cons h hs t => exact se_primL (pe_callTy hc b1 b2 hv (sos_pa (.cons h hs t)) b4 b3 (star_no hs) (pl_ok (sos_all t))) hp
/-- a def's call -/
theorem se_callG {f np : Nat} {x : Str} {as : List Ex} {es : List Expr} {pp pos : Pos} (S : Sit G C k SC top X) (hm : (x, f, np) ∈ G.tab) (hg : glK SC x = true) (hn : nmOk x = true) (ha : SOs X C as es) (hl : as.length = np) : SE X C (.call f as) (.Call (.Name x pp) es [] pos) := by
  obtain ⟨addr, fd, ps, F, m1, m2, m3⟩ := S.fs x f np hm
  obtain ⟨n1, n2, n3⟩ := nm_facts hn
  cases ha with
  | nil =>
    refine PE_call (pe_callG0 (t := tNil) F S.room S.gd (gl_ok S hg) m1 m2 m3 n1 pa_nil) (fun σ H Q h => ?_) hl
    obtain ⟨B, n, env, cs, os, e', w, h1, hq⟩ := h
    simp only [evOs, Option.some.injEq, Prod.mk.injEq] at h1
    obtain ⟨rfl, rfl⟩ := h1
    have := hq [] H cs (by simpa [tmpsN] using w) Ext.refl .nil
    exact this
  | cons h hs t =>
    refine PE_call (pe_callG F S.room S.gd (gl_ok S hg) m1 m2 m3 (sos_pa (.cons h hs t)) n1 (star_no hs) (pl_ok (sos_all t))) (fun σ H Q h => ?_) hl
    obtain ⟨B, n, env, cs, os, e', w, h1, hq⟩ := h
    refine ⟨B, n, env, cs, os, e', w, h1, fun vs H' cs' w' x' v' => ?_⟩
    have this : spF X.K C f np (vs ++ []) H' Q E0 := hq vs H' cs' w' x' v'
    rw [List.append_nil] at this
    exact this

/-! ### as tests -/
theorem tt_read {K : PySem.W.Frag} {ex : Ex} {σ : L2.St} {H : Hp} {Q : Bool → Hp → Prop} (q : tTt K C ex σ H Q) : tEx K C ex σ H fun x H' => ∃ k, x = .bl k ∧ Q k H' := by
  obtain ⟨B, n, env, cs, r, k, w, h1, h2, hq⟩ := q
  refine ⟨B, n, env, cs, r, w, h1, fun v H' cs' F X' w' x e1 f => ?_⟩
  have fp := w'.gd.fp _ _ e1
  rw [asB_eq h2] at fp
  cases fp
  exact ⟨k, rfl, hq H' _ (w'.cut n) x.cut⟩
theorem prim2_read {K : PySem.W.Frag} {p : Pm} {a b : Ex} {R : R2} (hp : PrOk2 K p R) {σ : L2.St} {H : Hp} {Q : VK} (q : tEx K C (.prim p [a, b]) σ H Q) : tOp R (tOd K C a) (tOd K C b) σ H Q := by
  obtain ⟨B, n, env, cs, r, w, h1, hq⟩ := q
  simp only [evE, Option.bind_eq_some_iff] at h1
  obtain ⟨⟨os, e1⟩, h1, ds, h2, d, h3, h4⟩ := h1
  refine tOd2 w h1 fun x y H' cs' w' x' v' => ?_
  obtain ⟨J, z, hP⟩ := finish_ok w' x' v' h2 h4 hq
  obtain ⟨⟩ | ⟨f1, t⟩ := z
  obtain ⟨⟩ | ⟨f2, t⟩ := t
  cases t
  exact hp _ _ _ _ _ _ _ _ _ f1 f2 h3 hP
theorem st_prim2 {p : Pm} {a b : Ex} {e : Expr} {R : R2} (h : PT X e (tTest (tOp R (tOd X.K C a) (tOd X.K C b)))) (hp : PrOk2 X.K p R) : ST X C (.prim p [a, b]) e := PT_imp h fun σ H Q q => prim2_read hp (tt_read q)
theorem isN_read {K : PySem.W.Frag} {neg : Bool} {p : Pm} {a : Ex} (hp : ∀ d, pm1 p d = some (.bool (if neg then !isNone d else isNone d))) {σ : L2.St} {H : Hp} {Q : VK} (q : tEx K C (.prim p [a]) σ H Q) : tOp (fun x y H Q => y = .non ∧ Q (.bl (if neg then !decide (x = .non) else decide (x = .non))) H) (tOd K C a) (tC .non) σ H Q := by
  obtain ⟨B, n, env, cs, r, w, h1, hq⟩ := q
  simp only [evE, Option.bind_eq_some_iff] at h1
  obtain ⟨⟨os, e1⟩, h1, ds, h2, d, h3, h4⟩ := h1
  obtain ⟨o, e2, h5⟩ := evOs_one h1
  simp only [Prod.mk.injEq] at h5
  obtain ⟨rfl, rfl⟩ := h5
  refine ⟨B, n, env, cs, o, _, w, h1, fun x H' cs' w' x' v' => ⟨rfl, ?_⟩⟩
  obtain ⟨J, z, hP⟩ := finish_ok (os := [o]) (by simpa [tmpsN] using w') x' (.cons v' .nil) h2 h4 hq
  match ds, z, h3 with
  | [dx], .cons fx .nil, h3 =>
    have h3 : pm1 p dx = some d := h3
    rw [hp] at h3
    cases h3
    rw [isNone_v fx] at hP
    exact hP.imm (.bl _) rfl

/-! ### subscripts -/
def plainIx : Expr → Bool
  | .Slice _ _ _ _ => false
  | _ => true
theorem plain_ok {b : Expr} (h : plainIx b = true) : PlainIx b := fun o i => by
  cases b <;> first | rfl | simp [plainIx] at h
def isTrueE : Expr → Bool
  | .UnaryOp .Not _ _ => false
  | .BoolOp _ _ _ => false
  | .IfExp _ _ _ _ => false
  | .Compare _ _ _ _ => false
  | _ => true
theorem isTrue_ok {e : Expr} (h : isTrueE e = true) : ∀ whole, isTrue e X.env whole = (do let v ← whole; standAt e.pos; holding [v] (truthy v)) := fun whole => by
  cases e with
  | UnaryOp op a p => cases op <;> first | rfl | simp [isTrueE] at h
  | BoolOp => simp [isTrueE] at h
  | IfExp => simp [isTrueE] at h
  | Compare => simp [isTrueE] at h
  | _ => rfl
def notSet : Expr → Bool
  | .Set _ _ _ => false
  | _ => true
theorem folded_ok {e : Expr} {env : Env} (h : notSet e = true) : ∀ x, foldedSetIterable e env x = pure x := fun x => by
  cases e <;> first | rfl | simp [notSet] at h
def baseOk : Expr → Bool
  | .Name _ _ => true
  | .Subscript _ _ _ => true
  | _ => false
theorem base_ok {e : Expr} {name : Str} {env : Env} {w : Sem Value} (h : baseOk e = true) : attributeBase e name env w = w := by
  cases e <;> first | rfl | simp [baseOk] at h
/-- no comprehension, whose store would come first -/
def noSwap : Expr → Bool
  | .ListComp _ _ _ _ => false
  | .SetComp _ _ _ _ => false
  | .DictComp _ _ _ _ _ => false
  | _ => true
theorem swap_ok {e : Expr} {t : Option Expr} {l : Nat} {env : Env} (h : noSwap e = true) : swapsWith e t l env = pure false := by
  cases e <;> first | rfl | simp [noSwap] at h
end
end Ev
set_option maxHeartbeats 2000000
set_option maxRecDepth 100000
/-! Keys of sorted: what a lambda's body computes, the heap kept but for a new tuple. -/
namespace Ev
open PySem PySem.Spec PyProof.Rows L2

/-- behind it the heap is as it was -/
def Gv (P : Program) (w : World) (A : Around) (env : Env) (h : Heap) (e : Expr) (R : Value → Prop) : Prop :=
  ∀ (s : Shared) (Q E : Value → Shared → Prop), (∀ b o, h.get? b = some o → s.heap.get? b = some o) → (∀ v tk, R v → Q v { s with toks := tk }) → wpAny (model P w) A (eval e env) Q E s
def isI (i : Int) (v : Value) : Prop := ∃ t, v = .int i t
section
variable {P : Program} {w : World} {A : Around} {env : Env} {h : Heap} {e e2 : Expr} {pos : Pos}
theorem gv_int {i : Int} {j : Nat} : Gv P w A env h (.Constant (.int i) j pos) (isI i) := fun s Q E _ q => wpAny_Constant_int (q _ _ ⟨_, rfl⟩)
theorem gv_local {x : Str} {m : Str → Option Value} {u : Value} (hk : env.scope.kind = .function) (hl : env.kindOf x = some .local) (hn : h.Ns env.locals m) (hv : m x = some u) (hd : (x == ("__debug__" : Str)) = false) : Gv P w A env h (.Name x pos) (· = u) :=
  fun s Q E k q => wpAny_Name (wpAny_loadName_local hk hl (hn.keeps k) hv (q u s.toks rfl)) hd
theorem gv_free {x : Str} {c : Addr} {u : Value} (hk : env.scope.kind = .function) (hl : env.kindOf x = some .free) (hc : env.cells.lookup x = some c) (hcell : h.IsCell c (some u)) (hd : (x == ("__debug__" : Str)) = false) (hcd : (x == ("__classdict__" : Str)) = false) : Gv P w A env h (.Name x pos) (· = u) :=
  fun s Q E k q => wpAny_Name (wpAny_loadName_free hk hl hc (let ⟨o, h1, h2⟩ := hcell; ⟨o, k _ _ h1, h2⟩) (q u s.toks rfl) hcd) hd
theorem gv_neg {i : Int} (a : Gv P w A env h e (isI i)) : Gv P w A env h (.UnaryOp .USub e pos) (isI (-i)) := fun s Q E k q =>
  wpAny_UnaryOp (a s _ E k fun v tk ⟨t, hv⟩ => by subst hv; exact neg_int (q _ _ ⟨_, rfl⟩))
theorem gv_sub {i j : Int} (a : Gv P w A env h e (isI i)) (b : Gv P w A env h e2 (isI j)) : Gv P w A env h (.BinOp e .Sub e2 pos) (isI (i - j)) := fun s Q E k q =>
  wpAny_BinOp (a s _ E k fun v tk ⟨t, hv⟩ => by
    subst hv
    exact b _ _ E k fun v2 tk2 ⟨t2, hv2⟩ => by subst hv2; exact sub_int (q _ _ ⟨_, rfl⟩))
/-- what stands at a place of a list or a tuple -/
structure SeqIs (h : Heap) (a : Addr) (its : List Value) : Prop where
  at_ : h.IsList a its.toArray ∨ IsTup h a its.toArray
  fit : its.length ≤ sizeLine
theorem SeqIs.keeps {h' : Heap} {a : Addr} {its : List Value} (x : SeqIs h a its) (k : ∀ b o, h.get? b = some o → h'.get? b = some o) : SeqIs h' a its :=
  ⟨x.at_.imp (fun ⟨o, e, r⟩ => ⟨o, k _ _ e, r⟩) (fun ⟨o, e, r⟩ => ⟨o, k _ _ e, r⟩), x.fit⟩
theorem gv_ix {a : Addr} {its : List Value} {i : Int} {u : Value} (x : Gv P w A env h e (· = .ref a)) (y : Gv P w A env h e2 (isI i)) (hs : SeqIs h a its) (hp : PlainIx e2) (hi : atI its i = some u) : Gv P w A env h (.Subscript e e2 pos) (· = u) := fun s Q E k q => by
  refine Subscript_ (x s _ E k fun v tk hv => ?_)
  subst hv
  refine y _ _ E k fun v2 tk2 ⟨t2, hv2⟩ => ?_
  subst hv2
  obtain ⟨j, h1, h2, h3, h4, h5⟩ := atI_get hi
  have hn := line63
  have hf := hs.fit
  rcases (hs.keeps k).at_ with hl | hl
  · by_cases h0 : 0 ≤ i
    · have hj : i.toNat = j := by
        rw [seqIndex_of h0 h5] at h1
        exact Option.some.inj h1
      exact item_listR hl h0 (by omega) (by rw [hj]; simpa using h2) (q u _ rfl) (hp _ _)
    · have hj : (i + (its.toArray.size : Int)).toNat = j := by
        rw [seqIndex_neg (by omega) h4] at h1
        rw [List.size_toArray]
        exact Option.some.inj h1
      exact subscriptTail_builtinR (x := u) hl.typeIs slot_list_getitem.lookup
        (wpAny_getItem_list_neg (Q := fun r s' => r = u ∧ Q r s') hl (by omega) (by rw [List.size_toArray] <;> omega) (by omega) (by rw [hj]; simpa using h2) ⟨rfl, q u _ rfl⟩) (hp _ _)
  · exact subscriptTail_builtinR (x := u) hl.typeIs slot_tuple_getitem.lookup (getItem_tuple (j := j) (Q := fun r s' => r = u ∧ Q r s') hl (by omega) (by omega) (by rw [List.size_toArray]; exact h1) (by simpa using h2) ⟨rfl, q u _ rfl⟩) (hp _ _)
/-- len(..) -/
theorem gv_len {a : Addr} {its : List Value} {x : Str} {p : Pos} {mg mb : Str → Option Value} (y : Gv P w A env h e (· = .ref a)) (hs : SeqIs h a its) (hk : env.scope.kind = .function) (hg : env.kindOf x = some .globalImplicit) (hgl : h.Ns env.globals mg) (hx : mg x = none) (hbl : h.Ns env.builtins mb) (hv : mb x = some (.builtin "len")) (hd : (x == ("__debug__" : Str)) = false) (he : starEach [e] env = [(false, eval e env)]) :
    Gv P w A env h (.Call (.Name x p) [e] [] pos) (isI its.length) := fun s Q E k q => by
  refine wpAny_Call_Name_kw (Calls.Name_function_global hk hg (Calls.loadGlobal_builtin (hgl.keeps k) hx (hbl.keeps k) hv ?_) hd)
  rw [he]
  refine PySem.callWith_builtin1 (y s _ E k fun v tk hv' => ?_)
  subst hv'
  have hz : sizeLine = 16777216 := sizeLine_eq
  have hf := hs.fit
  rcases (hs.keeps k).at_ with hl | hl
  · exact Calls.call_len_list hl (by simp only [List.size_toArray]; omega) (q _ _ ⟨tk + 1, by rw [List.size_toArray]⟩)
  · exact len_tuple hl (by simp only [List.size_toArray]; omega) (q _ _ ⟨tk + 1, by rw [List.size_toArray]⟩)
end
end Ev
set_option maxHeartbeats 2000000
set_option maxRecDepth 100000
/-! A lambda made: what it does to the heap that we know. -/
namespace Ev
open PySem PySem.Spec PyProof.Rows L2 LamX
variable [Tb]

/-- behind the making: all but tables stays, nothing is forgotten -/
structure Made (H H1 : Hp) : Prop where
  ext : ExtN H H1
  al : ∀ a, H1 a = none → H a = none
  tabs : Tabs Tb.T H → Tabs Tb.T H1
theorem Made.refl (H : Hp) : Made H H := ⟨ExtN.refl H, fun _ h => h, fun h => h⟩
theorem among_snoc {pos p' : Pos} {c cv : Value} {ps : Array Value} (ht : TriplesOk ps.toList) (h : codeAmong p' (ps ++ #[rawInt pos.line, rawInt pos.col, c]).toList = some cv) : codeAmong p' ps.toList = some cv ∨ cv = c := by
  rw [Array.toList_append] at h
  exact among_app _ ht h
/-- the table grows by a code object -/
theorem made_grow {H : Hp} {P c' : Addr} {q : Str} {ps : Array Value} {pos : Pos} (hP : H P = some (.tbl ps)) (ht : TriplesOk ps.toList) (ha : ∀ (pos : Pos) (cv : Value), codeAmong pos ps.toList = some cv → ∃ c, cv = .ref c ∧ H c = some (CodeO c q)) (hu : ∀ p ∈ Tb.T, p.1 = P → p.2 = q) (hn : H c' = none) :
    Made H (upd (upd H P (.tbl (ps ++ #[rawInt pos.line, rawInt pos.col, .ref c']))) c' (CodeO c' q)) := by
  have e : ExtN H (upd (upd H P (.tbl (ps ++ #[rawInt pos.line, rawInt pos.col, .ref c']))) c' (CodeO c' q)) := fun b o h n => by
    have h1 : b ≠ c' := ne_of_none h hn
    have h2 : b ≠ P := by
      rintro rfl
      rw [hP] at h
      cases h
      exact n ps rfl
    rw [upd_ne h1, upd_ne h2]
    exact h
  refine ⟨e, fun a h => ?_, fun hT p hp => ?_⟩
  · by_cases h1 : a = c'
    · rw [h1]; exact hn
    · rw [upd_ne h1] at h
      by_cases h2 : a = P
      · rw [h2, upd_same] at h; cases h
      · rw [upd_ne h2] at h; exact h
  · obtain ⟨p, r⟩ := p
    have hne : ∀ {z : Addr} {o : HO}, H z = some o → z ≠ c' := fun z => ne_of_none z hn
    by_cases h2 : p = P
    · subst h2
      have hr : r = q := hu _ hp rfl
      subst hr
      refine ⟨_, by rw [upd_ne (hne hP), upd_same], ?_, fun p' cv h => ?_⟩
      · rw [Array.toList_append]
        exact PySem.TriplesOk_snoc _ _ _ _ ht
      · rcases among_snoc ht h with h | h
        · obtain ⟨c0, rfl, h3⟩ := ha p' cv h
          exact ⟨c0, rfl, e _ _ h3 codeO_ne⟩
        · exact ⟨c', h, upd_same⟩
    · obtain ⟨ps', a1, a2, a3⟩ := hT _ hp
      refine ⟨ps', by rw [upd_ne (hne a1), upd_ne h2]; exact a1, a2, fun p' cv h => ?_⟩
      obtain ⟨c0, rfl, h3⟩ := a3 p' cv h
      exact ⟨c0, rfl, e _ _ h3 codeO_ne⟩
section
variable {X : Cx} {pins : List (Addr × Obj)} {σ : L2.St} {H : Hp} {s : Shared}
/-- the function object that a lambda gives -/
abbrev lamObj (X : Cx) (params : Arguments) (body : Expr) (scope : Scope) (pm : Value) (c' : Addr) (ctv : Value) : Obj :=
  PySem.W.kla_obj "<lambda>" (X.env.qual ++ "<lambda>") params body scope (cloFrom X.env.cells scope.names []) pm c' ctv
theorem lam_mk {c P : Addr} {params : Arguments} {body : Expr} {scope : Scope} {pos : Pos} {E Q : Value → Shared → Prop} (I : Inv X pins σ H s) (TB : TabB X.base X.mg c P) (hcode : X.env.code = .ref c) (hm : (P, X.env.qual ++ "<lambda>") ∈ Tb.T)
    (hu : ∀ p ∈ Tb.T, p.1 = P → p.2 = X.env.qual ++ "<lambda>") (hT : Tabs Tb.T H) (hdef : defaultsOf params X.env = ([], [])) (hfree : ∀ y ∈ scope.names, y.2 = .free → ∃ c, X.env.cells.lookup y.1 = some c)
    (h : ∀ (f c' : Addr) (pm ctv : Value) (H1 : Hp) (s' : Shared), Inv X pins σ H1 s' → Made H H1 → s'.heap.get? f = some (lamObj X params body scope pm c' ctv) → H1 f = none → f ∉ frs X.stack → f ≠ X.env.locals → X.base.get? f = none → H1 c' = some (CodeO c' (X.env.qual ++ "<lambda>")) → Q (.ref f) s') :
    wpAny (model X.prog X.w) X.A (eval (.Lambda params body scope pos) X.env) Q E s := by
  obtain ⟨ps, hP, ht, ha⟩ := hT _ hm
  have bP : s.heap.BuiltinsAt X.mg P := TB.bm.keeps I.bk
  have oP : s.heap.get? P = some { cls := .none, data := .fields ps } := I.hok P _ hP
  have gl := I.mod.glob.keeps I.bk
  have cd := TB.code.keeps I.bk
  have lt := I.lt
  have bsz := Nat.le_trans I.ok.bsz I.sz
  have nfr : ∀ f, s.heap.objs.size ≤ f → f ∉ frs X.stack ∧ f ≠ X.env.locals ∧ X.base.get? f = none := fun f hf => by
    have n1 : f ≠ X.env.locals := fun z => by rw [z] at hf; exact Nat.lt_irrefl _ (Nat.lt_of_lt_of_le lt hf)
    refine ⟨fun z => ?_, n1, Heap.get?_none_of_le (Nat.le_trans bsz hf)⟩
    rcases List.mem_cons.mp (I.stkSub _ z) with e | e
    · exact n1 e
    · exact I.nofs hf e
  refine PySem.W.kla_eval hdef ?_
  rcases hc : codeAmong pos ps.toList with _ | cv
  · refine PySem.W.kla_makeFunction (mg := X.mg) (c := c) (P := P) (ps := ps) (closure_ok hfree) I.ok.glob gl hcode cd oP ht hc TB.gP bP fun c' ctv h' tk hx hge hlt hrec htb => ?_
    obtain ⟨c2, oc, vs, t, e2, hoc, hd, hv⟩ := hrec
    cases e2
    have nC : H c' = none := I.hok.fresh hge
    have big : s.heap.objs.size ≤ h'.objs.size := Nat.le_trans hge (Nat.le_of_lt hlt)
    obtain ⟨n1, n2, n3⟩ := nfr _ big
    refine h h'.objs.size c' _ ctv _ _ (inv_table (more := #[rawInt pos.line, rawInt pos.col, .ref c']) I hP (fun b o hb e => Heap.get?_push_of_some _ (hx b o hb e)) (Heap.get?_push_of_some _ htb) hge ⟨oc, vs, t, Heap.get?_push_of_some _ hoc, hd, hv⟩)
      (made_grow hP ht ha hu nC) (Heap.get?_push_size _ rfl) ?_ n1 n2 n3 upd_same
    have hPs := Heap.lt_size oP
    rw [upd_ne (Nat.ne_of_gt hlt), upd_ne (Nat.ne_of_gt (Nat.lt_of_lt_of_le hPs big))]
    exact I.hok.fresh big
  · obtain ⟨c', rfl, hco⟩ := ha pos cv hc
    refine PySem.W.kla_makeFunctionHit (mg := X.mg) (c := c) (P := P) (ps := ps) (closure_ok hfree) I.ok.glob gl hcode cd oP ht hc bP fun ctv h' tk hx hsz => ?_
    obtain ⟨n1, n2, n3⟩ := nfr _ hsz
    exact h h'.objs.size c' _ ctv H _ (I.kept fun b o e => Heap.get?_push_of_some _ (hx b o e)) (Made.refl H) (Heap.get?_push_size _ rfl) (I.hok.fresh hsz) n1 n2 n3 hco
end
end Ev
set_option maxHeartbeats 2000000
set_option maxRecDepth 100000
/-! What a key's body computes: whole numbers, or two of them. -/
namespace Ev
open PySem PySem.Spec PyProof.Rows L2
variable [Tb]

/-- a whole number told of the parameter, also a whole number -/
inductive KA where
  | prm
  | cst (i : Int)
  | neg (a : KA)
  | sub (a b : KA)
  | at (i : Nat)
/-- what a key is -/
inductive KK where
  | one (a : KA)
  | two (a b : KA)
section
variable {K : PySem.W.Frag} {σ : L2.St} {H : Hp} {u : Int}
/-- what it computes over the maker's frame -/
def kaV (K : PySem.W.Frag) (σ : L2.St) (H : Hp) (u : Int) : KA → Int → Prop
  | .prm, m => m = u
  | .cst i, m => m = i
  | .neg a, m => ∃ x, kaV K σ H u a x ∧ m = -x
  | .sub a b, m => ∃ x y, kaV K σ H u a x ∧ kaV K σ H u b y ∧ m = x - y
  | .at i, m => ∃ a vs, σ[i]? = some (some (.ref a)) ∧ (SqL K H a vs ∨ SqT K H a vs) ∧ atI vs u = some (.int m)
def kkV (K : PySem.W.Frag) (σ : L2.St) (H : Hp) (u : Int) : KK → D → Prop
  | .one a, d => ∃ m, kaV K σ H u a m ∧ d = .int m
  | .two a b, d => ∃ m n, kaV K σ H u a m ∧ kaV K σ H u b n ∧ d = .tuple [.int m, .int n]
end
/-- how it is written -/
def kaE (N : List Str) (SC : Scope) (p : Str) : KA → Expr → Bool
  | .prm, e => (match e with
    | .Name x _ => decide (x = p)
    | _ => false)
  | .cst i, e => (match e with
    | .Constant (.int j) _ _ => decide (i = j)
    | _ => false)
  | .neg a, e => (match e with
    | .UnaryOp .USub e _ => kaE N SC p a e
    | _ => false)
  | .sub a b, e => (match e with
    | .BinOp l .Sub r _ => kaE N SC p a l && kaE N SC p b r
    | _ => false)
  | .at i, e => (match e with
    | .Subscript (.Name x _) (.Name y _) _ => decide (N[i]? = some x) && decide (SC.names.lookup x = some .free) && nmOk x && decide (y = p)
    | _ => false)
def kkE (N : List Str) (SC : Scope) (p : Str) : KK → Expr → Bool
  | .one a, e => kaE N SC p a e
  | .two a b, e => (match e with
    | .Tuple [x, y] _ _ => kaE N SC p a x && kaE N SC p b y
    | _ => false)
theorem kaE_star {N : List Str} {SC : Scope} {p : Str} {a : KA} {e : Expr} (h : kaE N SC p a e = true) : ∀ x q, e ≠ .Starred x q := fun x q z => by subst z; cases a <;> simp [kaE] at h

/-- the lambda's frame as it runs: the parameter is u -/
structure KS (K : PySem.W.Frag) (N : List Str) (SC : Scope) (p : Str) (σ : L2.St) (H : Hp) (u : Int) (env : Env) (h : Heap) : Prop where
  hk : env.scope.kind = .function
  sc : env.scope = SC
  nm : nmOk p = true
  lc : SC.names.lookup p = some .local
  own : ∃ m t, h.Ns env.locals m ∧ m p = some (.int u t)
  free : ∀ (i : Nat) (x : Str) (v : V), N[i]? = some x → σ[i]? = some (some v) → SC.names.lookup x = some .free → ∃ c w, env.cells.lookup x = some c ∧ RelV v w ∧ h.IsCell c (some w)
  seq : ∀ a vs, SqL K H a vs ∨ SqT K H a vs → ∃ its, Vals vs its ∧ SeqIs h a its
section
variable {K : PySem.W.Frag} {N : List Str} {SC : Scope} {p : Str} {σ : L2.St} {H : Hp} {u : Int} {env : Env} {h : Heap} {P : Program} {w : World} {A : Around}
theorem atI_vals {vs : List V} {its : List Value} {i : Int} {m : Int} (r : Vals vs its) (h : atI vs i = some (.int m)) : ∃ t, atI its i = some (.int m t) := by
  unfold atI at h ⊢
  rw [← r.length]
  simp only [Option.bind_eq_some_iff] at h ⊢
  obtain ⟨j, h1, h2⟩ := h
  obtain ⟨w, e, t, rfl⟩ := r.get h2
  exact ⟨t, j, h1, e⟩
theorem ka_prm (S : KS K N SC p σ H u env h) (pos : Pos) : Gv P w A env h (.Name p pos) (isI u) := fun s Q E k q => by
  obtain ⟨m, t, hn, hm⟩ := S.own
  exact gv_local S.hk (show env.scope.names.lookup p = some .local by rw [S.sc]; exact S.lc) hn hm (nm_facts S.nm).1 s Q E k fun v tk e => q v tk ⟨t, e⟩
theorem ka_run (S : KS K N SC p σ H u env h) : ∀ {a : KA} {e : Expr} {m : Int}, kaE N SC p a e = true → kaV K σ H u a m → Gv P w A env h e (isI m)
  | .prm, e, m, h1, h2 => by
    cases e <;> simp [kaE] at h1
    subst h1
    have h2 : m = u := h2
    subst h2
    exact ka_prm S _
  | .cst i, e, m, h1, h2 => by
    simp only [kaE] at h1
    split at h1
    case h_2 => cases h1
    have h1 := of_decide_eq_true h1
    subst h1
    have h2 : m = _ := h2
    subst h2
    exact gv_int
  | .neg a, e, m, h1, h2 => by
    simp only [kaE] at h1
    split at h1
    case h_2 => cases h1
    obtain ⟨x, h3, rfl⟩ := h2
    exact gv_neg (ka_run S h1 h3)
  | .sub a b, e, m, h1, h2 => by
    simp only [kaE] at h1
    split at h1
    case h_2 => cases h1
    simp only [Bool.and_eq_true] at h1
    obtain ⟨x, y, h3, h4, rfl⟩ := h2
    exact gv_sub (ka_run S h1.1 h3) (ka_run S h1.2 h4)
  | .at i, e, m, h1, h2 => by
    simp only [kaE] at h1
    split at h1
    case h_2 => cases h1
    simp only [Bool.and_eq_true, decide_eq_true_eq] at h1
    obtain ⟨⟨⟨n1, n2⟩, n3⟩, rfl⟩ := h1
    obtain ⟨a, vs, h3, h4, h5⟩ := h2
    obtain ⟨c, w, e1, e2, e3⟩ := S.free _ _ _ n1 h3 n2
    obtain ⟨m1, m2, _⟩ := nm_facts n3
    obtain ⟨its, r, hs⟩ := S.seq a vs h4
    obtain ⟨t, h6⟩ := atI_vals r h5
    have e2 : w = .ref a := e2
    subst e2
    intro s Q E k q
    exact gv_ix (gv_free S.hk (show env.scope.names.lookup _ = some .free by rw [S.sc]; exact n2) e1 e3 m1 m2) (ka_prm S _) hs (plain_ok rfl) h6 s Q E k fun v tk e => q v tk ⟨t, e⟩
end
end Ev
set_option maxHeartbeats 2000000
set_option maxRecDepth 100000
/-! A key told: a lambda called. -/
namespace Ev
open PySem PySem.Spec PyProof.Rows L2
variable [Tb]
section
variable {K : PySem.W.Frag} {N : List Str} {SC : Scope} {p : Str} {σ : L2.St} {H : Hp} {u : Int} {env : Env} {h : Heap} {P : Program} {w : World} {A : Around}
/-- what a key's telling leaves: the heap with new tuples -/
def KEnd (s : Shared) (d : D) (v : Value) (s' : Shared) : Prop :=
  ∃ h' tk more, s' = { s with heap := h', toks := tk } ∧ (∀ b o, s.heap.get? b = some o → h'.get? b = some o) ∧ (∀ p ∈ more, h'.get? p.1 = some p.2 ∧ s.heap.objs.size ≤ p.1 ∧ p.2.cls = .type "tuple") ∧ ∀ g, PySem.W.KeyIs g d v more
theorem kk_run (S : KS K N SC p σ H u env h) {k : KK} {e : Expr} {d : D} (h1 : kkE N SC p k e = true) (h2 : kkV K σ H u k d) {s : Shared} {E : Value → Shared → Prop} (hs : ∀ b o, h.get? b = some o → s.heap.get? b = some o) :
    wpAny (model P w) A (eval e env) (KEnd s d) E s := by
  cases k with
  | one a =>
    obtain ⟨m, h3, rfl⟩ := h2
    exact ka_run S h1 h3 s _ E hs fun v tk ⟨t, e⟩ => by
      subst e
      exact ⟨s.heap, tk, [], rfl, fun _ _ x => x, (fun q hq => nomatch hq), fun g => PySem.W.KeyIs.int _ _⟩
  | two a b =>
    obtain ⟨m, n, h3, h4, rfl⟩ := h2
    simp only [kkE] at h1
    split at h1
    case h_2 => cases h1
    rename_i x y z pos
    simp only [Bool.and_eq_true] at h1
    refine wpAny_Tuple_spliced ?_
    rw [star_no (kaE_star h1.1), star_no (kaE_star h1.2)]
    show wpAny _ _ (spliced [(false, eval x env), (false, eval y env)]) _ _ _
    refine Calls.spliced_cons (ka_run S h1.1 h3 s _ E hs fun v tk ⟨t, e⟩ => ?_)
    subst e
    refine Calls.spliced_cons (ka_run S h1.2 h4 _ _ E hs fun v2 tk2 ⟨t2, e2⟩ => ?_)
    subst e2
    refine Calls.spliced_nil ⟨by show 2 ≤ sizeLine; rw [sizeLine_eq]; omega, _, tk2, [(s.heap.objs.size, { cls := .type "tuple", data := .seq [Value.int m t, Value.int n t2].toArray })], rfl, fun b o x => Heap.get?_push_of_some _ x, fun q hq => ?_, fun g g' _ hm => ⟨_, .tuple (hm _ (.head _)) rfl rfl (.cons (.int _ _) (.cons (.int _ _) .nil))⟩⟩
    rw [List.mem_singleton.mp hq]
    exact ⟨Heap.get?_push_size _ rfl, Nat.le_refl _, rfl⟩
end
end Ev
set_option maxHeartbeats 2000000
set_option maxRecDepth 100000
/-! A key told: a lambda called from within sorted. -/
namespace Ev
open PySem PySem.Spec PyProof.Rows L2 LamX
variable [Tb]
theorem lam_bind {name qual p : Str} {an : Option Expr} {q : Pos} {body : Expr} {scope : Scope} {cl : List (Str × Addr)} {pm cdv ct v : Value} :
    bindArgs (PySem.W.kla_fn name qual ⟨[], [⟨p, an, q⟩], none, [], [], none, []⟩ body scope cl pm cdv ct) ⟨[v], []⟩ = pure [(p, v)] := by
  have h0 : seqItems? Value.none = pure none := rfl
  have hl : List.lookup p [(p, v)] = some v := by simp [List.lookup]
  unfold bindArgs
  simp only [h0, pure_bind, List.map_cons, List.map_nil, List.nil_append, List.length_cons, List.length_nil, List.zip_cons_cons, List.zip_nil_right]
  simp [hl]
/-- one parameter, no name of its own but it: captured ones and globals -/
structure LamP (sc scope : Scope) (p : Str) : Prop where
  kind : scope.kind = .function
  co : scope.isCoroutine = false
  gen : scope.isGenerator = false
  noc : ∀ y ∈ scope.names, y.2 ≠ .cell
  par : scope.names.lookup p = some .local
  nm : nmOk p = true
  free : ∀ y ∈ scope.names, y.2 = .free → sc.names.lookup y.1 = some .cell ∨ sc.names.lookup y.1 = some .free
def lamPB (sc scope : Scope) (p : Str) : Bool :=
  decide (scope.kind = .function) && !scope.isCoroutine && !scope.isGenerator && (scope.names.all fun y => !decide (y.2 = .cell) && (!decide (y.2 = .free) || decide (sc.names.lookup y.1 = some .cell) || decide (sc.names.lookup y.1 = some .free))) && decide (scope.names.lookup p = some .local) && nmOk p
theorem lamP_by {sc scope : Scope} {p : Str} (h : lamPB sc scope p = true) : LamP sc scope p := by
  unfold lamPB at h
  simp only [Bool.and_eq_true, Bool.or_eq_true, Bool.not_eq_true', decide_eq_true_eq, decide_eq_false_iff_not, List.all_eq_true] at h
  obtain ⟨⟨⟨⟨⟨h1, h2⟩, h3⟩, h4⟩, h5⟩, h6⟩ := h
  refine ⟨h1, h2, h3, fun y hy => (h4 y hy).1, h5, h6, fun y hy e => ?_⟩
  rcases (h4 y hy).2 with (z | z) | z
  · exact absurd e z
  · exact .inl z
  · exact .inr z
section
variable {X : Cx} {pins : List (Addr × Obj)} {σ : L2.St} {H : Hp} {s : Shared} {scope : Scope} {p : Str}
theorem LamP.has (L : LamP X.env.scope scope p) (ok : X.Ok) : ∀ y ∈ scope.names, y.2 = .free → ∃ c, X.env.cells.lookup y.1 = some c := fun y hy e => ok.has y.1 ((L.free y hy e).imp id id)
theorem LamP.cells (L : LamP X.env.scope scope p) (ok : X.Ok) {x : Str} (h : scope.names.lookup x = some .free) : ∃ c, X.env.cells.lookup x = some c ∧ (cloFrom X.env.cells scope.names []).lookup x = some c := by
  have hy : (x, NameKind.free) ∈ scope.names := PySem.mem_of_lookup h
  obtain ⟨c, hc⟩ := L.has ok _ hy rfl
  have hc : X.env.cells.lookup x = some c := hc
  obtain ⟨c2, h2⟩ := mem_lookup (cloFrom_has (cells := X.env.cells) (acc := []) hy)
  refine ⟨c, hc, ?_⟩
  rcases cloFrom_mem (PySem.mem_of_lookup h2) with z | ⟨_, z⟩
  · cases z
  · rw [h2, z, hc]; rfl
/-- all but the frame stands where the news stand -/
theorem kept_all {g h h' : Heap} {L : Addr} {m : Str → Option Value} {own : List (Addr × Obj)} (k : ∀ b o, g.get? b = some o → h.get? b = some o) (F : Fr g L h' m) (N : News g L h' (allNews g h L ++ own)) : ∀ b o, b ≠ L → h.get? b = some o → h'.get? b = some o := fun b o h1 e => by
  cases q : g.get? b with
  | some u =>
    have := k b u q
    rw [e] at this; cases this
    exact F.keep b _ q
  | none => exact (N (b, o) (List.mem_append_left _ (mem_allNews h1 q e))).1
theorem SeqIs.keepL {h h' : Heap} {L a : Addr} {its : List Value} {m : Str → Option Value} (x : SeqIs h a its) (hn : h.Ns L m) (k : ∀ b o, b ≠ L → h.get? b = some o → h'.get? b = some o) : SeqIs h' a its := by
  obtain ⟨oL, es, ep, e1, e2, _⟩ := hn
  refine ⟨x.at_.imp (fun z => ?_) (fun z => ?_), x.fit⟩
  · obtain ⟨o, e, r⟩ := z
    refine ⟨o, k _ _ (fun q => ?_) e, r⟩
    subst q
    rw [e1] at e; cases e
    obtain ⟨_, n, d⟩ := r
    rw [e2] at d; cases d
  · obtain ⟨o, e, r⟩ := z
    refine ⟨o, k _ _ (fun q => ?_) e, r⟩
    subst q
    rw [e1] at e; cases e
    obtain ⟨_, n, d⟩ := r
    rw [e2] at d; cases d
/-- the lambda's frame over the maker's -/
theorem lam_ks {u : Int} {t : Tok} {env : Env} {h₁ : Heap} (I : Inv X pins σ H s) (L : LamP X.env.scope scope p) (hsc : env.scope = scope) (hcl : env.cells = cloFrom X.env.cells scope.names []) (hns : h₁.Ns env.locals fun y => [(p, Value.int u t)].reverse.lookup y) (k : ∀ b o, b ≠ X.env.locals → s.heap.get? b = some o → h₁.get? b = some o) :
    KS X.K X.N scope p σ H u env h₁ := by
  obtain ⟨m, hn, hl⟩ := I.loc
  refine ⟨by rw [hsc]; exact L.kind, hsc, L.nm, L.par, ⟨_, t, hns, by simp [List.lookup]⟩, fun i x v e1 e2 e3 => ?_, fun a vs hq => ?_⟩
  · obtain ⟨c, c1, c2⟩ := L.cells I.ok e3
    have fr := L.free _ (PySem.mem_of_lookup e3) rfl
    have vis : Vis X.env.scope x := fr.elim (fun z => .inr (.inl z)) (fun z => .inr (.inr z))
    obtain ⟨w, r, q⟩ := hl i x v e1 e2 vis
    refine ⟨c, w, by rw [hcl]; exact c2, r, ?_⟩
    rcases q with ⟨z, _⟩ | ⟨_, c', z1, o, z2, z3⟩
    · have z : X.env.scope.names.lookup x = some .local := z
      rcases fr with fr | fr <;> (have fr : X.env.scope.names.lookup x = _ := fr; rw [z] at fr; cases fr)
    · rw [c1] at z1; cases z1
      exact ⟨o, k _ _ (I.cne x c c1) z2, z3⟩
  · rcases hq with hq | hq
    · obtain ⟨its, r, z, z2⟩ := I.list hq
      exact ⟨its, r, SeqIs.keepL ⟨.inl z.isList, by rw [← r.length]; exact z2⟩ hn k⟩
    · obtain ⟨its, r, z, z2⟩ := I.tuple hq
      exact ⟨its, r, SeqIs.keepL ⟨.inr z, by rw [← r.length]; exact z2⟩ hn k⟩
end
end Ev
set_option maxHeartbeats 2000000
set_option maxRecDepth 100000
/-! sorted by a lambda's keys. -/
namespace Ev
open PySem PySem.Spec PyProof.Rows L2 LamX
variable [Tb]
section
variable {X : Cx} {pins : List (Addr × Obj)} {σ : L2.St} {H : Hp} {s : Shared} {scope : Scope} {p : Str}
/-- the params of a lambda of one -/
abbrev par1 (p : Str) (an : Option Expr) (q : Pos) : Arguments := ⟨[], [⟨p, an, q⟩], none, [], [], none, []⟩
theorem key_turn {u : Int} {t : Tok} {f c' : Addr} {pm ctv : Value} {an : Option Expr} {q : Pos} {body : Expr} {kk : KK} {d : D} {m : Str → Option Value} {A : Around}
    (I : Inv X pins σ H s) (L : LamP X.env.scope scope p) (hf : s.heap.get? f = some (lamObj X (par1 p an q) body scope pm c' ctv)) (nf : f ≠ X.env.locals) (hc : H c' = some (CodeO c' (X.env.qual ++ "<lambda>"))) (hE : kkE X.N scope p kk body = true) (hV : kkV X.K σ H u kk d) (hroom : A.depth < recursionLimit)
    (h : Heap) (tk : Nat) (own : List (Addr × Obj)) (F : Fr X.base X.env.locals h m) (N : News X.base X.env.locals h (allNews X.base s.heap X.env.locals ++ own)) :
    wpAny (model X.prog X.w) A (call (.ref f) [.int u t]) (PySem.W.KeyEnd X.base X.env.locals m (allNews X.base s.heap X.env.locals ++ own) d { s with heap := h, toks := tk }) (fun _ _ => False) { s with heap := h, toks := tk } := by
  have kp := kept_all I.bk F N
  have ho : h.get? f = _ := kp f _ nf hf
  obtain ⟨⟨oc, vs, tq, hoc, hdc, hvc⟩, _, _⟩ := I.hok c' _ hc
  have ncL : c' ≠ X.env.locals := fun z => by rw [z, I.free] at hc; cases hc
  have rc : codeAny (model X.prog X.w) A (.call (.ref f) ⟨[.int u t], []⟩) (fun r s' => ∃ v, r = .ok (.ret v) ∧ PySem.W.KeyEnd X.base X.env.locals m (allNews X.base s.heap X.env.locals ++ own) d { s with heap := h, toks := tk } v s') { s with heap := h, toks := tk } := by
    refine PySem.W.kla_callFunE hroom ho rfl L.co L.gen rfl ⟨c', oc, vs, tq, rfl, kp _ _ ncL hoc, hdc, hvc⟩ ?_
    rw [lam_bind]
    refine wpAny_pure (wpAny_newFunctionEnv (fun y hy => L.noc y hy) (fun y hy => ?_) (fun h₁ hns hsb => ⟨(I.mod.nolimit.keeps F.keep).fresh _ hsb, ?_⟩) L.kind)
    · rw [List.mem_singleton.mp hy]; exact L.par
    · have k1 : ∀ b o, h.get? b = some o → h₁.get? b = some o := fun b o e => hsb.extBut b o (Nat.ne_of_lt (Heap.lt_size e)) (Heap.get?_push_of_some _ e)
      have S := lam_ks (env := newEnv scope h.objs.size mainGlobals (cloFrom X.env.cells scope.names []) (X.env.qual ++ "<lambda>" ++ ".<locals>.") (some f) (.ref c') none builtinsNs) (t := t) (u := u) (h₁ := h₁) I L rfl rfl hns fun b o hb e => k1 b o (kp b o hb e)
      refine PySem.W.kla_codeExpr (wpAny_mono (kk_run S hE hV (E := fun _ _ => False) fun _ _ x => x) (fun v s' hq => ?_) fun e s' hq => hq.elim)
      obtain ⟨h', tk', more, rfl, k2, hm, hk⟩ := hq
      have k3 : ∀ b o, h.get? b = some o → h'.get? b = some o := fun b o e => k2 b o (k1 b o e)
      have sz : h.objs.size < h₁.objs.size := hns.lt
      have Llt := F.ns.lt
      refine ⟨v, rfl, h', tk', more, rfl, hk _, fun p hp => (hm p hp).2.2, F.kept k3, fun p hp => ?_⟩
      rcases List.mem_append.mp hp with hp | hp
      · exact ⟨k3 _ _ (N p hp).1, (N p hp).2⟩
      · obtain ⟨a1, a2, a3⟩ := hm p hp
        have a2 : h₁.objs.size ≤ p.1 := a2
        have g1 : X.env.locals < p.1 := Nat.lt_of_lt_of_le Llt (Nat.le_trans (Nat.le_of_lt sz) a2)
        exact ⟨a1, Nat.ne_of_gt g1, Heap.get?_none_of_le (Nat.le_trans F.above (Nat.le_of_lt g1))⟩
  refine wpAny_call (codeAny_mono rc fun r s' hq => ?_)
  obtain ⟨v, rfl, hq⟩ := hq
  exact hq
end
end Ev
set_option maxHeartbeats 2000000
set_option maxRecDepth 100000
/-! sorted by a lambda's keys: the call. -/
namespace Ev
open PySem PySem.Spec PyProof.Rows L2 LamX
variable [Tb]
section
variable {prog : Program} {w : World} {A : Around} {E : Value → Shared → Prop} {s : Shared}
/-- what sorted gathers of it -/
def Gives (P : Program) (w : World) (l : Value) (xs : List V) (s : Shared) : Prop :=
  ∀ (A : Around) (E : Value → Shared → Prop) (Q : List Value → Shared → Prop), A.handled = none → (∀ h' tk its, (∀ b o, s.heap.get? b = some o → h'.get? b = some o) → Vals xs its → Q its { s with heap := h', toks := tk }) → wpAny (model P w) A (collect l) Q E s
open PySem.W in
theorem sortedK_run {h₀ : Heap} {L : Addr} {m : Str → Option Value} {news : List (Addr × Obj)} {l : Value} {f : Addr} {bs : List (V × D)} {Q : Value → Shared → Prop} (hA : A.handled = none) (F : Fr h₀ L s.heap m) (N : News h₀ L s.heap news) (hl : Gives prog w l (bs.map (·.1)) s)
    (hal : AllAlike (bs.map (·.2))) (hk : Sortable (bs.map (·.2))) (hL : bs.length ≤ sizeLine) (hu : ∀ b ∈ bs, A.units + 2 + (b.2).depth < cLine)
    (turn : ∀ (v : Value) (b : V × D), RelV b.1 v → b ∈ bs → ∀ (h : Heap) (tk : Nat) (own : List (Addr × Obj)), Fr h₀ L h m → News h₀ L h (news ++ own) →
      wpAny (model prog w) A.in1.in1 (call (.ref f) [v]) (KeyEnd h₀ L m (news ++ own) b.2 { s with heap := h, toks := tk }) (fun _ _ => False) { s with heap := h, toks := tk })
    (h : ∀ (r : Addr) (out : List Value) (c : Nat) (h' : Heap) (tk : Nat), Fr h₀ L h' m → News h₀ L h' ((r, seqObj "list" (List.toArray out) c) :: news) → s.heap.get? r = none → EachIs (fun v (b : V × D) => RelV b.1 v) out (bs.mergeSort (dataLe false (·.2))) → Q (.ref r) { s with heap := h', toks := tk }) :
    wpAny (model prog w) A (call (.builtin "sorted") [l] [(Str.ofString "key", .ref f)]) Q E s := by
  refine call_function_entry_kw kind_sorted plain_sorted entry_sorted (ksk_s1 _ _) ?_
  unfold Builtin.«sorted»
  refine wpAny_bind (m := checkCount "sorted" 1 1 _) (wpAny_pure ?_)
  refine wpAny_bind (hl _ _ _ hA fun h' tk vs k rv => ?_)
  have e := each_vals rv
  have hL : vs.length ≤ sizeLine := by rw [e.length]; exact hL
  refine wpAny_bind (wpAny_newList ?_ hL)
  have Lt' : L < h'.objs.size := (F.kept k).ns.lt
  have nw : ∀ b o, s.heap.get? b = some o → b ≠ h'.objs.size := fun b o e => Nat.ne_of_lt (Heap.lt_size (k b o e))
  have n0 : s.heap.get? h'.objs.size = none := by
    cases q : s.heap.get? h'.objs.size with
    | none => rfl
    | some o => exact absurd rfl (nw _ _ q)
  have kp : ∀ b o, s.heap.get? b = some o → (h'.push (seqObj "list" vs.toArray 0)).get? b = some o := fun b o e => Heap.get?_push_of_some _ (k b o e)
  refine wpAny_bind (wpAny_holding (wpAny_call_entry_kw slot_list_sort ⟨_, Heap.get?_push_size _ rfl, rfl⟩ entry_list_sort ?body (ksk_l1 _ _)))
  case body =>
    rw [ksk_t1]
    have ha0 : h₀.get? h'.objs.size = none := Heap.get?_none_of_le (Nat.le_trans F.above (Nat.le_of_lt Lt'))
    refine key_tree (kz := bs.map (·.2)) (vs := vs) (news := news) (h₀ := h₀) (L := L) (m := m) (F.kept kp) (fun p hp => ⟨kp _ _ (N p hp).1, (N p hp).2⟩) (Heap.get?_push_size _ rfl) (Nat.ne_of_gt Lt') ha0 (fun p hp => nw _ _ (N p hp).1) (by rw [List.length_map]; exact e.length.symm) hL hal hk (bound_map (A := A.in1.in1) hu) (key_turns e turn) fun h2 tk2 out c F2 N2 ko => ?_
    exact ⟨_, rfl, wpAny_pure ⟨_, rfl, h _ out c h2 tk2 F2 N2 n0 (keyedOut_each _ ko e)⟩⟩
end
end Ev
set_option maxHeartbeats 2000000
set_option maxRecDepth 100000
/-! sorted by a lambda's keys: the expression. -/
namespace Ev
open PySem PySem.Spec PyProof.Rows L2 LamX
variable [Tb]
theorem rd_made {H H1 : Hp} {a : Addr} {o : HO} (m : Made H H1) (h : Rd H a o) (n : ∀ ps, o ≠ .tbl ps) : Rd H1 a o := by
  rcases h with h | ⟨u, h⟩
  · exact .inl (m.ext _ _ h n)
  · exact .inr ⟨u, m.ext _ _ h fun _ z => by cases z⟩
theorem sqL_made {K : PySem.W.Frag} {H H1 : Hp} {a : Addr} {xs : List V} (m : Made H H1) (h : SqL K H a xs) : SqL K H1 a xs := h.imp (fun z => rd_made m z fun _ q => by cases q) id
theorem sqT_made {K : PySem.W.Frag} {H H1 : Hp} {a : Addr} {xs : List V} (m : Made H H1) (h : SqT K H a xs) : SqT K H1 a xs := h.imp (fun z => rd_made m z fun _ q => by cases q) id
abbrev TK := L2.St → Hp → (List V → Hp → Prop) → Prop
/-- what sorted gets: its things, also when a lambda has been made -/
structure ArgK (X : Cx) (e : Expr) (t : TK) : Prop where
  run : ∀ (pins : List (Addr × Obj)) (s : Shared) (σ : L2.St) (H : Hp) (Q : List V → Hp → Prop), Inv X pins σ H s → t σ H Q →
    wpAny (model X.prog X.w) X.A (eval e X.env) (fun l s1 => ∃ pins' xs H1, Inv X (pins' ++ pins) σ H1 s1 ∧ Q xs H1 ∧ ∀ H2 s2, Made H1 H2 → Inv X (pins' ++ pins) σ H2 s2 → Gives X.prog X.w l xs s2) X.xe s
section
variable {X : Cx} {e : Expr}
theorem gives_seq {pins : List (Addr × Obj)} {σ : L2.St} {H : Hp} {s : Shared} {a : Addr} {xs : List V} (I : Inv X pins σ H s) (h : SqL X.K H a xs ∨ SqT X.K H a xs) : Gives X.prog X.w (.ref a) xs s := by
  intro A E Q hA hQ
  rcases h with h | h
  · obtain ⟨its, r, z, z2⟩ := I.list h
    rw [r.length] at z2
    refine PyProof.Rows.collect_list z.isList ?_ z2
    exact hQ _ s.toks its (fun b o e => (Heap.get?_update_ne _ _ _ _ (Nat.ne_of_lt (Heap.lt_size e))).trans (Heap.get?_push_of_some _ e)) r
  · obtain ⟨its, r, z, z2⟩ := I.tuple h
    rw [r.length] at z2
    refine collect_tup z ?_ z2
    exact hQ _ s.toks its (fun b o e => (Heap.get?_update_ne _ _ _ _ (Nat.ne_of_lt (Heap.lt_size e))).trans (Heap.get?_push_of_some _ e)) r
def tArgV (K : PySem.W.Frag) (te : TE) : TK := fun σ H Q => te σ H fun x H1 => ∃ a xs, x = .ref a ∧ (SqL K H1 a xs ∨ SqT K H1 a xs) ∧ Q xs H1
theorem argk_val {te : TE} (h : PE X e te) : ArgK X e (tArgV X.K te) := ⟨fun pins s σ H Q I ht => by
  refine thn (h.run pins s σ H _ I ht) fun l s1 ⟨x, H1, I1, r1, q1⟩ => ?_
  obtain ⟨a, xs, rfl, hq, q⟩ := q1
  have r1 : l = .ref a := r1
  subst r1
  exact ⟨[], xs, H1, I1, q, fun H2 s2 m I2 => gives_seq I2 (hq.imp (sqL_made m) (sqT_made m))⟩⟩
def tArgR (te : TE) : TK := fun σ H Q => te σ H fun x H1 => ∃ n, x = .int n ∧ RgOk 0 n ∧ Q (rgV 0 n) H1
theorem argk_rng {a : Expr} {ta : TE} {p pos : Pos} (hg : Gl X "range") (hm : X.mg "range" = none) (ha : PE X a ta) (na : starEach [a] X.env = (false, eval a X.env) :: starEach [] X.env) : ArgK X (.Call (.Name "range" p) [a] [] pos) (tArgR ta) := ⟨fun pins s σ H Q I h => by
  refine Call_ (ld_blt I hg hm boot_range (PyProof.Rows.callWith_type1 (one_arg ha I h (fun v s2 x H2 I2 r q => ?_) na) na))
  obtain ⟨n, rfl, ok, q⟩ := q
  obtain ⟨t, rfl⟩ := r
  have lt := I2.lt
  have I3 : Inv X pins σ H2 { s2 with heap := s2.heap.push { cls := .type "range", data := .fields #[.int 0 s2.toks, .int n t, .int 1 (s2.toks + 1)] }, toks := s2.toks + 1 + 1 } := I2.kept fun b u e => Heap.get?_push_of_some _ e
  refine call_range_1 ⟨[(s2.heap.objs.size, { cls := .type "range", data := .fields #[.int 0 s2.toks, .int n t, .int 1 (s2.toks + 1)] })], rgV 0 n, H2, I3.pins_of (fun p hp => ?_), q, fun H4 s4 m I4 A E Q2 hA hQ => ?_⟩
  · rcases List.mem_append.mp hp with hp | hp
    · rw [List.mem_singleton.mp hp]
      exact ⟨Heap.get?_push_size _ rfl, I2.hok.fresh (Nat.le_refl _), Nat.ne_of_gt lt, I2.nofs (Nat.le_refl _), fun v z => by cases z⟩
    · exact I3.pin p (List.mem_append_right _ hp)
  · have hr := (I4.pin _ (List.mem_append_right _ (List.mem_append_left _ (List.mem_singleton.mpr rfl)))).1
    obtain ⟨b1, b2, b3, b4, b5⟩ := ok
    refine collect_range hA (r := s2.heap.objs.size) (a := 0) (b := n) (c := 1) (n := (n - 0).toNat) hr (small_one b1 b2 b3 b4) (rangeSize_nat 0 n) b5 fun h' tk acc hk hi => ?_
    exact hQ h' tk acc.toList hk (vals_rg hi)⟩
end
end Ev
set_option maxHeartbeats 2000000
set_option maxRecDepth 100000
/-! sorted by a lambda's keys: the rule. -/
namespace Ev
open PySem PySem.Spec PyProof.Rows L2 LamX
variable [Tb]
section
variable {X : Cx} {pins : List (Addr × Obj)} {σ : L2.St} {H : Hp} {s : Shared}
theorem Inv.drop {p2 : List (Addr × Obj)} (I : Inv X (p2 ++ pins) σ H s) : Inv X pins σ H s := I.pins_of fun p hp => I.pin p (List.mem_append_right _ (List.mem_append_right _ hp))
/-- all but the frame kept, the frame's names as they were, a new list tracked -/
theorem inv_news {r : Addr} {xs : List V} {out : List Value} {c tk : Nat} {h' : Heap} {m : Str → Option Value} (I : Inv X pins σ H s) (Fm : s.heap.Ns X.env.locals m) (F : Fr X.base X.env.locals h' m) (N : News X.base X.env.locals h' ((r, seqObj "list" (List.toArray out) c) :: allNews X.base s.heap X.env.locals))
    (hr : s.heap.get? r = none) (rv : Vals xs out) (hz : xs.length ≤ sizeLine) : Inv X pins σ (upd H r (.lst xs)) { s with heap := h', toks := tk } := by
  have kp : ∀ b o, b ≠ X.env.locals → s.heap.get? b = some o → h'.get? b = some o := kept_all (own := []) I.bk F (by rw [List.append_nil]; exact fun p hp => N p (List.mem_cons_of_mem _ hp))
  have hn : H r = none := HOk.gone I.hok hr
  have ne : ∀ b o, s.heap.get? b = some o → b ≠ r := fun b o e z => by rw [z, hr] at e; cases e
  have nh : ∀ b u, H b = some u → b ≠ r := fun b u e => ne_of_none e hn
  have nl : ∀ b u, H b = some u → b ≠ X.env.locals := fun b u e z => by rw [z, I.free] at e; cases e
  refine I.step (g' := s.gens) (d' := s.drawn) (ch := []) (fun b hb => absurd hb (by simp)) (fun b o hb _ _ e _ => kp b o hb e) (fun b o hb _ _ e _ => ⟨o.slots, kp b o hb e⟩) (fun b o _ e n => by rw [upd_ne (ne b o e)]; exact n) (fun b o _ e => ?_)
    (fun b xs e => by rw [upd_ne (nh b _ e)]; exact e) (fun b o u e => by rw [upd_ne (nh b _ e)]; exact e) (fun b ps e => ⟨#[], by rw [upd_ne (nh b _ e), e]; simp⟩) (fun m' hm => ?_) (fun b u e => ?_) I.bare
  · by_cases hb : b = X.env.locals
    · obtain ⟨oL, _, _, e1, _⟩ := F.ns
      exact ⟨oL, by rw [hb]; exact e1⟩
    · exact ⟨o, kp b o hb e⟩
  · rw [SlX.ns_only hm Fm]; exact F.ns
  · by_cases hb : b = r
    · rw [hb, upd_same] at e
      cases e
      rw [hb]
      exact ⟨hz, out, c, rv, (N _ (.head _)).1⟩
    · rw [upd_ne hb] at e
      refine (I.hok b u e).stay (fun d v hd q => kp d v ?_ q) (fun d q => by rw [upd_ne (nh d _ q)]; exact q) fun d xs q => by rw [upd_ne (nh d _ q)]; exact q
      rcases hd with z | z
      · rw [z]; exact nl b u e
      · exact nl d _ z
end
end Ev
set_option maxHeartbeats 2000000
set_option maxRecDepth 100000
/-! sorted by a lambda's keys: the rule as an expression's reading. -/
namespace Ev
open PySem PySem.Spec PyProof.Rows L2 LamX
variable [Tb]
def tSortk (K : PySem.W.Frag) (kk : KK) (t : TK) : TE := fun σ H Q => t σ H fun xs H1 => Tabs Tb.T H1 ∧ ∀ H2, Made H1 H2 → ∃ ps : List (V × D), xs = ps.map (·.1) ∧ (∀ b ∈ ps, ∃ u, b.1 = .int u ∧ kkV K σ H2 u kk b.2) ∧
  PySem.W.AllAlike (ps.map (·.2)) ∧ PySem.W.Sortable (ps.map (·.2)) ∧ (∀ b ∈ ps, (b.2).depth ≤ 20) ∧ ps.length ≤ sizeLine ∧ ∀ r, H2 r = none → Q (.ref r) (upd H2 r (.lst ((ps.mergeSort (PySem.W.dataLe false (·.2))).map (·.1))))
theorem pe_sortk {X : Cx} {t : TK} {it body : Expr} {p : Str} {an : Option Expr} {q lp kp p0 pos : Pos} {scope : Scope} {kk : KK} (hA : X.A.handled = none) (hr : X.A.depth < recursionLimit) (hu : X.A.units + 64 < cLine) (hg : Gl X "sorted") (hm : X.mg "sorted" = none) (ha : ArgK X it t)
    (na : starEach [it] X.env = (false, eval it X.env) :: starEach [] X.env) (M : Mk X) (L : LamP X.env.scope scope p) (hE : kkE X.N scope p kk body = true) :
    PE X (.Call (.Name "sorted" p0) [it] [⟨some "key", .Lambda (par1 p an q) body scope lp, kp⟩] pos) (tSortk X.K kk t) := by
  refine ⟨fun pins s σ H Q I h => ?_⟩
  obtain ⟨c, P, TB, hcode, hmT, huT⟩ := M
  refine wpAny_Call_Name_kw (ld_blt I hg hm (show bootBuiltins "sorted" = some (.builtin "sorted") by decide +kernel) ?_)
  refine PyProof.Rows.callWith_kw (rest := []) ?_ (by rw [na]; rfl) (by rw [na]; rfl) rfl rfl
  rw [na]
  show wpAny _ _ (spliced [(false, eval it X.env)]) _ _ _
  refine Calls.spliced_cons (thn (ha.run pins s σ H _ I h) fun l s1 ⟨pins', xs, H1, I1, ⟨hT, q1⟩, g⟩ => Calls.spliced_nil ?_)
  show wpAny _ _ (evalAll [do let v ← eval (.Lambda (par1 p an q) body scope lp) X.env; standAt pos; pure v]) _ _ _
  refine wpAny_evalAll_cons (wpAny_bind (lam_mk I1 TB hcode hmT huT hT rfl (L.has I1.ok) fun f c' pm ctv H2 s2 I2 md hf nf nfr nL nb hco => wpAny_bind (wpAny_standAt (wpAny_pure (wpAny_evalAll_nil ?_)))))
  show wpAny _ _ (call (.builtin "sorted") [l] [(Str.ofString "key", .ref f)]) _ _ _
  obtain ⟨ps, rfl, hk, al, so, dp, ln, q2⟩ := q1 H2 md
  obtain ⟨m, F⟩ := I2.fr
  refine sortedK_run (bs := ps) hA F news_all (g H2 s2 md I2) al so ln (fun b hb => by have := dp b hb; omega) (fun v b rv hb h tk own F2 N2 => ?_) fun r out c h' tk F2 N2 hr2 e => ?_
  · obtain ⟨u, e1, e2⟩ := hk b hb
    rw [e1] at rv
    obtain ⟨t, rfl⟩ := rv
    exact key_turn I2 L hf nL hco hE e2 (show X.A.in1.in1.depth < recursionLimit from hr) h tk own F2 N2
  · exact ⟨.ref r, _, inv_news (Inv.drop I2) F.ns F2 N2 hr2 (vals_each e) (by rw [List.length_map, List.length_mergeSort]; exact ln), rfl, q2 r (HOk.gone I2.hok hr2)⟩
end Ev
set_option maxHeartbeats 2000000
set_option maxRecDepth 100000
/-! sorted by a lambda's keys: what the evaluator says of the keys. -/
namespace Ev
open PySem PySem.Spec PyProof.Rows L2 LamX
variable [Tb]
/-- a key's body in the evaluator's tongue: v is the parameter's slot; x[v] is told as x[v] - 0 (so it is a whole number) -/
def exOf (v : Nat) : KA → Ex
  | .prm => .var v
  | .cst i => .cst (.int i)
  | .neg a => .prim .neg [exOf v a]
  | .sub a b => .prim .sub [exOf v a, exOf v b]
  | .at i => .prim .sub [.prim .idx [.var i, .var v], .cst (.int 0)]
def kxOf (v : Nat) : KK → Ex
  | .one a => exOf v a
  | .two a b => .tup [exOf v a, exOf v b]
def kaOf (v : Nat) : Nat → Ex → Option KA
  | 0, _ => none
  | n + 1, ex => match ex with
    | .var i => if i = v then some .prm else none
    | .cst (.int i) => some (.cst i)
    | .prim .neg [a] => (kaOf v n a).map .neg
    | .prim .sub [.prim .idx [.var i, .var j], .cst (.int z)] => if j = v ∧ z = 0 then some (.at i) else none
    | .prim .sub [a, b] => (kaOf v n a).bind fun x => (kaOf v n b).map fun y => .sub x y
    | _ => none
def kkOf (v : Nat) (n : Nat) (ex : Ex) : Option KK := match ex with
  | .tup [a, b] => (kaOf v n a).bind fun x => (kaOf v n b).map fun y => .two x y
  | ex => (kaOf v n ex).map .one
theorem kaOf_eq {v : Nat} : ∀ {n : Nat} {ex : Ex} {ka : KA}, kaOf v n ex = some ka → ex = exOf v ka := by
  intro n
  induction n with
  | zero => intro ex ka h; cases h
  | succ n ih =>
    intro ex ka h
    unfold kaOf at h
    split at h
    · split at h
      · rename_i q; subst q; cases h; rfl
      · cases h
    · cases h; rfl
    · simp only [Option.map_eq_some_iff] at h
      obtain ⟨a, h1, rfl⟩ := h
      rw [ih h1]; rfl
    · split at h
      · rename_i q; obtain ⟨rfl, rfl⟩ := q; cases h; rfl
      · cases h
    · simp only [Option.bind_eq_some_iff, Option.map_eq_some_iff] at h
      obtain ⟨a, h1, b, h2, rfl⟩ := h
      rw [ih h1, ih h2]; rfl
    · cases h
theorem kkOf_eq {v n : Nat} {ex : Ex} {kk : KK} (h : kkOf v n ex = some kk) : ex = kxOf v kk := by
  unfold kkOf at h
  split at h
  · simp only [Option.bind_eq_some_iff, Option.map_eq_some_iff] at h
    obtain ⟨a, h1, b, h2, rfl⟩ := h
    rw [kaOf_eq h1, kaOf_eq h2]; rfl
  · simp only [Option.map_eq_some_iff] at h
    obtain ⟨a, h1, rfl⟩ := h
    exact kaOf_eq h1
def hasAt : KA → Bool
  | .at _ => true
  | .neg a => hasAt a
  | .sub a _ => hasAt a
  | _ => false
def kkAt : KK → Bool
  | .one a => hasAt a
  | .two a _ => hasAt a
/-- what it computes over the evaluator's frame -/
def kaD (e : En) (u : Int) : KA → Int → Prop
  | .prm, m => m = u
  | .cst i, m => m = i
  | .neg a, m => ∃ x, kaD e u a x ∧ m = -x
  | .sub a b, m => ∃ x y, kaD e u a x ∧ kaD e u b y ∧ m = x - y
  | .at i, m => ∃ s, getS e i = some s ∧ pIdx s.d (.int u) = some (.int m)
def kkD (e : En) (u : Int) : KK → D → Prop
  | .one a, d => ∃ m, kaD e u a m ∧ d = .int m
  | .two a b, d => ∃ m n, kaD e u a m ∧ kaD e u b n ∧ d = .tuple [.int m, .int n]
section
variable {C : FS} {v : Nat}
theorem finish_int {p : Pm} {os : List Od} {e : En} {m : Int} {r : Rs} (h : finish p os e (.int m) = some r) : r = ⟨.int m, true, e⟩ := by
  simp [finish, imm] at h
  exact h.symm
theorem asI_some {d : D} {m : Int} (h : asI d = some m) : d = .int m := by
  cases d <;> simp [asI] at h
  subst h; rfl
theorem var_od {i : Nat} {e : En} {q : List Od × En} (h : evOs C [.var i] e = some q) {s : Sl} (hs : getS e i = some s) {u : Int} (hu : s.d = .int u) : q = ([.tmp (.int u) true], e) := by
  simp only [evOs, hs, Option.bind_some, Option.map_some, Option.some.injEq] at h
  rw [← h, hu]; rfl
theorem at_ev {i : Nat} {e : En} {r : Rs} {s : Sl} (h : evE C (.prim .idx [.var i, .var v]) e = some r) (hs : getS e v = some s) : ∃ si, getS e i = some si ∧ pIdx si.d s.d = some r.d ∧ ∀ m, r.d = .int m → r = ⟨.int m, true, e⟩ := by
  simp only [evE, Option.bind_eq_some_iff] at h
  obtain ⟨q, h1, ds, h2, d, h3, h4⟩ := h
  simp only [evOs, Option.bind_eq_some_iff, Option.map_eq_some_iff] at h1
  obtain ⟨si, g1, q1, ⟨s2, g2, q2, g3, rfl⟩, rfl⟩ := h1
  rw [hs] at g2
  cases g2
  cases g3
  have f1 : ∀ {j : Nat} {t : Sl}, getS e j = some t → fetch e (if imm t.d then .tmp t.d true else .slot j) = some t.d := fun {j t} h => by
    split
    · rfl
    · simp [fetch, h]
  simp only [fetchAll, f1 g1, f1 hs, Option.bind_some, Option.map_some, Option.some.injEq] at h2
  subst h2
  have h3 : pIdx si.d s.d = some d := h3
  have ed : r.d = d := by
    unfold finish at h4
    split at h4
    · cases h4; rfl
    · simp only [Option.map_eq_some_iff] at h4
      obtain ⟨_, _, rfl⟩ := h4; rfl
  refine ⟨si, g1, by rw [ed]; exact h3, fun m hm => ?_⟩
  rw [ed] at hm
  subst hm
  exact finish_int h4
theorem ka_ev : ∀ (ka : KA) {e : En} {q : List Od × En} {s : Sl}, evOs C [exOf v ka] e = some q → getS e v = some s →
    (hasAt ka = true → ∃ u, s.d = .int u) ∧ ∀ u, s.d = .int u → ∃ m o, q = ([.tmp (.int m) o], e) ∧ kaD e u ka m
  | .prm, e, q, s, h, hs => ⟨fun z => (by cases z), fun u hu => ⟨u, true, var_od h hs hu, rfl⟩⟩
  | .cst i, e, q, s, h, hs => ⟨fun z => (by cases z), fun u hu => ⟨i, true, by
      have h : evOs C [.cst (.int i)] e = some q := h
      rw [evOs_ex (by intro j z; cases z)] at h
      simp only [evE, Option.map_some, Option.some.injEq] at h
      exact h.symm, rfl⟩⟩
  | .neg a, e, q, s, h, hs => by
    have h : evOs C [.prim .neg [exOf v a]] e = some q := h
    rw [evOs_ex (by intro j z; cases z)] at h
    simp only [evE, Option.bind_eq_some_iff, Option.map_eq_some_iff] at h
    obtain ⟨r, ⟨q1, h1, ds, h2, d, h3, h4⟩, rfl⟩ := h
    obtain ⟨k1, k2⟩ := ka_ev a h1 hs
    refine ⟨k1, fun u hu => ?_⟩
    obtain ⟨m, o, rfl, hm⟩ := k2 u hu
    simp only [fetchAll, fetch, Option.bind_some, Option.map_some, Option.some.injEq] at h2
    subst h2
    simp only [pm, pm1, asI, Option.map_some, Option.some.injEq] at h3
    subst h3
    rw [finish_int h4]
    exact ⟨-m, true, rfl, m, hm, rfl⟩
  | .sub a b, e, q, s, h, hs => by
    have h : evOs C [.prim .sub [exOf v a, exOf v b]] e = some q := h
    rw [evOs_ex (by intro j z; cases z)] at h
    simp only [evE, Option.bind_eq_some_iff, Option.map_eq_some_iff] at h
    obtain ⟨r, ⟨q1, h1, ds, h2, d, h3, h4⟩, rfl⟩ := h
    obtain ⟨o1, e1, os, g1, g2, g3⟩ := evOs_cons h1
    obtain ⟨o2, e2, g4⟩ := evOs_one g2
    obtain ⟨k1, k2⟩ := ka_ev a g1 hs
    refine ⟨k1, fun u hu => ?_⟩
    obtain ⟨m, o, k3, hm⟩ := k2 u hu
    simp only [Prod.mk.injEq, List.cons.injEq, and_true] at k3
    obtain ⟨rfl, rfl⟩ := k3
    obtain ⟨_, k4⟩ := ka_ev b g2 hs
    obtain ⟨n, o', k5, hn⟩ := k4 u hu
    simp only [Prod.mk.injEq, List.cons.injEq] at k5 g4
    obtain ⟨rfl, k6⟩ := k5
    rw [g3] at h2
    simp only [fetchAll, fetch, Option.bind_some, Option.map_some, Option.some.injEq] at h2
    subst h2
    simp only [pm, pm2, asI, Option.bind_some, Option.map_some, Option.some.injEq] at h3
    subst h3
    rw [finish_int h4, k6]
    exact ⟨m - n, true, rfl, m, n, hm, hn, rfl⟩
  | .at i, e, q, s, h, hs => by
    have h : evOs C [.prim .sub [.prim .idx [.var i, .var v], .cst (.int 0)]] e = some q := h
    rw [evOs_ex (by intro j z; cases z)] at h
    rw [evE] at h
    simp only [Option.bind_eq_some_iff, Option.map_eq_some_iff] at h
    obtain ⟨r, ⟨q1, h1, ds, h2, d, h3, h4⟩, rfl⟩ := h
    obtain ⟨o1, e1, os, g1, g2, g3⟩ := evOs_cons h1
    rw [evOs_ex (by intro j z; cases z)] at g1 g2
    simp only [Option.map_eq_some_iff] at g1
    obtain ⟨r1, g1, g4⟩ := g1
    simp only [evE, Option.map_some, Option.some.injEq, Prod.mk.injEq, List.cons.injEq, and_true] at g2 g4
    obtain ⟨rfl, rfl⟩ := g4
    obtain ⟨rfl, g5⟩ := g2
    rw [g3] at h2
    simp only [fetchAll, fetch, Option.bind_some, Option.map_some, Option.some.injEq] at h2
    subst h2
    simp only [pm, pm2, Option.bind_eq_some_iff, Option.map_eq_some_iff, asI, Option.some.injEq] at h3
    obtain ⟨m, h5, _, rfl, rfl⟩ := h3
    have h5 := asI_some h5
    obtain ⟨si, w1, w2, w3⟩ := at_ev g1 hs
    rw [h5] at w2
    have w4 := w3 m h5
    subst w4
    refine ⟨fun _ => ?_, fun u hu => ?_⟩
    · unfold pIdx at w2
      split at w2
      · exact ⟨_, by assumption⟩
      · exact ⟨_, by assumption⟩
      · cases w2
    · rw [finish_int h4, ← g5]
      exact ⟨m - 0, true, rfl, si, w1, by rw [← hu, w2, Int.sub_zero]⟩
end
end Ev
set_option maxHeartbeats 2000000
set_option maxRecDepth 100000
/-! sorted by a lambda's keys: the evaluator's word is sound. -/
namespace Ev
open PySem PySem.Spec PyProof.Rows L2 LamX
variable [Tb]
section
variable {K : PySem.W.Frag} {B : Bd} {H H' : Hp} {n : Nat} {env : En} {σ : L2.St} {cs : Cs} {C : FS} {v : Nat}
theorem Gd.made (g : Gd K B H cs) (m : Made H H') : Gd K B H' cs where
  kp := g.kp.trans fun a o e _ t => m.ext a o e t
  tb := m.tabs g.tb
  al := fun a h => g.al a (m.al a h)
  rc := g.rc
  fp := fun k c e => (g.fp k c e).keeps (M := []) (fun a o e _ t => m.ext a o e t) fun _ _ z => by cases z
  wr := fun k c e a ha => by
    obtain ⟨h1, h2, h3⟩ := g.wr k c e a ha
    refine ⟨h1, ?_, h3⟩
    cases q : H a with
    | none => rw [q] at h2; exact h2.elim
    | some o =>
      rw [q] at h2
      rw [m.ext a o q fun ps z => by subst z; exact h2.elim]
      exact h2
  dis := g.dis
theorem Wd.made (w : Wd K B n env σ H cs) (m : Made H H') : Wd K B n env σ H' cs := ⟨w.gd.made m, w.mt, w.tm, w.len⟩
theorem Fp.int_eq {x : V} {u : Int} {F : List Addr} (h : Fp K H x (.int u) F) : x = .int u := by cases h; rfl
theorem kk_ev {kk : KK} {e : En} {r : Rs} {s : Sl} (h : evE C (kxOf v kk) e = some r) (hs : getS e v = some s) (ha : kkAt kk = true) : ∃ u, s.d = .int u ∧ kkD e u kk r.d := by
  cases kk with
  | one a =>
    have h : evE C (exOf v a) e = some r := h
    by_cases hv : ∃ i, exOf v a = .var i
    · obtain ⟨i, hv⟩ := hv
      cases a <;> simp [exOf] at hv
      cases ha
    · have h2 : evOs C [exOf v a] e = some ([.tmp r.d r.own], r.env) := by rw [evOs_ex (fun i z => hv ⟨i, z⟩), h]; rfl
      obtain ⟨k1, k2⟩ := ka_ev a h2 hs
      obtain ⟨u, hu⟩ := k1 ha
      obtain ⟨m, o, e1, hm⟩ := k2 u hu
      simp only [Prod.mk.injEq, List.cons.injEq, Od.tmp.injEq, and_true] at e1
      exact ⟨u, hu, m, hm, e1.1.1⟩
  | two a b =>
    have h : evE C (.tup [exOf v a, exOf v b]) e = some r := h
    simp only [evE, Option.bind_eq_some_iff, Option.map_eq_some_iff] at h
    obtain ⟨q, h1, z, h2, rfl⟩ := h
    obtain ⟨o1, e1, os, g1, g2, g3⟩ := evOs_cons h1
    obtain ⟨o2, e2, g4⟩ := evOs_one g2
    obtain ⟨k1, k2⟩ := ka_ev a g1 hs
    obtain ⟨u, hu⟩ := k1 ha
    obtain ⟨m, o, k3, hm⟩ := k2 u hu
    simp only [Prod.mk.injEq, List.cons.injEq, and_true] at k3
    obtain ⟨rfl, rfl⟩ := k3
    obtain ⟨_, k4⟩ := ka_ev b g2 hs
    obtain ⟨n, o', k5, hn⟩ := k4 u hu
    simp only [Prod.mk.injEq, List.cons.injEq] at k5 g4
    obtain ⟨rfl, k6⟩ := k5
    rw [g3] at h2
    simp only [gather, odOwn, Option.bind_some, Option.map_some, Option.some.injEq] at h2
    subst h2
    exact ⟨u, hu, m, n, hm, hn, rfl⟩
theorem ka_val {e : En} {x : D} {o : Bool} {u : Int} (w : Wd K B n env σ H cs) (he : store env v x o = some e) (hx : x = .int u) : ∀ {ka : KA} {m : Int}, kaD e u ka m → kaV K σ H u ka m
  | .prm, m, h => h
  | .cst i, m, h => h
  | .neg a, m, h => by
    obtain ⟨y, h1, h2⟩ := h
    exact ⟨y, ka_val w he hx h1, h2⟩
  | .sub a b, m, h => by
    obtain ⟨y, z, h1, h2, h3⟩ := h
    exact ⟨y, z, ka_val w he hx h1, ka_val w he hx h2, h3⟩
  | .at i, m, h => by
    obtain ⟨s, h1, h2⟩ := h
    unfold store at he
    split at he
    case isFalse => cases he
    rename_i hl
    cases he
    rw [getS_put hl] at h1
    by_cases q : i = v
    · rw [if_pos q] at h1
      cases h1
      rw [hx] at h2
      cases h2
    · rw [if_neg q] at h1
      obtain ⟨c, c1, c2, c3, _⟩ := w.mt.slot h1
      have fp := w.gd.fp _ _ c1
      rw [c3] at fp
      have fin : ∀ (a : Addr) (vs : List V) (ys : List D) (G : List Addr), FpAll K H vs ys G → ((atIx ys.length u).bind fun k => ys[k]?) = some (.int m) → atI vs u = some (.int m) := fun a vs ys G t h => by
        obtain ⟨k, k1, k2⟩ := pIdx_at h t.len
        obtain ⟨x, G', g1, g2, _⟩ := t.get k1
        rw [k2 x g1, g2.int_eq]
      generalize hd : s.d = d at h2 fp
      cases d with
      | list ys =>
        obtain ⟨a, us, Ga, e1, _, ra, ta⟩ := fp.list
        exact ⟨a, us, by rw [c2, e1], .inl (.inl ra), fin a us ys Ga ta h2⟩
      | tuple ys =>
        obtain ⟨a, us, e1, ra, ta⟩ := fp.tuple
        exact ⟨a, us, by rw [c2, e1], .inr ra, fin a us ys _ ta h2⟩
      | _ => cases h2
theorem kk_val {e : En} {x : D} {o : Bool} {u : Int} {kk : KK} {d : D} (w : Wd K B n env σ H cs) (he : store env v x o = some e) (hx : x = .int u) (h : kkD e u kk d) : kkV K σ H u kk d := by
  cases kk with
  | one a =>
    obtain ⟨m, h1, h2⟩ := h
    exact ⟨m, ka_val w he hx h1, h2⟩
  | two a b =>
    obtain ⟨m, n, h1, h2, h3⟩ := h
    exact ⟨m, n, ka_val w he hx h1, ka_val w he hx h2, h3⟩
theorem keys_val {kk : KK} (w : Wd K B n env σ H cs) (ha : kkAt kk = true) : ∀ {xs : List D} {us : List V} {F : List Addr} {ks : List (D × D)}, FpAll K H us xs F → keysOf v (evE C (kxOf v kk)) env xs = some ks →
    ∃ T : List (V × (D × D)), us = T.map (·.1) ∧ ks = T.map (·.2) ∧ ∀ t ∈ T, ∃ u, t.1 = .int u ∧ t.2.1 = .int u ∧ kkV K σ H u kk t.2.2
  | [], us, F, ks, f, h => by
    cases f
    cases h
    exact ⟨[], rfl, rfl, fun t ht => by cases ht⟩
  | x :: xs, us, F, ks, f, h => by
    cases f with
    | cons f1 f2 =>
      simp only [keysOf, Option.bind_eq_some_iff] at h
      obtain ⟨e, h1, r, h2, h3⟩ := h
      split at h3
      case isFalse => cases h3
      simp only [Option.map_eq_some_iff] at h3
      obtain ⟨ks', h4, rfl⟩ := h3
      obtain ⟨T, t1, t2, t3⟩ := keys_val w ha f2 h4
      have hs : ∃ s, getS e v = some s ∧ s.d = x := by
        unfold store at h1
        split at h1
        case isFalse => cases h1
        rename_i hl
        cases h1
        exact ⟨_, by rw [getS_put hl, if_pos rfl], rfl⟩
      obtain ⟨s, s1, s2⟩ := hs
      obtain ⟨u, u1, u2⟩ := kk_ev h2 s1 ha
      rw [s2] at u1
      refine ⟨(_, (x, r.d)) :: T, by rw [t1]; rfl, by rw [t2]; rfl, fun t ht => ?_⟩
      rcases List.mem_cons.mp ht with rfl | ht
      · refine ⟨u, ?_, u1, kk_val w h1 u1 u2⟩
        rw [u1] at f1
        exact f1.int_eq
      · exact t3 t ht
end
end Ev
set_option maxHeartbeats 2000000
set_option maxRecDepth 100000
/-! sorted by a lambda's keys: the expression is sound. -/
namespace Ev
open PySem PySem.Spec PyProof.Rows L2 LamX
variable [Tb]
section
variable {K : PySem.W.Frag} {B : Bd} {H1 : Hp} {n : Nat} {e1 : En} {σ : L2.St} {cs cs' : Cs} {C : FS} {v : Nat}
theorem flat_ints : ∀ {ks : List (D × D)}, (∀ k ∈ ks, ∃ u, k.1 = .int u) → immAll (ks.map (·.1)) = true
  | [], _ => rfl
  | k :: ks, h => by
    obtain ⟨u, hu⟩ := h k List.mem_cons_self
    simp only [List.map_cons, immAll, hu, imm, Bool.true_and]
    exact flat_ints fun k hk => h k (List.mem_cons_of_mem _ hk)
theorem fp_ints {H : Hp} : ∀ {T : List (V × (D × D))}, (∀ t ∈ T, ∃ u, t.1 = .int u ∧ t.2.1 = .int u) → FpAll K H (T.map (·.1)) (T.map (·.2.1)) []
  | [], _ => .nil
  | t :: T, h => by
    obtain ⟨u, h1, h2⟩ := h t List.mem_cons_self
    rw [List.map_cons, List.map_cons, h1, h2]
    exact .cons (F := []) (.int _) (fp_ints fun k hk => h k (List.mem_cons_of_mem _ hk))
theorem sortk_core {kk : KK} {o : Od} {x : V} {ds xs : List D} {ks : List (D × D)} {us : List V} {F : List Addr} {Q : VK} (w : Wd K B (n + tmpsN [o]) e1 σ H1 cs') (x' : Ext n cs cs') (v' : OdV cs' σ n o x) (h2 : fetchAll e1 [o] = some ds) (fa : FpAll K H1 us xs F)
    (h4 : keysOf v (evE C (kxOf v kk)) e1 xs = some ks) (hs : sortOk (ks.map (·.2)) = true) (ha : kkAt kk = true) (hq : PostE K B n cs σ ⟨.list (sortKD ks), true, e1⟩ Q) :
    Tabs Tb.T H1 ∧ ∀ H2, Made H1 H2 → ∃ ps : List (V × D), us = ps.map (·.1) ∧ (∀ b ∈ ps, ∃ u, b.1 = .int u ∧ kkV K σ H2 u kk b.2) ∧
      PySem.W.AllAlike (ps.map (·.2)) ∧ PySem.W.Sortable (ps.map (·.2)) ∧ (∀ b ∈ ps, (b.2).depth ≤ 20) ∧ ps.length ≤ sizeLine ∧ ∀ r, H2 r = none → Q (.ref r) (upd H2 r (.lst ((ps.mergeSort (PySem.W.dataLe false (·.2))).map (·.1)))) := by
  refine ⟨w.gd.tb, fun H2 md => ?_⟩
  have w2 := w.made md
  have fa2 : FpAll K H2 us xs F := fa.keeps (M := []) (fun a o e _ t => md.ext a o e t) fun _ _ z => by cases z
  obtain ⟨T, t1, t2, t3⟩ := keys_val w2 ha fa2 h4
  obtain ⟨f1, f2, f3, f4⟩ := sortOk_facts hs
  have ek : ks.map (·.2) = (T.map fun t => (t.1, t.2.2)).map (·.2) := by rw [t2, List.map_map, List.map_map]; rfl
  rw [ek] at f1 f2 f3 f4
  have fl : flat (.list (sortKD ks)) = true := by
    unfold sortKD
    refine flat_ints fun k hk => ?_
    have p2 := (List.mergeSort_perm ks _).mem_iff.mp hk
    rw [t2] at p2
    obtain ⟨t, q1, rfl⟩ := List.mem_map.mp p2
    obtain ⟨u, _, hu, _⟩ := t3 t q1
    exact ⟨u, hu⟩
  have hf : finish .sorted [o] e1 (.list (sortKD ks)) = some ⟨.list (sortKD ks), true, e1⟩ := by
    unfold finish
    rw [fl]
    rfl
  obtain ⟨J, _, hP⟩ := finish_ok (os := [o]) w2 x' (.cons v' .nil) h2 hf hq
  refine ⟨T.map fun t => (t.1, t.2.2), by rw [t1, List.map_map]; rfl, fun b hb => ?_, f1, f2, fun b hb => ?_, ?_, fun r hr => ?_⟩
  · obtain ⟨t, q1, rfl⟩ := List.mem_map.mp hb
    obtain ⟨u, a1, _, a3⟩ := t3 t q1
    exact ⟨u, a1, a3⟩
  · exact (chk_lay (chkAll_mem f3 (List.mem_map_of_mem hb))).2
  · rw [← List.length_map (f := (·.2))]; exact big_line f4
  · have m1 : (T.map fun t => (t.1, t.2.2)).mergeSort (PySem.W.dataLe false (·.2)) = (T.mergeSort (PySem.W.dataLe false (·.2.2))).map (fun t => (t.1, t.2.2)) := by
      refine (List.map_mergeSort (f := fun t : V × (D × D) => (t.1, t.2.2)) ?_).symm
      exact fun _ _ _ _ => rfl
    have m2 : ks.mergeSort (PySem.W.dataLe false (·.2)) = (T.mergeSort (PySem.W.dataLe false (·.2.2))).map (·.2) := by
      rw [t2]
      refine (List.map_mergeSort (f := fun t : V × (D × D) => t.2) ?_).symm
      exact fun _ _ _ _ => rfl
    have e1 : ((T.map fun t => (t.1, t.2.2)).mergeSort (PySem.W.dataLe false (·.2))).map (·.1) = (T.mergeSort (PySem.W.dataLe false (·.2.2))).map (·.1) := by rw [m1, List.map_map]; rfl
    have e2 : sortKD ks = (T.mergeSort (PySem.W.dataLe false (·.2.2))).map (·.2.1) := by unfold sortKD; rw [m2, List.map_map]; rfl
    rw [e1]
    rw [e2] at hP
    exact hP.lst (fp_ints (T := T.mergeSort (PySem.W.dataLe false (·.2.2))) fun t ht => by
      obtain ⟨u, a1, a2, _⟩ := t3 t ((List.mergeSort_perm T _).mem_iff.mp ht)
      exact ⟨u, a1, a2⟩) (fun a z => by cases z) hr
variable {X : Cx}
theorem se_sortkV {a body : Ex} {e : Expr} {kk : KK} {m : Nat} (hb : kkOf v m body = some kk) (ha : kkAt kk = true) (h : PE X e (tSortk X.K kk (tArgV X.K (tOd X.K C a)))) : SE X C (.sortk [a] false v body) e := PE_imp h fun σ H Q q => by
  obtain ⟨B, n, env, cs, r, w, h1, hq⟩ := q
  rw [kkOf_eq hb] at h1
  simp only [evE, Option.bind_eq_some_iff] at h1
  obtain ⟨⟨os, e1⟩, h1, ds, h2, xs, h3, ks, h4, h5⟩ := h1
  split at h5
  case isFalse => cases h5
  rename_i hc
  cases h5
  simp only [Bool.and_eq_true] at hc
  obtain ⟨o, e2, h6⟩ := evOs_one h1
  simp only [Prod.mk.injEq] at h6
  obtain ⟨rfl, rfl⟩ := h6
  refine ⟨B, n, env, cs, o, _, w, h1, fun x H1 cs' w' x' v' => ?_⟩
  have w'' : Wd X.K B (n + tmpsN [o]) e1 σ H1 cs' := by simpa [tmpsN] using w'
  obtain ⟨J, z, _⟩ := (OdsV.cons v' .nil).fp w'' h2
  have core : ∀ {us : List V} {F : List Addr}, FpAll X.K H1 us xs F → _ := fun {us F} fa => sortk_core (kk := kk) w'' x' v' h2 fa h4 hc.1 ha hq
  cases ds with
  | nil => cases h3
  | cons d ds =>
    cases ds with
    | cons _ _ => cases h3
    | nil =>
      cases z with
      | cons f1 _ =>
        have h3 : seqOf d = some xs := h3
        rcases seqOf_eq h3 with rfl | rfl
        · obtain ⟨ad, us, G, rfl, rfl, ra, ta⟩ := f1.list
          exact ⟨ad, us, rfl, .inl (.inl ra), core ta⟩
        · obtain ⟨ad, us, rfl, ra, ta⟩ := f1.tuple
          exact ⟨ad, us, rfl, .inr ra, core ta⟩
theorem se_sortkR {a body : Ex} {e : Expr} {kk : KK} {m : Nat} (hb : kkOf v m body = some kk) (ha : kkAt kk = true) (h : PE X e (tSortk X.K kk (tArgR (tOd X.K C a)))) : SE X C (.sortk [a] true v body) e := PE_imp h fun σ H Q q => by
  obtain ⟨B, n, env, cs, r, w, h1, hq⟩ := q
  rw [kkOf_eq hb] at h1
  simp only [evE, Option.bind_eq_some_iff] at h1
  obtain ⟨⟨os, e1⟩, h1, ds, h2, xs, h3, ks, h4, h5⟩ := h1
  split at h5
  case isFalse => cases h5
  rename_i hc
  cases h5
  simp only [Bool.and_eq_true] at hc
  obtain ⟨o, e2, h6⟩ := evOs_one h1
  simp only [Prod.mk.injEq] at h6
  obtain ⟨rfl, rfl⟩ := h6
  refine ⟨B, n, env, cs, o, _, w, h1, fun x H1 cs' w' x' v' => ?_⟩
  have w'' : Wd X.K B (n + tmpsN [o]) e1 σ H1 cs' := by simpa [tmpsN] using w'
  obtain ⟨J, z, _⟩ := (OdsV.cons v' .nil).fp w'' h2
  cases ds with
  | nil => cases h3
  | cons d ds =>
    cases ds with
    | cons _ _ => cases h3
    | nil =>
      cases z with
      | cons f1 _ =>
        have h3 : ((asI d).bind fun n => guardO (rgOk 0 n) (rangeD 0 n)) = some xs := h3
        simp only [Option.bind_eq_some_iff] at h3
        obtain ⟨k, k1, k2⟩ := h3
        obtain ⟨k3, rfl⟩ := guardO_some k2
        rw [asI_eq k1] at f1
        exact ⟨k, f1.int_v, rgOk_RgOk k3, sortk_core (kk := kk) w'' x' v' h2 (FpAll.rg 0 k) h4 hc.1 ha hq⟩
end
end Ev
set_option maxHeartbeats 2000000
set_option maxRecDepth 100000
/-! The checker: whether a text is what the small language says. -/
namespace Ev
open PySem PySem.Spec PyProof.Rows L2
variable [Tb]

def ckAll (f : Ex → Expr → Bool) : List Ex → List Expr → Bool
  | [], [] => true
  | a :: as, e :: es => f a e && noStar e && ckAll f as es
  | _, _ => false
def binP : Operator → Option Pm
  | .Add => some .add
  | .Sub => some .sub
  | .Mult => some .mul
  | .FloorDiv => some .fdiv
  | .Mod => some .mod
  | _ => none
def cmpP : CmpOp → Option Pm
  | .Lt => some .lt
  | .LtE => some .le
  | .Gt => some .gt
  | .GtE => some .ge
  | .Eq => some .eq
  | .NotEq => some .ne
  | .In => some .isin
  | .NotIn => some .notin
  | _ => none
def cstOk : D → Const → Bool
  | .none, .none => true
  | .bool a, .bool b => decide (a = b)
  | .int i, .int j => decide (i = j)
  | .str x, .str y => decide (x = y)
  | _, _ => false
def callTab : List (Str × Nat × Pm) :=
  [("len", 1, .len), ("abs", 1, .abs), ("sum", 1, .sum), ("max", 1, .maxL), ("min", 1, .minL), ("max", 2, .max2), ("min", 2, .min2), ("sorted", 1, .sorted), ("repr", 1, .repr), ("int", 1, .int), ("list", 1, .listOf), ("tuple", 1, .tupleOf)]
def ckSub (f : Ex → Expr → Bool) (p : Pm) (as : List Ex) (o s : Expr) : Bool := match as with
  | [a, b] => (match s with
    | .Slice (some l) none none _ => decide (p = .slLo) && f a o && f b l
    | .Slice none (some u) none _ => decide (p = .slHi) && f a o && f b u
    | .Slice _ _ _ _ => false
    | s => (decide (p = .idx) || decide (p = .idxD)) && plainIx s && f a o && f b s)
  | [a] => (match s with
    | .Slice none none (some (.UnaryOp .USub (.Constant (.int 1) _ _) _)) _ => decide (p = .rev) && f a o
    | _ => false)
  | _ => false
def ckCmp (f : Ex → Expr → Bool) (p : Pm) (as : List Ex) (l : Expr) (ops : List CmpOp) (rs : List Expr) : Bool := match ops, rs, as with
  | [op], [r], [a, b] => decide (cmpP op = some p) && !behindInMarks op r && f a l && f b r
  | [.Is], [.Constant .none _ _], [a] => decide (p = .isN) && f a l
  | [.IsNot], [.Constant .none _ _], [a] => decide (p = .notN) && f a l
  | _, _, _ => false
/-- list(range(n)) -/
def ckRg (G : Glo) (SC : Scope) (f : Ex → Expr → Bool) (p : Pm) (as : List Ex) (x : Str) (xs : List Expr) : Bool := match as, xs with
  | [a], [.Call (.Name y _) [e] [] _] => decide (y = ("range" : Str)) && okBn G SC y && okBn G SC x && noStar e && f a e && ((decide (x = ("list" : Str)) && decide (p = .listRg)) || (decide (x = ("tuple" : Str)) && decide (p = .tupRg)))
  | _, _ => false
def ckCall (G : Glo) (SC : Scope) (f : Ex → Expr → Bool) (p : Pm) (as : List Ex) (x : Str) (xs : List Expr) : Bool :=
  (if decide (p = .listRg) || decide (p = .tupRg) then ckRg G SC f p as x xs else okBn G SC x && !xs.isEmpty && decide ((x, xs.length, p) ∈ callTab) && ckAll f as xs)
def ckPrim (G : Glo) (SC : Scope) (f : Ex → Expr → Bool) (p : Pm) (as : List Ex) (e : Expr) : Bool := match e with
  | .BinOp l op r _ => (match as with
    | [a, b] => decide (binP op = some p) && f a l && f b r
    | _ => false)
  | .Compare l ops rs _ => ckCmp f p as l ops rs
  | .UnaryOp .USub o _ => (match as with
    | [a] => decide (p = .neg) && f a o
    | _ => false)
  | .Subscript o s _ => ckSub f p as o s
  | .Call (.Name x _) xs [] _ => ckCall G SC f p as x xs
  | _ => false
def ckBo (op : BoolOp) (f : Ex → Expr → Bool) : List Expr → Ex → Bool
  | [], _ => false
  | [y], b => f b y
  | y :: z :: ys, b => match op, b with
    | .And, .andE a b' => f a y && ckBo op f (z :: ys) b'
    | .Or, .orE a b' => f a y && ckBo op f (z :: ys) b'
    | _, _ => false
def okTgt (G : Glo) (SC : Scope) (top : Bool) (i : Nat) (x : Str) : Bool := decide (G.N[i]? = some x) && (decide (SC.names.lookup x = some .local) || (top && decide (SC.names.lookup x = some .cell)))
def ckNms (G : Glo) (SC : Scope) (top : Bool) : List Nat → List Expr → Bool
  | [], [] => true
  | i :: is, .Name x _ :: es => okTgt G SC top i x && ckNms G SC top is es
  | _, _ => false
def ckTg (G : Glo) (SC : Scope) (top : Bool) : Tg → Expr → Bool
  | .nm i, .Name x _ => okTgt G SC top i x
  | .tp is, .Tuple es _ _ => ckNms G SC top is es
  | _, _ => false
def isTupE : Expr → Bool
  | .Tuple _ _ _ => true
  | _ => false
def ckI (G : Glo) (SC : Scope) (f : Ex → Expr → Bool) (k : Ik) (its : List Ex) (tg it : Expr) : Bool := match k, its with
  | .seq, [a] => f a it && notSet it
  | .rng1, [a] => (match it with
    | .Call (.Name x _) [e] [] _ => decide (x = ("range" : Str)) && okBn G SC x && f a e && noStar e
    | _ => false)
  | .rng2, [a, b] => (match it with
    | .Call (.Name x _) [e, e2] [] _ => decide (x = ("range" : Str)) && okBn G SC x && f a e && noStar e && f b e2 && noStar e2
    | _ => false)
  | .enum, [a] => (match it with
    | .Call (.Name x _) [e] [] _ => decide (x = ("enumerate" : Str)) && okBn G SC x && f a e && noStar e && isTupE tg
    | _ => false)
  | .zip, [a, b] => (match it with
    | .Call (.Name x _) [e, e2] [] _ => decide (x = ("zip" : Str)) && okBn G SC x && f a e && noStar e && f b e2 && noStar e2 && isTupE tg
    | _ => false)
  | _, _ => false
def smK (G : Glo) (SC : Scope) : Ex → Expr → Bool
  | .var i, .Name x _ => okVar G SC i x
  | .cst d, .Constant c _ _ => cstOk d c
  | _, _ => false
def ckMeth (G : Glo) (SC : Scope) (f : Ex → Expr → Bool) (m : Mm) (i : Nat) (es : List Ex) (e : Expr) : Bool := match e with
  | .Call (.Attribute (.Name x _) attr apos) xs [] cpos => okVar G SC i x && (apos.endLine == cpos.line) && decide (xs.length < 28) && ckAll f es xs && (match m with
    | .append => decide (attr = ("append" : Str)) && !xs.isEmpty
    | .popLast => decide (attr = ("pop" : Str)) && xs.isEmpty
    | .popAt => decide (attr = ("pop" : Str)) && !xs.isEmpty
    | _ => false)
  | _ => false
def ckMethAt (G : Glo) (SC : Scope) (m : Mm) (i : Nat) (k : Ex) (es : List Ex) (e : Expr) : Bool := match e with
  | .Call (.Attribute (.Subscript (.Name x _) kx _) attr apos) xs [] cpos => okVar G SC i x && smK G SC k kx && (apos.endLine == cpos.line) && (match m, es, xs with
    | .append, [a], [y] => decide (attr = ("append" : Str)) && smK G SC a y
    | .popLast, [], [] => decide (attr = ("pop" : Str))
    | _, _, _ => false)
  | _ => false
def ckLenAt (G : Glo) (SC : Scope) (p : Pm) (i : Nat) (k : Ex) (e : Expr) : Bool := match e with
  | .Call (.Name y _) [.Subscript (.Name x _) kx _] [] _ => okBn G SC y && decide ((y, 1, p) ∈ callTab) && okVar G SC i x && smK G SC k kx
  | _ => false
def ckKeys : List Str → List (Option Expr) → Bool
  | [], [] => true
  | k :: ks, some (.Constant (.str x) _ _) :: es => decide (k = x) && ckKeys ks es
  | _, _ => false
def ownP (G : Glo) (own : List Nat) : List (Str × Nat) := own.map fun i => ((G.N[i]?).getD "", i)

def ckSortk (G : Glo) (SC : Scope) (top : Bool) (f : Ex → Expr → Bool) (es : List Ex) (rg : Bool) (v : Nat) (body : Ex) (e : Expr) : Bool := match es, e with
  | [a], .Call (.Name x _) [it] [⟨some kn, .Lambda ⟨[], [⟨p, _, _⟩], none, [], [], none, []⟩ bx scope _, _⟩] _ => top && G.lam && decide (x = ("sorted" : Str)) && okBn G SC x && decide (kn = ("key" : Str)) && lamPB SC scope p &&
    (match kkOf v 20 body with
    | some kk => kkAt kk && kkE G.N scope p kk bx
    | none => false) &&
    (if rg then (match it with
      | .Call (.Name y _) [e2] [] _ => decide (y = ("range" : Str)) && okBn G SC y && f a e2 && noStar e2
      | _ => false) else noStar it && f a it)
  | _, _ => false
mutual
def ckE (G : Glo) : Nat → Scope → Bool → Ex → Expr → Bool
  | 0, _, _, _, _ => false
  | n + 1, SC, top, ex, e => match ex with
    | .var i => (match e with
      | .Name x _ => okVar G SC i x
      | _ => false)
    | .cst d => (match e with
      | .Constant c _ _ => cstOk d c
      | _ => false)
    | .prim p as => ckPrim G SC (ckE G n SC top) p as e
    | .tup as => (match e with
      | .Tuple xs _ _ => decide (as.length ≤ 100) && ckAll (ckE G n SC top) as xs
      | _ => false)
    | .lst as => (match e with
      | .List xs _ => decide (as.length ≤ 100) && ckAll (ckE G n SC top) as xs
      | _ => false)
    | .andE a b => (match e with
      | .BoolOp .And (x :: y :: ys) _ => ckE G n SC top a x && ckBo .And (ckE G n SC top) (y :: ys) b
      | _ => false)
    | .orE a b => (match e with
      | .BoolOp .Or (x :: y :: ys) _ => ckE G n SC top a x && ckBo .Or (ckE G n SC top) (y :: ys) b
      | _ => false)
    | .notE a => (match e with
      | .UnaryOp .Not o _ => ckE G n SC top a o
      | _ => false)
    | .ite c a b => (match e with
      | .IfExp t x y _ => ckT G n SC top c t && ckE G n SC top a x && ckE G n SC top b y
      | _ => false)
    | .chain _ _ _ _ _ => false
    | .call i es => (match e with
      | .Call (.Name x _) xs [] _ => decide ((x, i, es.length) ∈ G.tab) && glK SC x && nmOk x && ckAll (ckE G n SC top) es xs
      | _ => false)
    | .comp elt tg k its ifs own => (match e with
      | .ListComp el [⟨t, it, fs, 0⟩] scope _ => ckI G SC (ckE G n SC top) k its t it && notSet it && blkC G.N SC scope (ownP G own) && ckTg G (relS scope SC) false tg t && ckE G n (relS scope SC) false elt el && (match ifs, fs with
        | [], [] => true
        | [c], [fc] => ckT G n (relS scope SC) false c fc
        | _, _ => false)
      | _ => false)
    | .sortk es rg v body => ckSortk G SC top (ckE G n SC top) es rg v body e
    | .meth m i es => ckMeth G SC (ckE G n SC top) m i es e
    | .methAt m i k es => ckMethAt G SC m i k es e
    | .lenAt p i k => ckLenAt G SC p i k e
    | .dictS ks es => (match e with
      | .Dict keys vals _ => ckKeys ks keys && !ks.isEmpty && decide (ks.length ≤ 15) && decide (ks.length = es.length) && ckAll (ckE G n SC top) es vals
      | _ => false)
/-- as a test -/
def ckT (G : Glo) : Nat → Scope → Bool → Ex → Expr → Bool
  | 0, _, _, _, _ => false
  | n + 1, SC, top, ex, e => match ex with
    | .andE a b => (match e with
      | .BoolOp .And (x :: y :: ys) _ => ckT G n SC top a x && ckBo .And (ckT G n SC top) (y :: ys) b
      | _ => false)
    | .orE a b => (match e with
      | .BoolOp .Or (x :: y :: ys) _ => ckT G n SC top a x && ckBo .Or (ckT G n SC top) (y :: ys) b
      | _ => false)
    | .notE a => (match e with
      | .UnaryOp .Not o _ => ckT G n SC top a o
      | _ => false)
    | .prim p as => (match e with
      | .Compare l ops rs _ => ckCmp (ckE G n SC top) p as l ops rs
      | e => isTrueE e && ckPrim G SC (ckE G n SC top) p as e)
    | ex => isTrueE e && ckE G n SC top ex e
end
end Ev
set_option maxHeartbeats 4000000
set_option maxRecDepth 100000
/-! What the checker has passed is sound. -/
namespace Ev
open PySem PySem.Spec PyProof.Rows L2
variable [Tb]

section
variable {G : Glo} {C : FS} {k : Nat} {SC : Scope} {top : Bool} {X : Cx}

theorem binP_ok {op : Operator} {p : Pm} (h : binP op = some p) : ∃ R, OpR X (binaryOp op) R ∧ PrOk2 X.K p R := by
  cases op <;> simp [binP] at h <;> subst h
  · exact ⟨_, op_addA, ok_add⟩
  · exact ⟨_, op_sub, ok_sub⟩
  · exact ⟨_, op_mulA, ok_mul⟩
  · exact ⟨_, op_mod, ok_mod⟩
  · exact ⟨_, op_fdiv, ok_fdiv⟩
theorem cmpP_ok (S : Sit G C k SC top X) {op : CmpOp} {p : Pm} (h : cmpP op = some p) : ∃ R, OpR X (compareOp op) R ∧ PrOk2 X.K p R := by
  cases op <;> simp [cmpP] at h <;> subst h
  · exact ⟨_, op_eqD S.u64, ok_eq⟩
  · exact ⟨_, op_neD S.u64, ok_ne⟩
  · exact ⟨_, op_lt, ok_lt⟩
  · exact ⟨_, op_le, ok_le⟩
  · exact ⟨_, op_gt, ok_gt⟩
  · exact ⟨_, op_ge, ok_ge⟩
  · exact ⟨_, op_inA S.u65, ok_in⟩
  · exact ⟨_, op_notInA S.u65, ok_notin⟩
theorem tab_ok (S : Sit G C k SC top X) {x : Str} {n : Nat} {p : Pm} (h : (x, n, p) ∈ callTab) :
    (∃ id r, CallR X (.builtin id) r ∧ PrOkL X.K p r ∧ bootBuiltins x = some (.builtin id)) ∨ (∃ T r, CallR X (.type T) r ∧ PrOkL X.K p r ∧ bootBuiltins x = some (.type T)) := by
  simp only [callTab, List.mem_cons, Prod.mk.injEq, List.not_mem_nil, or_false] at h
  rcases h with ⟨rfl, rfl, rfl⟩ | ⟨rfl, rfl, rfl⟩ | ⟨rfl, rfl, rfl⟩ | ⟨rfl, rfl, rfl⟩ | ⟨rfl, rfl, rfl⟩ | ⟨rfl, rfl, rfl⟩ | ⟨rfl, rfl, rfl⟩ | ⟨rfl, rfl, rfl⟩ | ⟨rfl, rfl, rfl⟩ | ⟨rfl, rfl, rfl⟩ | ⟨rfl, rfl, rfl⟩ | ⟨rfl, rfl, rfl⟩
  · exact .inl ⟨_, _, call_len_seq, okL_len, PySem.boot_len⟩
  · exact .inl ⟨_, _, call_abs, okL_abs, by decide +kernel⟩
  · exact .inl ⟨_, _, cr_sumA S.calm, okL_sum, by decide +kernel⟩
  · exact .inl ⟨_, _, cr_maxA S.calm S.u64, okL_maxL, by decide +kernel⟩
  · exact .inl ⟨_, _, cr_minA S.calm S.u64, okL_minL, by decide +kernel⟩
  · exact .inl ⟨_, _, call_max2 S.calm, okL_max2, by decide +kernel⟩
  · exact .inl ⟨_, _, call_min2 S.calm, okL_min2, by decide +kernel⟩
  · exact .inl ⟨_, _, cr_sortA S.u64, okL_sorted, by decide +kernel⟩
  · exact .inl ⟨_, _, cr_repr S.gd S.u64, okL_repr, by decide +kernel⟩
  · exact .inr ⟨_, _, call_int1, okL_int, by decide +kernel⟩
  · exact .inr ⟨_, _, call_list_of, okL_listOf, by decide +kernel⟩
  · exact .inr ⟨_, _, call_tuple_of, okL_tupleOf, by decide +kernel⟩

theorem all_ok {f : Ex → Expr → Bool} (hf : ∀ ex e, f ex e = true → SO X C ex e) : ∀ {as : List Ex} {es : List Expr}, ckAll f as es = true → SOs X C as es
  | [], [], _ => .nil
  | a :: as, e :: es, h => by
    simp only [ckAll, Bool.and_eq_true] at h
    exact .cons (hf _ _ h.1.1) (noStar_ne h.1.2) (all_ok hf h.2)
  | [], _ :: _, h => by simp [ckAll] at h
  | _ :: _, [], h => by simp [ckAll] at h

theorem cst_ok {d : D} {c : Const} {j : Nat} {pos : Pos} (h : cstOk d c = true) : PE X (.Constant c j pos) (tC (vOf d)) ∧ scal d = true := by
  cases d <;> cases c <;> simp [cstOk] at h
  · exact ⟨pe_non, rfl⟩
  · subst h; exact ⟨pe_bl, rfl⟩
  · subst h; exact ⟨pe_int, rfl⟩
  · subst h; exact ⟨pe_str, rfl⟩
theorem scal_imm {d : D} (h : scal d = true) : imm d = true := by cases d <;> first | rfl | simp [scal] at h
theorem smK_ok (S : Sit G C k SC top X) {ex : Ex} {e : Expr} (h : smK G SC ex e = true) : PE X e (tSm ex) ∧ smOk ex = true ∧ plainIx e = true ∧ noStar e = true := by
  cases ex with
  | var i =>
    cases e <;> simp [smK] at h
    exact ⟨pe_ok S h, rfl, rfl, rfl⟩
  | cst d =>
    cases e <;> simp [smK] at h
    have q := cst_ok (X := X) (j := by assumption) (pos := by assumption) h
    exact ⟨q.1, q.2, rfl, rfl⟩
  | _ => simp [smK] at h

theorem cmp_okE (S : Sit G C k SC top X) {f : Ex → Expr → Bool} (hf : ∀ ex e, f ex e = true → SO X C ex e) {p : Pm} {as : List Ex} {l : Expr} {ops : List CmpOp} {rs : List Expr} {pos : Pos} (h : ckCmp f p as l ops rs = true) :
    SE X C (.prim p as) (.Compare l ops rs pos) ∧ ST X C (.prim p as) (.Compare l ops rs pos) := by
  unfold ckCmp at h
  split at h
  · simp only [Bool.and_eq_true, decide_eq_true_eq, Bool.not_eq_true'] at h
    obtain ⟨⟨⟨h1, h2⟩, h3⟩, h4⟩ := h
    obtain ⟨R, r1, r2⟩ := cmpP_ok S h1
    exact ⟨se_prim2 (pe_cmpR r1 (hf _ _ h3) (hf _ _ h4) h2) r2, st_prim2 (pt_cmpR r1 (hf _ _ h3) (hf _ _ h4) h2) r2⟩
  · simp only [Bool.and_eq_true, decide_eq_true_eq] at h
    obtain ⟨rfl, h2⟩ := h
    have hb : ∀ a b, behindInMarks .Is (.Constant .none a b) = false := fun _ _ => rfl
    exact ⟨PE_imp (pe_cmpR op_isN (hf _ _ h2) pe_non (hb _ _)) fun σ H Q q => isN_read (neg := false) (fun d => rfl) q, PT_imp (pt_cmpR op_isN (hf _ _ h2) pe_non (hb _ _)) fun σ H Q q => isN_read (neg := false) (fun d => rfl) (tt_read q)⟩
  · simp only [Bool.and_eq_true, decide_eq_true_eq] at h
    obtain ⟨rfl, h2⟩ := h
    have hb : ∀ a b, behindInMarks .IsNot (.Constant .none a b) = false := fun _ _ => rfl
    exact ⟨PE_imp (pe_cmpR op_notN (hf _ _ h2) pe_non (hb _ _)) fun σ H Q q => isN_read (neg := true) (fun d => rfl) q, PT_imp (pt_cmpR op_notN (hf _ _ h2) pe_non (hb _ _)) fun σ H Q q => isN_read (neg := true) (fun d => rfl) (tt_read q)⟩
  · cases h

theorem sub_ok (S : Sit G C k SC top X) {f : Ex → Expr → Bool} (hf : ∀ ex e, f ex e = true → SO X C ex e) {p : Pm} {as : List Ex} {o s : Expr} {pos : Pos} (h : ckSub f p as o s = true) : SE X C (.prim p as) (.Subscript o s pos) := by
  unfold ckSub at h
  split at h
  · split at h
    · simp only [Bool.and_eq_true, decide_eq_true_eq] at h
      obtain ⟨⟨rfl, h2⟩, h3⟩ := h
      exact se_slLo (pe_slice sl_B (hf _ _ h2) (po_some (hf _ _ h3)) po_none)
    · simp only [Bool.and_eq_true, decide_eq_true_eq] at h
      obtain ⟨⟨rfl, h2⟩, h3⟩ := h
      exact se_slHi (pe_slice sl_B (hf _ _ h2) po_none (po_some (hf _ _ h3)))
    · cases h
    · simp only [Bool.and_eq_true, Bool.or_eq_true, decide_eq_true_eq] at h
      obtain ⟨⟨⟨h1, h2⟩, h3⟩, h4⟩ := h
      rcases h1 with rfl | rfl
      · exact se_prim2 (pe_ix ix_A (hf _ _ h3) (hf _ _ h4) (plain_ok h2)) ok_idx
      · exact se_prim2 (pe_getD S.u1 (hf _ _ h3) (hf _ _ h4) (plain_ok h2)) ok_idxD
  · split at h
    · simp only [Bool.and_eq_true, decide_eq_true_eq] at h
      obtain ⟨rfl, h2⟩ := h
      exact se_rev (pe_revL (hf _ _ h2))
    · cases h
  · cases h

theorem rg_ok (S : Sit G C k SC top X) {f : Ex → Expr → Bool} (hf : ∀ ex e, f ex e = true → SO X C ex e) {p : Pm} {as : List Ex} {x : Str} {xs : List Expr} {pp pos : Pos} (h : ckRg G SC f p as x xs = true) : SE X C (.prim p as) (.Call (.Name x pp) xs [] pos) := by
  unfold ckRg at h
  split at h
  · simp only [Bool.and_eq_true, Bool.or_eq_true, decide_eq_true_eq] at h
    obtain ⟨⟨⟨⟨⟨rfl, h1⟩, h2⟩, h3⟩, h4⟩, h5⟩ := h
    obtain ⟨a1, a2, _, _⟩ := bn_ok S h1
    obtain ⟨b1, b2, _, _⟩ := bn_ok S h2
    rcases h5 with ⟨rfl, rfl⟩ | ⟨rfl, rfl⟩
    · exact se_listRg (pe_listRg S.calm b1 b2 (prg_1 a1 a2 (hf _ _ h4) (star_no (noStar_ne h3))) rfl)
    · exact se_tupRg (pe_tupRg S.calm b1 b2 (prg_1 a1 a2 (hf _ _ h4) (star_no (noStar_ne h3))) rfl)
  · cases h

theorem prim_ok (S : Sit G C k SC top X) {f : Ex → Expr → Bool} (hf : ∀ ex e, f ex e = true → SO X C ex e) {p : Pm} {as : List Ex} {e : Expr} (h : ckPrim G SC f p as e = true) : SE X C (.prim p as) e := by
  unfold ckPrim at h
  split at h
  · split at h
    · simp only [Bool.and_eq_true, decide_eq_true_eq] at h
      obtain ⟨⟨h1, h2⟩, h3⟩ := h
      obtain ⟨R, r1, r2⟩ := binP_ok (X := X) h1
      exact se_prim2 (pe_op r1 (hf _ _ h2) (hf _ _ h3)) r2
    · cases h
  · exact (cmp_okE S hf h).1
  · split at h
    · simp only [Bool.and_eq_true, decide_eq_true_eq] at h
      obtain ⟨rfl, h2⟩ := h
      exact se_prim1 (pe_un un_neg (hf _ _ h2)) ok_neg
    · cases h
  · exact sub_ok S hf h
  · unfold ckCall at h
    split at h
    · exact rg_ok S hf h
    · simp only [Bool.and_eq_true, decide_eq_true_eq, Bool.not_eq_true'] at h
      obtain ⟨⟨⟨h1, h2⟩, h3⟩, h4⟩ := h
      have hne : ∀ {xs : List Expr}, xs.isEmpty = false → xs ≠ [] := fun z e => by subst e; cases z
      rcases tab_ok S h3 with ⟨id, r, c1, c2, c3⟩ | ⟨T, r, c1, c2, c3⟩
      · exact se_blt S h1 c1 c2 c3 (all_ok hf h4) (hne h2)
      · exact se_typ S h1 c1 c2 c3 (all_ok hf h4) (hne h2)
  · cases h

theorem sortk_ok (S : Sit G C k SC top X) {f : Ex → Expr → Bool} (hf : ∀ ex e, f ex e = true → SO X C ex e) {es : List Ex} {rg : Bool} {v : Nat} {body : Ex} {e : Expr} (h : ckSortk G SC top f es rg v body e = true) : SE X C (.sortk es rg v body) e := by
  unfold ckSortk at h
  split at h
  case h_2 => cases h
  simp only [Bool.and_eq_true, decide_eq_true_eq] at h
  obtain ⟨⟨⟨⟨⟨⟨⟨h1, h2⟩, rfl⟩, h4⟩, rfl⟩, h6⟩, h7⟩, h8⟩ := h
  split at h7
  case h_2 => cases h7
  rename_i kk hkk
  simp only [Bool.and_eq_true] at h7
  obtain ⟨a1, a2, _, _⟩ := bn_ok S h4
  have L := lamP_by h6
  rw [← S.sc] at L
  have hE := h7.2
  rw [← S.nn] at hE
  have M := S.lam h2 h1
  cases rg with
  | true =>
    simp only [if_true] at h8
    split at h8
    case h_2 => cases h8
    simp only [Bool.and_eq_true, decide_eq_true_eq] at h8
    obtain ⟨⟨⟨rfl, b2⟩, b3⟩, b4⟩ := h8
    obtain ⟨c1, c2, _, _⟩ := bn_ok S b2
    exact se_sortkR hkk h7.1 (pe_sortk S.room.hd S.room.depth S.u64 a1 a2 (argk_rng c1 c2 (hf _ _ b3) (star_no (noStar_ne b4))) rfl M L hE)
  | false =>
    simp only [Bool.false_eq_true, if_false, Bool.and_eq_true] at h8
    exact se_sortkV hkk h7.1 (pe_sortk S.room.hd S.room.depth S.u64 a1 a2 (argk_val (hf _ _ h8.2)) (star_no (noStar_ne h8.1)) M L hE)
theorem tgt_ok (S : Sit G C k SC top X) {i : Nat} {x : Str} {pos : Pos} (h : okTgt G SC top i x = true) : PG X (.Name x pos) (gName i) := by
  simp only [okTgt, Bool.and_eq_true, Bool.or_eq_true, decide_eq_true_eq] at h
  obtain ⟨h1, h2⟩ := h
  have hi : X.N[i]? = some x := by rw [S.nn]; exact h1
  rcases h2 with h2 | ⟨h2, h3⟩
  · have hl : X.env.scope.names.lookup x = some .local := by rw [S.sc]; exact h2
    exact pg_name S.hN hi (.inl hl) (.inr hl)
  · have hl : X.env.scope.names.lookup x = some .cell := by rw [S.sc]; exact h3
    exact pg_name S.hN hi (.inr hl) (.inl (S.fn h2 x))
theorem nms_ok (S : Sit G C k SC top X) : ∀ {is : List Nat} {es : List Expr}, ckNms G SC top is es = true → PGs X es (gNames is) ∧ (assignEach es X.env).length = is.length ∧ (assignEach es X.env).findIdx? (·.1) = none
  | [], [], _ => ⟨pgs_nil, rfl, rfl⟩
  | i :: is, .Name x p :: es, h => by
    simp only [ckNms, Bool.and_eq_true] at h
    obtain ⟨h1, h2, h3⟩ := nms_ok S h.2
    have e : assignEach (.Name x p :: es) X.env = (false, assign (.Name x p) X.env) :: assignEach es X.env := rfl
    refine ⟨pgs_cons (tgt_ok S h.1) h1 rfl, by rw [e, List.length_cons, List.length_cons, h2], ?_⟩
    rw [e, List.findIdx?_cons]
    simp [h3]
  | [], _ :: _, h => by simp [ckNms] at h
  | _ :: _, [], h => by simp [ckNms] at h
  | i :: is, e :: es, h => by
    cases e <;> simp [ckNms] at h
    obtain ⟨h1, h2, h3⟩ := nms_ok S h.2
    rename_i x p
    have e : assignEach (.Name x p :: es) X.env = (false, assign (.Name x p) X.env) :: assignEach es X.env := rfl
    refine ⟨pgs_cons (tgt_ok S h.1) h1 rfl, by rw [e, List.length_cons, List.length_cons, h2], ?_⟩
    rw [e, List.findIdx?_cons]
    simp [h3]
theorem tg_ok (S : Sit G C k SC top X) {t : Tg} {e : Expr} (h : ckTg G SC top t e = true) : SG X t e := by
  cases t with
  | nm i =>
    cases e <;> simp [ckTg] at h
    exact sg_nm (tgt_ok S h)
  | tp is =>
    cases e <;> simp [ckTg] at h
    obtain ⟨h1, h2, h3⟩ := nms_ok S h
    exact sg_tp S.calm h1 h2 h3
theorem it_ok (S : Sit G C k SC top X) {f : Ex → Expr → Bool} (hf : ∀ ex e, f ex e = true → SO X C ex e) {ik : Ik} {its : List Ex} {tg it : Expr} (h : ckI G SC f ik its tg it = true) : SIt X C tg ik its it := by
  unfold ckI at h
  split at h
  · simp only [Bool.and_eq_true] at h
    exact sit_seq (hf _ _ h.1)
  · split at h
    · simp only [Bool.and_eq_true, decide_eq_true_eq] at h
      obtain ⟨⟨⟨rfl, h1⟩, h2⟩, h3⟩ := h
      obtain ⟨a1, a2, _, _⟩ := bn_ok S h1
      exact sit_rng1 a1 a2 (.cons (hf _ _ h2) (noStar_ne h3) .nil)
    · cases h
  · split at h
    · simp only [Bool.and_eq_true, decide_eq_true_eq] at h
      obtain ⟨⟨⟨⟨⟨rfl, h1⟩, h2⟩, h3⟩, h4⟩, h5⟩ := h
      obtain ⟨a1, a2, _, _⟩ := bn_ok S h1
      exact sit_rng2 a1 a2 (.cons (hf _ _ h2) (noStar_ne h3) (.cons (hf _ _ h4) (noStar_ne h5) .nil))
    · cases h
  · split at h
    · simp only [Bool.and_eq_true, decide_eq_true_eq] at h
      obtain ⟨⟨⟨⟨rfl, h1⟩, h2⟩, h3⟩, h4⟩ := h
      obtain ⟨a1, a2, _, _⟩ := bn_ok S h1
      cases tg <;> simp [isTupE] at h4
      exact sit_enum a1 a2 (.cons (hf _ _ h2) (noStar_ne h3) .nil)
    · cases h
  · split at h
    · simp only [Bool.and_eq_true, decide_eq_true_eq] at h
      obtain ⟨⟨⟨⟨⟨⟨rfl, h1⟩, h2⟩, h3⟩, h4⟩, h5⟩, h6⟩ := h
      obtain ⟨a1, a2, _, _⟩ := bn_ok S h1
      cases tg <;> simp [isTupE] at h6
      exact sit_zip a1 a2 (.cons (hf _ _ h2) (noStar_ne h3) (.cons (hf _ _ h4) (noStar_ne h5) .nil))
    · cases h
  · cases h
end
end Ev
set_option maxHeartbeats 4000000
set_option maxRecDepth 100000
/-! What the checker has passed is sound: expressions. -/
namespace Ev
open PySem PySem.Spec PyProof.Rows L2
variable [Tb]

section
variable {G : Glo} {C : FS} {k : Nat} {SC : Scope} {top : Bool} {X : Cx}

theorem bo_ok {op : BoolOp} {f : Ex → Expr → Bool} (hf : ∀ ex e, f ex e = true → SE X C ex e) {pos : Pos} : ∀ {ys : List Expr} {b : Ex}, ckBo op f ys b = true → SE X C b (.BoolOp op ys pos)
  | [], _, h => by simp [ckBo] at h
  | [y], b, h => pe_one (hf _ _ h)
  | y :: z :: ys, b, h => by
    unfold ckBo at h
    split at h
    · simp only [Bool.and_eq_true] at h
      exact se_and (hf _ _ h.1) (bo_ok hf h.2)
    · simp only [Bool.and_eq_true] at h
      exact se_or (hf _ _ h.1) (bo_ok hf h.2)
    · cases h
theorem bo_okT {op : BoolOp} {f : Ex → Expr → Bool} (hf : ∀ ex e, f ex e = true → ST X C ex e) {pos : Pos} : ∀ {ys : List Expr} {b : Ex}, ckBo op f ys b = true → SW X C b (.BoolOp op ys pos)
  | [], _, h => by simp [ckBo] at h
  | [y], b, h => by
    cases op with
    | And => exact sw_and1 (hf _ _ h)
    | Or => exact sw_or1 (hf _ _ h)
  | y :: z :: ys, b, h => by
    unfold ckBo at h
    split at h
    · simp only [Bool.and_eq_true] at h
      exact sw_and (hf _ _ h.1) (bo_okT hf h.2)
    · simp only [Bool.and_eq_true] at h
      exact sw_or (hf _ _ h.1) (bo_okT hf h.2)
    · cases h

theorem meth_ok (S : Sit G C k SC top X) {f : Ex → Expr → Bool} (hf : ∀ ex e, f ex e = true → SO X C ex e) {m : Mm} {i : Nat} {es : List Ex} {e : Expr} (h : ckMeth G SC f m i es e = true) : SE X C (.meth m i es) e := by
  unfold ckMeth at h
  split at h
  · rename_i x xp attr apos xs cpos
    simp only [Bool.and_eq_true, decide_eq_true_eq] at h
    obtain ⟨⟨⟨⟨h1, h2⟩, h3⟩, h4⟩, h5⟩ := h
    have hv := pe_ok S (pos := xp) h1
    have ha := all_ok hf h4
    cases m with
    | append =>
      simp only [Bool.and_eq_true, decide_eq_true_eq, Bool.not_eq_true'] at h5
      obtain ⟨rfl, h6⟩ := h5
      cases ha with
      | nil => simp at h6
      | cons a hs t => exact se_append (pe_bm PySem.F.plainAttrs_list PySem.F.slot_list_append PySem.F.type_list_append mt_append hv (sos_pa (.cons a hs t)) (base_ok rfl) (few_ok (sos_all (.cons a hs t)) h3) h2 (star_no hs) (pl_ok (sos_all t)))
    | popAt =>
      simp only [Bool.and_eq_true, decide_eq_true_eq, Bool.not_eq_true'] at h5
      obtain ⟨rfl, h6⟩ := h5
      cases ha with
      | nil => simp at h6
      | cons a hs t => exact se_popAt (pe_bm PySem.F.plainAttrs_list PySem.F.slot_list_pop PySem.F.type_list_pop mt_popAt hv (sos_pa (.cons a hs t)) (base_ok rfl) (few_ok (sos_all (.cons a hs t)) h3) h2 (star_no hs) (pl_ok (sos_all t)))
    | popLast =>
      simp only [Bool.and_eq_true, decide_eq_true_eq] at h5
      obtain ⟨rfl, h6⟩ := h5
      cases ha with
      | cons a hs t => simp at h6
      | nil => exact se_popLast (pe_bm0 PySem.F.plainAttrs_list PySem.F.slot_list_pop PySem.F.type_list_pop mt_pop hv (base_ok rfl) h2)
    | extend => cases h5
    | remove => cases h5
  · cases h

theorem place_ok (S : Sit G C k SC top X) {i : Nat} {x : Str} {k0 : Ex} {kx : Expr} {xp sp : Pos} (h1 : okVar G SC i x = true) (h2 : smK G SC k0 kx = true) : PE X (.Subscript (.Name x xp) kx sp) (tOp (rPl X.K (keyE k0)) (tVar i) (tSm k0)) := by
  obtain ⟨a1, a2, a3, a4⟩ := smK_ok S h2
  have hv := pe_ok S (pos := xp) h1
  cases hk : keyE k0 with
  | true => exact pe_getD S.u1 hv a1 (plain_ok a3)
  | false => exact pe_ix ix_A hv a1 (plain_ok a3)
theorem methAt_ok (S : Sit G C k SC top X) {m : Mm} {i : Nat} {k0 : Ex} {es : List Ex} {e : Expr} (h : ckMethAt G SC m i k0 es e = true) : SE X C (.methAt m i k0 es) e := by
  unfold ckMethAt at h
  split at h
  · simp only [Bool.and_eq_true] at h
    obtain ⟨⟨⟨h1, h2⟩, h3⟩, h4⟩ := h
    have hp := fun xp sp => place_ok S (xp := xp) (sp := sp) h1 h2
    have hk := (smK_ok S h2).2.1
    split at h4
    · simp only [Bool.and_eq_true, decide_eq_true_eq] at h4
      obtain ⟨rfl, h5⟩ := h4
      obtain ⟨b1, b2, b3, b4⟩ := smK_ok S h5
      refine se_appendAt hk b2 (pe_bm PySem.F.plainAttrs_list PySem.F.slot_list_append PySem.F.type_list_append mt_append (hp _ _) (pa_cons b1 pa_nil (star_no (noStar_ne b4))) (base_ok rfl) (few_ok (by simp [b4]) (by simp)) h3 (star_no (noStar_ne b4)) (pl_ok rfl))
    · simp only [decide_eq_true_eq] at h4
      subst h4
      exact se_popAt0 hk (pe_bm0 PySem.F.plainAttrs_list PySem.F.slot_list_pop PySem.F.type_list_pop mt_pop (hp _ _) (base_ok rfl) h3)
    · cases h4
  · cases h
theorem lenAt_ok (S : Sit G C k SC top X) {p : Pm} {i : Nat} {k0 : Ex} {e : Expr} (h : ckLenAt G SC p i k0 e = true) : SE X C (.lenAt p i k0) e := by
  unfold ckLenAt at h
  split at h
  · simp only [Bool.and_eq_true, decide_eq_true_eq] at h
    obtain ⟨⟨⟨h1, h2⟩, h3⟩, h4⟩ := h
    have hp := fun xp sp => place_ok S (xp := xp) (sp := sp) h3 h4
    have hk := (smK_ok S h4).2.1
    obtain ⟨b1, b2, b3, b4⟩ := bn_ok S h1
    rcases tab_ok S h2 with ⟨id, r, c1, c2, c3⟩ | ⟨T, r, c1, c2, c3⟩
    · exact se_lenAt c2 hk (pe_callB c1 b1 b2 c3 (pa_cons (hp _ _) pa_nil rfl) b4 b3 rfl rfl)
    · exact se_lenAt c2 hk (pe_callTy c1 b1 b2 c3 (pa_cons (hp _ _) pa_nil rfl) b4 b3 rfl rfl)
  · cases h

theorem ownP_snd {own : List Nat} : (ownP G own).map (·.2) = own := by
  unfold ownP
  rw [List.map_map]
  exact List.map_id _
theorem keys_ok {f : Ex → Expr → Bool} (hf : ∀ ex e, f ex e = true → SO X C ex e) {pos : Pos} : ∀ {ks : List Str} {keys : List (Option Expr)} {es : List Ex} {vals : List Expr}, ckKeys ks keys = true → ckAll f es vals = true → ks.length = es.length → PPs X pos keys vals (trsOf X.K C ks es) ∧ keys.all (·.isSome) = true ∧ keys.length = vals.length ∧ keys.length = ks.length
  | [], [], [], [], _, _, _ => ⟨pps_nil, rfl, rfl, rfl⟩
  | k :: ks, some (.Constant (.str x) j p) :: keys, e :: es, v :: vals, h1, h2, h3 => by
    simp only [ckKeys, Bool.and_eq_true, decide_eq_true_eq] at h1
    simp only [ckAll, Bool.and_eq_true] at h2
    obtain ⟨rfl, h1⟩ := h1
    obtain ⟨a1, a2, a3, a4⟩ := keys_ok hf (pos := pos) h1 h2.2 (by simpa using h3)
    exact ⟨pps_cons pe_str (hf _ _ h2.1.1) a1, by simp [a2], by simp [a3], by simp [a4]⟩
  | [], [], [], _ :: _, _, h2, _ => by simp [ckAll] at h2
  | [], [], _ :: _, _, _, _, h3 => by simp at h3
  | [], _ :: _, _, _, h1, _, _ => by simp [ckKeys] at h1
  | _ :: _, [], _, _, h1, _, _ => by simp [ckKeys] at h1
  | _ :: _, _ :: _, [], _, _, _, h3 => by simp at h3
  | _ :: _, _ :: _, _ :: _, [], _, h2, _ => by simp [ckAll] at h2
  | k :: ks, key :: keys, e :: es, v :: vals, h1, h2, h3 => by
    unfold ckKeys at h1
    split at h1
    · rename_i q1 q2; cases q1
    · rename_i k' ks' x' j' p' es' q1 q2
      cases q1
      cases q2
      simp only [Bool.and_eq_true, decide_eq_true_eq] at h1
      simp only [ckAll, Bool.and_eq_true] at h2
      obtain ⟨rfl, h1⟩ := h1
      obtain ⟨a1, a2, a3, a4⟩ := keys_ok hf (pos := pos) h1 h2.2 (by simpa using h3)
      exact ⟨pps_cons pe_str (hf _ _ h2.1.1) a1, by simp [a2], by simp [a3], by simp [a4]⟩
    · cases h1
end

/-- an expression's two readings -/
def EOk (G : Glo) (C : FS) (k n : Nat) : Prop := ∀ SC top X, Sit G C k SC top X → (∀ ex e, ckE G n SC top ex e = true → SE X C ex e ∧ SO X C ex e) ∧ ∀ ex e, ckT G n SC top ex e = true → ST X C ex e

theorem ck_sound {G : Glo} {C : FS} {k : Nat} : ∀ n, EOk G C k n := by
  intro n
  induction n with
  | zero => exact fun SC top X S => ⟨fun ex e h => by simp [ckE] at h, fun ex e h => by simp [ckT] at h⟩
  | succ n ih =>
    intro SC top X S
    obtain ⟨ihE, ihT⟩ := ih SC top X S
    have hE : ∀ ex e, ckE G n SC top ex e = true → SE X C ex e := fun ex e h => (ihE ex e h).1
    have hO : ∀ ex e, ckE G n SC top ex e = true → SO X C ex e := fun ex e h => (ihE ex e h).2
    have main : ∀ ex e, ckE G (n + 1) SC top ex e = true → SE X C ex e := by
      intro ex e h
      cases ex with
      | var i =>
        unfold ckE at h
        simp only at h
        split at h
        · exact se_var (pe_ok S h)
        · cases h
      | cst d =>
        unfold ckE at h
        simp only at h
        split at h
        · have q := cst_ok (X := X) (j := by assumption) (pos := by assumption) h
          exact se_cst q.1 (fun H => vOf_fp q.2) (scal_imm q.2)
        · cases h
      | prim p as =>
        unfold ckE at h
        exact prim_ok S hO h
      | tup as =>
        unfold ckE at h
        simp only at h
        split at h
        · simp only [Bool.and_eq_true, decide_eq_true_eq] at h
          exact se_tup (all_ok hO h.2) h.1
        · cases h
      | lst as =>
        unfold ckE at h
        simp only at h
        split at h
        · simp only [Bool.and_eq_true, decide_eq_true_eq] at h
          exact se_lst (all_ok hO h.2) h.1
        · cases h
      | andE a b =>
        unfold ckE at h
        simp only at h
        split at h
        · simp only [Bool.and_eq_true] at h
          exact se_and (hE _ _ h.1) (bo_ok hE h.2)
        · cases h
      | orE a b =>
        unfold ckE at h
        simp only at h
        split at h
        · simp only [Bool.and_eq_true] at h
          exact se_or (hE _ _ h.1) (bo_ok hE h.2)
        · cases h
      | notE a =>
        unfold ckE at h
        simp only at h
        split at h
        · exact se_not (fun ta q => pe_not q) (hE _ _ h)
        · cases h
      | ite c a b =>
        unfold ckE at h
        simp only at h
        split at h
        · simp only [Bool.and_eq_true] at h
          exact se_ite (ihT _ _ h.1.1) (hE _ _ h.1.2) (hE _ _ h.2)
        · cases h
      | chain p q a b c => unfold ckE at h; cases h
      | call i es =>
        unfold ckE at h
        simp only at h
        split at h
        · simp only [Bool.and_eq_true, decide_eq_true_eq] at h
          exact se_callG S h.1.1.1 h.1.1.2 h.1.2 (all_ok hO h.2) rfl
        · cases h
      | comp elt tg ik its ifs own =>
        unfold ckE at h
        simp only at h
        split at h
        · rename_i el t it fs scope pos
          simp only [Bool.and_eq_true] at h
          obtain ⟨⟨⟨⟨⟨h1, h2⟩, h3⟩, h4⟩, h5⟩, h6⟩ := h
          have ok : BlkOk X.N X.env.scope scope (ownP G own) := by
            rw [S.nn, S.sc]; exact blkOk_by h3
          have q := pe_lc (tt := tTs X.K C ifs) (pos := pos) (elt := el) (ifs := fs) S.calm S.hN (it_ok S hO h1) ok (g := tTg X.K tg) (te := tEx X.K C elt) (fun s H D cl fp => tg_ok (S.blk s H scope D cl fp) h4) (fun s H D cl fp => ?_) (fun s H D cl fp => ((ih _ _ _ (S.blk s H scope D cl fp)).1 _ _ h5).1) (folded_ok h2)
          · rw [ownP_snd] at q
            exact se_comp q
          · split at h6
            · exact sts_nil
            · exact sts_one ((ih _ _ _ (S.blk s H scope D cl fp)).2 _ _ h6)
            · cases h6
        · cases h
      | sortk as rg v body =>
        unfold ckE at h
        exact sortk_ok S hO h
      | meth m i es =>
        unfold ckE at h
        exact meth_ok S hO h
      | methAt m i k0 es =>
        unfold ckE at h
        exact methAt_ok S h
      | lenAt p i k0 =>
        unfold ckE at h
        exact lenAt_ok S h
      | dictS ks es =>
        unfold ckE at h
        simp only at h
        split at h
        · simp only [Bool.and_eq_true, decide_eq_true_eq, Bool.not_eq_true'] at h
          obtain ⟨⟨⟨⟨h1, h2⟩, h3⟩, h4⟩, h5⟩ := h
          rename_i keys vals pos
          obtain ⟨a1, a2, a3, a4⟩ := keys_ok hO (pos := pos) h1 h5 h4
          refine se_dictS (pe_disp a1 a2 a3 (fun z => ?_) (by rw [a4]; exact h3))
          subst z
          cases ks with
          | nil => simp at h2
          | cons a b => simp at a4
        · cases h
    refine ⟨fun ex e h => ⟨main ex e h, ?_⟩, fun ex e h => ?_⟩
    · by_cases hv : ∃ i, ex = .var i
      · obtain ⟨i, rfl⟩ := hv
        unfold ckE at h
        simp only at h
        split at h
        · exact so_var (pe_ok S h)
        · cases h
      · exact so_of_se (fun i z => hv ⟨i, z⟩) (main ex e h)
    · have dflt : ∀ ex, (isTrueE e && ckE G n SC top ex e) = true → ST X C ex e := fun ex h => by
        simp only [Bool.and_eq_true] at h
        exact st_of_se (hE _ _ h.2) (isTrue_ok h.1)
      cases ex with
      | andE a b =>
        unfold ckT at h
        simp only at h
        split at h
        · simp only [Bool.and_eq_true] at h
          exact PW.pt (sw_and (ihT _ _ h.1) (bo_okT ihT h.2))
        · cases h
      | orE a b =>
        unfold ckT at h
        simp only at h
        split at h
        · simp only [Bool.and_eq_true] at h
          exact PW.pt (sw_or (ihT _ _ h.1) (bo_okT ihT h.2))
        · cases h
      | notE a =>
        unfold ckT at h
        simp only at h
        split at h
        · exact st_not (ihT _ _ h)
        · cases h
      | prim p as =>
        unfold ckT at h
        simp only at h
        split at h
        · exact (cmp_okE S hO h).2
        · simp only [Bool.and_eq_true] at h
          exact st_of_se (prim_ok S hO h.2) (isTrue_ok h.1)
      | var i => unfold ckT at h; exact dflt _ h
      | cst i => unfold ckT at h; exact dflt _ h
      | tup i => unfold ckT at h; exact dflt _ h
      | lst i => unfold ckT at h; exact dflt _ h
      | ite c a b => unfold ckT at h; exact dflt _ h
      | chain p q a b c => unfold ckT at h; exact dflt _ h
      | call i es => unfold ckT at h; exact dflt _ h
      | comp elt tg ik its ifs own => unfold ckT at h; exact dflt _ h
      | sortk as rg v body => unfold ckT at h; exact dflt _ h
      | meth m i es => unfold ckT at h; exact dflt _ h
      | methAt m i k0 es => unfold ckT at h; exact dflt _ h
      | lenAt p i k0 => unfold ckT at h; exact dflt _ h
      | dictS ks es => unfold ckT at h; exact dflt _ h
end Ev
set_option maxHeartbeats 4000000
set_option maxRecDepth 100000
/-! The checker: statements. -/
namespace Ev
open PySem PySem.Spec PyProof.Rows L2
variable [Tb]

/-- two, three names at once, stored from the right -/
def swOk (SC : Scope) (xs : List (Str × Pos)) (vs : List Expr) : Bool := decide (SC.kind = .function) && (xs.all fun p => decide (SC.names.lookup p.1 = some .local) && decide (p.2.line = ((xs.head?.map (·.2.line)).getD 0))) && decide ((xs.map (·.1)).eraseDups.length = xs.length) && vs.all noStar && !(vs.all (foldedForSure 8)) && !(vs.all (constantsAlone 8))
theorem any_star : ∀ {vs : List Expr}, vs.all noStar = true → (vs.any fun | .Starred .. => true | _ => false) = false
  | [], _ => rfl
  | v :: vs, h => by
    simp only [List.all_cons, Bool.and_eq_true] at h
    rw [List.any_cons, any_star h.2, Bool.or_false]
    cases v <;> first | rfl | simp [noStar] at h
theorem block_fn {env : Env} (h : env.scope.kind = .function) : env.blockKind = .function := by unfold Env.blockKind; rw [h]; rfl
theorem sw2_ok {SC : Scope} {env : Env} {x y : Str} {px py : Pos} {a b : Expr} {kt k2 : Nat} {pt pt2 : Pos} (hs : env.scope = SC) (h : swOk SC [(x, px), (y, py)] [a, b] = true) : swappedStores [.Tuple [.Name x px, .Name y py] kt pt] (.Tuple [a, b] k2 pt2) env = pure (some [x, y]) := by
  simp only [swOk, Bool.and_eq_true, decide_eq_true_eq, Bool.not_eq_true', List.all_cons, List.all_nil, List.head?_cons, Option.map_some, Option.getD_some, and_true] at h
  obtain ⟨⟨⟨⟨⟨h1, h2, h4, h5⟩, h6⟩, h7, h7'⟩, h8⟩, h9⟩ := h
  have h5 : py.line = px.line := of_decide_eq_true h5
  have b1 : env.blockKind = .function := block_fn (by rw [hs]; exact h1)
  have k1 : env.kindOf x = some .local := by show env.scope.names.lookup x = _; rw [hs]; exact h2
  have k3 : env.kindOf y = some .local := by show env.scope.names.lookup y = _; rw [hs]; exact h4
  have st : ([a, b].any fun | .Starred .. => true | _ => false) = false := any_star (by simp [h7, h7'])
  have h6 : ([x, y] : List Str).eraseDups.length = 2 := h6
  have h8 : [a, b].all (foldedForSure 8) = false := by simpa using h8
  have h9 : [a, b].all (constantsAlone 8) = false := by simpa using h9
  unfold swappedStores
  simp only [List.length_cons, List.length_nil, b1, st, List.head?_cons, Option.map_some, Option.getD_some, List.filterMap_cons, List.filterMap_nil, k1, k3, Expr.pos, h5, h8, h9]
  have k4 : (some NameKind.local == some NameKind.local) = true := by decide
  simp only [beq_self_eq_true, k4, Bool.and_self, if_true]
  rw [if_neg (by decide)]
  refine Eq.trans (if_neg (fun z => Bool.false_ne_true (st.symm.trans z))) ?_
  rw [if_neg (by rw [h6]; simp), if_neg (by decide), if_neg (by decide)]

theorem sw3_ok {SC : Scope} {env : Env} {x y z : Str} {px py pz : Pos} {a b c : Expr} {kt k2 : Nat} {pt pt2 : Pos} (hs : env.scope = SC) (h : swOk SC [(x, px), (y, py), (z, pz)] [a, b, c] = true) : swappedStores [.Tuple [.Name x px, .Name y py, .Name z pz] kt pt] (.Tuple [a, b, c] k2 pt2) env = pure (some [x, y, z]) := by
  simp only [swOk, Bool.and_eq_true, decide_eq_true_eq, Bool.not_eq_true', List.all_cons, List.all_nil, List.head?_cons, Option.map_some, Option.getD_some, and_true] at h
  obtain ⟨⟨⟨⟨⟨h1, h2, ⟨h4, h5⟩, h10, h11⟩, h6⟩, h7, h7', h7''⟩, h8⟩, h9⟩ := h
  have h5 : py.line = px.line := of_decide_eq_true h5
  have h11 : pz.line = px.line := of_decide_eq_true h11
  have b1 : env.blockKind = .function := block_fn (by rw [hs]; exact h1)
  have k1 : env.kindOf x = some .local := by show env.scope.names.lookup x = _; rw [hs]; exact h2
  have k3 : env.kindOf y = some .local := by show env.scope.names.lookup y = _; rw [hs]; exact h4
  have k5 : env.kindOf z = some .local := by show env.scope.names.lookup z = _; rw [hs]; exact h10
  have st : ([a, b, c].any fun | .Starred .. => true | _ => false) = false := any_star (by simp [h7, h7', h7''])
  have h6 : ([x, y, z] : List Str).eraseDups.length = 3 := h6
  have h8 : [a, b, c].all (foldedForSure 8) = false := by simpa using h8
  have h9 : [a, b, c].all (constantsAlone 8) = false := by simpa using h9
  unfold swappedStores
  simp only [List.length_cons, List.length_nil, b1, st, List.head?_cons, Option.map_some, Option.getD_some, List.filterMap_cons, List.filterMap_nil, k1, k3, k5, Expr.pos, h5, h11, h8, h9]
  have k4 : (some NameKind.local == some NameKind.local) = true := by decide
  simp only [beq_self_eq_true, k4, Bool.and_self, if_true]
  rw [if_neg (by decide)]
  refine Eq.trans (if_neg (fun z => Bool.false_ne_true (st.symm.trans z))) ?_
  rw [if_neg (by rw [h6]; simp), if_neg (by decide), if_neg (by decide)]


def celT (SC : Scope) : Expr → Bool
  | .Name x _ => !decide (SC.names.lookup x = some .local)
  | _ => true
theorem cel_short {env : Env} {l : Nat} : ∀ {ts : List Expr}, ts.any (celT env.scope) = true → (ts.filterMap fun | .Name id pos => if env.kindOf id == some .local && pos.line == l then some id else none | _ => none).length < ts.length
  | t :: ts, h => by
    rw [List.filterMap_cons]
    have le := List.length_filterMap_le (fun e : Expr => match e with | .Name id pos => if env.kindOf id == some .local && pos.line == l then some id else none | _ => none) ts
    rcases Bool.or_eq_true_iff.mp (List.any_cons ▸ h) with h1 | h1
    · split
      · exact Nat.lt_succ_of_le le
      · rename_i q hq
        exfalso
        cases t with
        | Name x p =>
          simp only [celT, Bool.not_eq_true', decide_eq_false_iff_not] at h1
          have k : env.kindOf x = env.scope.names.lookup x := rfl
          have hq : (if (env.kindOf x == some NameKind.local && p.line == l) = true then some x else none) = some q := hq
          rw [k, if_neg (by simp [h1])] at hq
          cases hq
        | _ => cases hq
    · have ih := cel_short (l := l) h1
      split
      · exact Nat.lt_succ_of_lt ih
      · exact Nat.succ_lt_succ ih
/-- a value whose store is plain -/
def parNone (SC : Scope) (tg v : Expr) : Bool := match tg with
  | .Tuple ts _ _ => (match v with
    | .Tuple vs _ _ => !(decide (ts.length = 2) || decide (ts.length = 3)) || (vs.all noStar && (vs.all (foldedForSure 8) || ts.any (celT SC)))
    | _ => true)
  | .List _ _ => false
  | _ => true
theorem parNone_ok {SC : Scope} {tg v : Expr} {env : Env} (hs : env.scope = SC) (h : parNone SC tg v = true) : swappedStores [tg] v env = pure none := by
  subst hs
  cases tg with
  | List => simp [parNone] at h
  | Tuple ts a b =>
    cases v with
    | Tuple vs c d =>
      simp only [parNone, Bool.or_eq_true, Bool.not_eq_true', decide_eq_true_eq, Bool.and_eq_true, Bool.or_eq_false_iff, decide_eq_false_iff_not] at h
      unfold swappedStores
      simp only
      rcases h with ⟨h1, h2⟩ | ⟨h1, h2⟩
      · rw [if_pos (by simp [h1, h2])]
      · split
        · rfl
        · refine Eq.trans (if_neg (fun z => Bool.false_ne_true ((any_star h1).symm.trans z))) ?_
          split
          · rfl
          · rename_i hh
            rcases h2 with h2 | h2
            · first | rfl | rw [if_pos h2]
            · refine absurd ?_ hh
              simp only [Bool.or_eq_true, bne_iff_ne, ne_eq]
              exact .inl (Nat.ne_of_lt (cel_short h2))
    | _ => rfl
  | _ => cases v <;> rfl

/-- name = [..]: whether the store comes first -/
def swCond (SC : Scope) (y : Str) (py pos : Pos) (l : Nat) (scope : Scope) : Bool := decide (SC.kind = .function) && decide (SC.names.lookup y = some .local) && (py.line == pos.line) && !(scope.names.any fun (n, k) => n == y && (k == .local || k == .cell))
theorem swF_ok {elt : Expr} {gs : List Comprehension} {scope SC : Scope} {pos py : Pos} {y : Str} {l : Nat} {env : Env} (hs : env.scope = SC) (hk : SC.kind = .function) (h : swCond SC y py pos l scope = false) : swapsWith (.ListComp elt gs scope pos) (some (.Name y py)) l env = pure false := by
  have hb : env.blockKind = .function := block_fn (by rw [hs]; exact hk)
  have ky : env.kindOf y = SC.names.lookup y := by show env.scope.names.lookup y = _; rw [hs]
  unfold swapsWith
  simp only [hb, ky, Expr.pos]
  unfold swCond at h
  rw [hk] at h
  simp only [decide_true, Bool.true_and] at h
  have e : (SC.names.lookup y == some NameKind.local) = decide (SC.names.lookup y = some .local) := by rw [Bool.eq_iff_iff]; simp
  rw [e]
  show pure (_ && _ && _ && _) = _
  rw [show ((ScopeKind.function == ScopeKind.function) = true) from rfl, Bool.true_and, h]

def baseVar (G : Glo) (SC : Scope) (i : Nat) (e : Expr) : Bool := match e with
  | .Name x _ => okVar G SC i x
  | _ => false
def tgPr (pr : List Nat) : Tg → Bool
  | .nm i => !pr.contains i
  | .tp is => is.all fun i => !pr.contains i
def isName : Expr → Option (Str × Pos)
  | .Name x p => some (x, p)
  | _ => none

def ckAsg (G : Glo) (SC : Scope) (m : Nat) (t : Tg) (ex : Ex) (tg v : Expr) (l : Nat) : Bool := match v with
  | .ListComp el [⟨t', it, fs, 0⟩] scope pos => (match tg, t with
    | .Name y py, .nm i => ckTg G SC true t tg && ckE G m SC true ex v && (if swCond SC y py pos l scope then isLC ex else true)
    | _, _ => false)
  | v => noSwap v && parNone SC tg v && ckTg G SC true t tg && ckE G m SC true ex v
where isLC : Ex → Bool
  | .comp _ _ _ _ _ _ => true
  | _ => false
def ckPar (G : Glo) (SC : Scope) (m : Nat) (ts : List Nat) (es : List Ex) (tgs vs : List Expr) : Bool := match ts, tgs, vs with
  | [i, j], [.Name x px, .Name y py], [_, _] => okTgt G SC false i x && okTgt G SC false j y && decide (i ≠ j) && swOk SC [(x, px), (y, py)] vs && ckAll (ckE G m SC true) es vs
  | [i, j, l], [.Name x px, .Name y py, .Name z pz], [_, _, _] => okTgt G SC false i x && okTgt G SC false j y && okTgt G SC false l z && decide (i ≠ j) && decide (i ≠ l) && decide (j ≠ l) && swOk SC [(x, px), (y, py), (z, pz)] vs && ckAll (ckE G m SC true) es vs
  | _, _, _ => false

def ckSs (f : St → Stmt → Bool) : List St → List Stmt → Bool
  | [], [] => true
  | s :: ss, t :: ts => f s t && ckSs f ss ts
  | _, _ => false
/-- m: how deep expressions go -/
def ckS (G : Glo) (SC : Scope) (m : Nat) (pr : List Nat) : Nat → St → Stmt → Bool
  | 0, _, _ => false
  | n + 1, st, s => match st with
    | .asg t e => (match s with
      | .Assign [tg] v pos => tgPr pr t && ckAsg G SC m t e tg v pos.line
      | _ => false)
    | .par ts es => (match s with
      | .Assign [.Tuple tgs _ _] (.Tuple vs _ _) _ => (ts.all fun i => !pr.contains i) && ckPar G SC m ts es tgs vs
      | _ => false)
    | .setAt i k e => (match s with
      | .Assign [.Subscript o kx _] v _ => baseVar G SC i o && smK G SC k kx && ckE G m SC true e v
      | _ => false)
    | .augAt i k e => (match s with
      | .AugAssign (.Subscript o kx _) .Add v _ => baseVar G SC i o && smK G SC k kx && ckE G m SC true e v
      | _ => false)
    | .augL i e => (match s with
      | .AugAssign (.Name x _) .Add v _ => okTgt G SC true i x && !pr.contains i && ckE G m SC true e v
      | _ => false)
    | .ex e => (match s with
      | .Expr v _ => noSwap v && ckE G m SC true e v
      | _ => false)
    | .ite c a b => (match s with
      | .If t x y _ => ckT G m SC true c t && ckSs (ckS G SC m pr n) a x && ckSs (ckS G SC m pr n) b y
      | _ => false)
    | .whl c b => (match s with
      | .While t x [] _ => ckT G m SC true c t && ckSs (ckS G SC m pr n) b x
      | _ => false)
    | .for t k its b => (match s with
      | .For tg it x [] _ => tgPr pr t && ckTg G SC true t tg && ckI G SC (ckE G m SC true) k its tg it && notSet it && ckSs (ckS G SC m pr n) b x
      | _ => false)
    | .ret e => (match s with
      | .Return (some v) _ => ckE G m SC true e v
      | _ => false)
    | .retN => (match s with
      | .Return none _ => true
      | _ => false)
    | .brk => (match s with
      | .Break _ => true
      | _ => false)
    | .cont => (match s with
      | .Continue _ => true
      | _ => false)
    | .pass => (match s with
      | .Pass _ => true
      | _ => false)
    | .never => true
end Ev
set_option maxHeartbeats 4000000
set_option maxRecDepth 100000
/-! What the checker has passed is sound: statements; all the defs. -/
namespace Ev
open PySem PySem.Spec PyProof.Rows L2
variable [Tb]

section
variable {G : Glo} {C : FS} {k : Nat} {SC : Scope} {X : Cx} {np m : Nat} {pr : List Nat}

theorem prOk {t : Tg} (h : tgPr pr t = true) : ∀ j ∈ pr, ¬ tgHas t j := fun j hj ht => by
  cases t with
  | nm i =>
    have ht : j = i := ht
    subst ht
    simp [tgPr, hj] at h
  | tp is =>
    have ht : j ∈ is := ht
    simp only [tgPr, List.all_eq_true] at h
    have := h j ht
    simp [hj] at this
theorem base_var (S : Sit G C k SC true X) {i : Nat} {e : Expr} (h : baseVar G SC i e = true) : PE X e (tVar i) := by
  unfold baseVar at h
  split at h
  · exact pe_ok S h
  · cases h

theorem svs_all (hf : ∀ ex e, ckE G m SC true ex e = true → SE X C ex e) : ∀ {as : List Ex} {es : List Expr}, ckAll (ckE G m SC true) as es = true → SVs X C as es
  | [], [], _ => .nil
  | a :: as, e :: es, h => by
    simp only [ckAll, Bool.and_eq_true] at h
    exact .cons (hf _ _ h.1.1) (noStar_ne h.1.2) (svs_all hf h.2)
  | [], _ :: _, h => by simp [ckAll] at h
  | _ :: _, [], h => by simp [ckAll] at h

theorem asg_ok (S : Sit G C k SC true X) (hk : SC.kind = .function) {t : Tg} {ex : Ex} {tg v : Expr} {pos : Pos} (hp : tgPr pr t = true) (h : ckAsg G SC m t ex tg v pos.line = true) : SSt X C np pr (.asg t ex) (.Assign [tg] v pos) := by
  obtain ⟨hE, hT⟩ := ck_sound (G := G) (C := C) (k := k) m SC true X S
  unfold ckAsg at h
  split at h
  · rename_i el t' it fs scope lpos
    split at h
    · rename_i y py i
      simp only [Bool.and_eq_true] at h
      obtain ⟨⟨h1, h2⟩, h3⟩ := h
      by_cases hc : swCond SC y py lpos pos.line scope = true
      · rw [if_pos hc] at h3
        cases ex <;> simp [ckAsg.isLC] at h3
        rename_i elt tg' ik its ifs own
        -- the store comes first
        cases m with
        | zero => simp [ckE] at h2
        | succ m =>
          unfold ckE at h2
          simp only [Bool.and_eq_true] at h2
          obtain ⟨⟨⟨⟨⟨g1, g2⟩, g3⟩, g4⟩, g5⟩, g6⟩ := h2
          have ihs := ck_sound (G := G) (C := C) (k := k) m
          have ok : BlkOk X.N X.env.scope scope (ownP G own) := by
            rw [S.nn, S.sc]; exact blkOk_by g3
          simp only [swCond, Bool.and_eq_true, decide_eq_true_eq, Bool.not_eq_true'] at hc
          obtain ⟨⟨⟨c1, c2⟩, c3⟩, c4⟩ := hc
          simp only [ckTg, okTgt, Bool.and_eq_true, decide_eq_true_eq] at h1
          have hl : X.env.scope.names.lookup y = some .local := by rw [S.sc]; exact c2
          have q := ps_setLc (tt := tTs X.K C ifs) (pos := lpos) (spos := pos) (py := py) (elt := el) (ifs := fs) S.calm S.hN (show X.N[i]? = some y by rw [S.nn]; exact h1.1) hl (sw_true (by rw [S.sc]; exact hk) hl c3 c4) (it_ok S (fun ex e q => ((ihs SC true X S).1 ex e q).2) g1) ok (g := tTg X.K tg') (te := tEx X.K C elt)
            (fun s H D cl fp => tg_ok (S.blk s H scope D cl fp) g4) (fun s H D cl fp => ?_) (fun s H D cl fp => ((ihs _ _ _ (S.blk s H scope D cl fp)).1 _ _ g5).1) (folded_ok g2)
          · rw [ownP_snd] at q
            exact ss_asgC (prOk hp) q
          · split at g6
            · exact sts_nil
            · exact sts_one ((ihs _ _ _ (S.blk s H scope D cl fp)).2 _ _ g6)
            · cases g6
      · have hc : swCond SC y py lpos pos.line scope = false := by simpa using hc
        exact ss_asg (prOk hp) (ps_asg ((hE _ _ h2).1) (tg_ok S h1) (swF_ok S.sc hk hc) (parNone_ok (SC := _) rfl rfl) rfl)
    · cases h
  · simp only [Bool.and_eq_true] at h
    obtain ⟨⟨⟨h1, h2⟩, h3⟩, h4⟩ := h
    refine ss_asg (prOk hp) (ps_asg ((hE _ _ h4).1) (tg_ok S h3) (swap_ok h1) (parNone_ok S.sc h2) ?_)
    cases tg <;> first | rfl | (cases t <;> simp [ckTg] at h3)

theorem par_ok (S : Sit G C k SC true X) {ts : List Nat} {es : List Ex} {tgs vs : List Expr} {a b : Nat} {p1 p2 pos : Pos} (hp : (ts.all fun i => !pr.contains i) = true) (h : ckPar G SC m ts es tgs vs = true) : SSt X C np pr (.par ts es) (.Assign [.Tuple tgs a p1] (.Tuple vs b p2) pos) := by
  obtain ⟨hE, hT⟩ := ck_sound (G := G) (C := C) (k := k) m SC true X S
  have hpr : ∀ j ∈ pr, j ∉ ts := fun j hj ht => by
    have := List.all_eq_true.mp hp j ht
    simp [hj] at this
  have tgt : ∀ {i : Nat} {x : Str}, okTgt G SC false i x = true → X.N[i]? = some x ∧ X.env.scope.names.lookup x = some .local := fun {i x} h => by
    simp only [okTgt, Bool.and_eq_true, Bool.or_eq_true, decide_eq_true_eq, Bool.false_and, Bool.false_eq_true, or_false] at h
    exact ⟨by rw [S.nn]; exact h.1, by rw [S.sc]; exact h.2⟩
  unfold ckPar at h
  split at h
  · simp only [Bool.and_eq_true, decide_eq_true_eq] at h
    obtain ⟨⟨⟨⟨h1, h2⟩, h3⟩, h4⟩, h5⟩ := h
    exact ss_par2 hpr (ps_par S.calm S.hN (tgt h1).1 (tgt h2).1 h3 (tgt h1).2 (tgt h2).2 (svs_pa (svs_all (fun ex e q => (hE ex e q).1) h5)) (sw2_ok S.sc h4) rfl)
  · simp only [Bool.and_eq_true, decide_eq_true_eq] at h
    obtain ⟨⟨⟨⟨⟨⟨⟨h1, h2⟩, h3⟩, h4⟩, h5⟩, h6⟩, h7⟩, h8⟩ := h
    exact ss_par3 hpr (ps_par3 S.calm S.hN (tgt h1).1 (tgt h2).1 (tgt h3).1 h4 h5 h6 (tgt h1).2 (tgt h2).2 (tgt h3).2 (svs_pa (svs_all (fun ex e q => (hE ex e q).1) h8)) (sw3_ok S.sc h7) rfl)
  · cases h

theorem sss_ok {f : St → Stmt → Bool} (hf : ∀ st s, f st s = true → SSt X C np pr st s) : ∀ {sts : List St} {ss : List Stmt}, ckSs f sts ss = true → SSts X C np pr sts ss
  | [], [], _ => ssts_nil
  | st :: sts, s :: ss, h => by
    simp only [ckSs, Bool.and_eq_true] at h
    exact ssts_cons (hf _ _ h.1) (sss_ok hf h.2)
  | [], _ :: _, h => by simp [ckSs] at h
  | _ :: _, [], h => by simp [ckSs] at h

theorem cks_sound (S : Sit G C k SC true X) (hk : SC.kind = .function) (hx : ∀ e s, ¬ X.xe e s) : ∀ n st s, ckS G SC m pr n st s = true → SSt X C np pr st s := by
  obtain ⟨hE', hT⟩ := ck_sound (G := G) (C := C) (k := k) m SC true X S
  have hE : ∀ ex e, ckE G m SC true ex e = true → SE X C ex e := fun ex e h => (hE' ex e h).1
  have hO : ∀ ex e, ckE G m SC true ex e = true → SO X C ex e := fun ex e h => (hE' ex e h).2
  have hpass : PassesOwn (model X.prog X.w) X.A X.env X.xe := fun e s' h => (hx e s' h).elim
  intro n
  induction n with
  | zero => intro st s h; simp [ckS] at h
  | succ n ih =>
    intro st s h
    cases st with
    | asg t e =>
      unfold ckS at h
      simp only at h
      split at h
      · simp only [Bool.and_eq_true] at h
        exact asg_ok S hk h.1 h.2
      · cases h
    | par ts es =>
      unfold ckS at h
      simp only at h
      split at h
      · simp only [Bool.and_eq_true] at h
        exact par_ok S h.1 h.2
      · cases h
    | setAt i k0 e =>
      unfold ckS at h
      simp only at h
      split at h
      · rename_i o kx sp v pos
        simp only [Bool.and_eq_true] at h
        obtain ⟨⟨h1, h2⟩, h3⟩ := h
        obtain ⟨a1, a2, a3, a4⟩ := smK_ok S h2
        have hv := base_var S h1
        have sw : ∀ l, swapsWith v (some (.Subscript o kx sp)) l X.env = pure false := fun l => by cases v <;> rfl
        cases hkey : keyE k0 with
        | true => exact ss_setD a2 hkey (ps_dput S.u1 hv a1 (hE _ _ h3) (sw _))
        | false =>
          refine ss_setL a2 hkey (ps_asg (hE _ _ h3) (pg_sub hv a1 set_list fun w => ?_) (sw pos.line) (by cases v <;> rfl) rfl)
          cases kx <;> first | rfl | (simp [plainIx] at a3)
      · cases h
    | augAt i k0 e =>
      unfold ckS at h
      simp only at h
      split at h
      · rename_i o kx sp v pos
        simp only [Bool.and_eq_true] at h
        obtain ⟨⟨h1, h2⟩, h3⟩ := h
        obtain ⟨a1, a2, a3, a4⟩ := smK_ok S h2
        refine ss_augAt a2 (ps_augS (base_var S h1) a1 get_list (hE _ _ h3) ip_add set_list fun ov iv new => ?_)
        cases kx <;> first | rfl | (simp [plainIx] at a3)
      · cases h
    | augL i e =>
      unfold ckS at h
      simp only at h
      split at h
      · rename_i x xp v pos
        simp only [Bool.and_eq_true, Bool.not_eq_true'] at h
        obtain ⟨⟨h1, h2⟩, h3⟩ := h
        have h1' := h1
        simp only [okTgt, Bool.and_eq_true, Bool.or_eq_true, decide_eq_true_eq, Bool.true_and] at h1
        have hi : X.N[i]? = some x := by rw [S.nn]; exact h1.1
        have hl : Loc X.env.scope x := by
          rcases h1.2 with q | q
          · exact .inl (by rw [S.sc]; exact q)
          · exact .inr (by rw [S.sc]; exact q)
        exact ss_augL (by simpa using h2) (ps_aug S.hN hi hl (hE _ _ h3) ip_add (.inl (S.fn rfl x)))
      · cases h
    | ex e =>
      unfold ckS at h
      simp only at h
      split at h
      · simp only [Bool.and_eq_true] at h
        exact ss_ex (ps_expr (hE _ _ h.2) (swap_ok h.1))
      · cases h
    | ite c a b =>
      unfold ckS at h
      simp only at h
      split at h
      · simp only [Bool.and_eq_true] at h
        exact ss_ite (ps_if (hT _ _ h.1.1) (sss_ok ih h.1.2) (sss_ok ih h.2))
      · cases h
    | whl c b =>
      unfold ckS at h
      simp only at h
      split at h
      · simp only [Bool.and_eq_true] at h
        exact ss_whl (ps_while hpass (hT _ _ h.1) (sss_ok ih h.2))
      · cases h
    | «for» t ik its b =>
      unfold ckS at h
      simp only at h
      split at h
      · simp only [Bool.and_eq_true] at h
        obtain ⟨⟨⟨⟨h1, h2⟩, h3⟩, h4⟩, h5⟩ := h
        exact ss_for (prOk h1) (ps_for hpass S.calm (it_ok S hO h3) (tg_ok S h2) (sss_ok ih h5) (folded_ok h4))
      · cases h
    | ret e =>
      unfold ckS at h
      simp only at h
      split at h
      · by_cases hv : ∃ i, e = .var i
        · obtain ⟨i, rfl⟩ := hv
          cases m with
          | zero => simp [ckE] at h
          | succ m =>
            unfold ckE at h
            simp only at h
            split at h
            · exact ss_retV (ps_ret (pe_ok S h))
            · cases h
        · exact ss_ret (fun i z => hv ⟨i, z⟩) (ps_ret (hE _ _ h))
      · cases h
    | retN =>
      unfold ckS at h
      simp only at h
      split at h
      · exact ss_retN ps_retN
      · cases h
    | brk =>
      unfold ckS at h
      simp only at h
      split at h
      · exact ss_brk ps_break
      · cases h
    | cont =>
      unfold ckS at h
      simp only at h
      split at h
      · exact ss_cont ps_continue
      · cases h
    | pass =>
      unfold ckS at h
      simp only at h
      split at h
      · exact ss_pass ps_pass
      · cases h
    | never => exact ss_never
end
end Ev
set_option maxHeartbeats 4000000
set_option maxRecDepth 100000
/-! All the defs of a law; the law. -/
namespace Ev
open PySem PySem.Spec PyProof.Rows L2
variable [Tb]

/-- a def: its name, its text, its names by slot (the parameters first), the small language's form -/
structure DefI where
  name : Str
  st : Stmt
  N : List Str
  F : Fn
  lam : Bool
def DefI.ps (d : DefI) : List Str := d.N.take d.F.re.length

def tabOf : Nat → List DefI → List (Str × Nat × Nat)
  | _, [] => []
  | i, d :: ds => (d.name, i, d.F.re.length) :: tabOf (i + 1) ds
theorem tabOf_mem : ∀ {ds : List DefI} {i : Nat} {x : Str} {f np : Nat}, (x, f, np) ∈ tabOf i ds → i ≤ f ∧ ∃ d, ds[f - i]? = some d ∧ d.name = x ∧ d.F.re.length = np
  | [], _, _, _, _, h => by simp [tabOf] at h
  | d :: ds, i, x, f, np, h => by
    simp only [tabOf, List.mem_cons, Prod.mk.injEq] at h
    rcases h with ⟨rfl, rfl, rfl⟩ | h
    · exact ⟨Nat.le_refl _, d, by simp, rfl, rfl⟩
    · obtain ⟨h1, d', h2, h3⟩ := tabOf_mem h
      refine ⟨by omega, d', ?_, h3⟩
      rw [show f - i = (f - (i + 1)) + 1 by omega]
      simpa using h2

def scB (N P : List Str) (sc : Scope) : Bool :=
  decide (sc.kind = .function) && !sc.isCoroutine && !sc.isGenerator && decide N.Nodup && decide (N.take P.length = P) && P.all (fun x => decide (sc.names.lookup x = some .local) || decide (sc.names.lookup x = some .cell)) && sc.names.all (fun y => !decide (y.2 = .free))
theorem scB_ok {N P : List Str} {sc : Scope} (h : scB N P sc = true) : FnScope N P sc := by
  unfold scB at h
  simp only [Bool.and_eq_true, Bool.not_eq_true', decide_eq_true_eq, List.all_eq_true, Bool.or_eq_true, decide_eq_false_iff_not] at h
  obtain ⟨⟨⟨⟨⟨⟨h1, h2⟩, h3⟩, h4⟩, h5⟩, h6⟩, h7⟩ := h
  exact ⟨h1, h2, h3, h4, h5, h6, h7⟩
def ckDef (tab : List (Str × Nat × Nat)) (bn : List Str) (d : DefI) : Bool :=
  scB d.N d.ps (defScope d.st) && decide (d.N.length = d.F.ns) && decide (d.F.re.length ≤ d.F.ns) && ckSs (ckS ⟨d.N, tab, bn, d.lam⟩ (defScope d.st) 60 (prS d.F.re) 60) d.F.body (defBody d.st)
def ckDefs (bn : List Str) (ds : List DefI) : Bool := ds.all (ckDef (tabOf 0 ds) bn)

/-- what a def that makes lambdas bears: its code object, the table of the lambdas' code objects -/
def LamC (cs : List (Addr × Addr)) (d : DefI) (fd : FuncData) : Prop := d.lam = true → ∃ p ∈ cs, fd.code = .ref p.1 ∧ (p.2, d.name ++ ".<locals>." ++ "<lambda>") ∈ Tb.T ∧ ∀ q ∈ Tb.T, q.1 = p.2 → q.2 = d.name ++ ".<locals>." ++ "<lambda>"
/-- the defs stand behind the top -/
def AllFun (K : PySem.W.Frag) (cs : List (Addr × Addr)) (mg : Str → Option Value) (ds : List DefI) : Prop := ∀ d ∈ ds, ∃ addr fd, Fun K d.name d.name d.st addr fd ∧ LamC cs d fd ∧ mg d.name = some (.ref addr)
/-- how its arguments bind -/
def BindsD (d : DefI) : Prop := ∀ (kV doc pm : Value) (an : Option Addr) (cdv ct : Value) (us : List Value), us.length = d.ps.length → bindArgs (PySem.W.fnOf d.name d.name (defArgs d.st) (defBody d.st) (defScope d.st) .none kV doc pm an cdv ct) ⟨us, []⟩ = pure (d.ps.zip us)

theorem defs_ok {P : Program} {w : World} {K : PySem.W.Frag} {mg : Str → Option Value} {base : Heap} {ds : List DefI} {bn : List Str} {cs : List (Addr × Addr)} (hck : ckDefs bn ds = true) (hA : AllFun K cs mg ds) (hB : ∀ d ∈ ds, BindsD d) (hb : ∀ x ∈ bn, mg x = none) (hT : ∀ p ∈ cs, LamX.TabB base mg p.1 p.2) :
    ∀ (k : Nat) (i : Nat) (d : DefI) (addr : Addr) (fd : FuncData), ds[i]? = some d → Fun K d.name d.name d.st addr fd → LamC cs d fd → FnG P w K mg base k addr fd d.ps (spF K (semF (ds.map (·.F)) k) i d.F.re.length) := by
  intro k
  have psl : ∀ (d : DefI), ckDef (tabOf 0 ds) bn d = true → d.ps.length = d.F.re.length := fun d h => by
    simp only [ckDef, Bool.and_eq_true, decide_eq_true_eq] at h
    unfold DefI.ps
    rw [List.length_take]
    omega
  induction k with
  | zero =>
    intro i d addr fd hi hF hLC
    have hd := List.all_eq_true.mp hck d (List.mem_of_getElem? hi)
    refine ⟨fun vs H Q E h => by rw [h.1, psl d hd], fun A outer s H args us vs Q E _ _ _ _ _ h => ?_⟩
    obtain ⟨_, _, _, _, _, q, _, _, _, _, _, hC, _⟩ := h
    cases hC
  | succ k ih =>
    intro i d addr fd hi hF hLC
    have hd := List.all_eq_true.mp hck d (List.mem_of_getElem? hi)
    have hl := psl d hd
    simp only [ckDef, Bool.and_eq_true, decide_eq_true_eq] at hd
    obtain ⟨⟨⟨h1, h2⟩, h3⟩, h4⟩ := hd
    have S := scB_ok h1
    refine fn_step (T := ds.map (·.F)) (F := d.F) (by rw [List.getElem?_map, hi]; rfl) hF S hl h2 h3 fun X e1 e2 e3 e4 e5 e6 calm room gd sc fn nx ecd equ => ?_
    have St : Sit ⟨d.N, tabOf 0 ds, bn, d.lam⟩ (semF (ds.map (·.F)) k) k (defScope d.st) true X := {
      calm := calm
      nn := e6
      nd := S.nd
      room := room
      gd := gd
      sc := sc
      fn := fun _ => fn
      bl := fun x hx => by rw [e4]; exact hb x hx
      fs := fun x f np hm => by
        obtain ⟨_, d', g1, g2, g3⟩ := tabOf_mem hm
        rw [Nat.sub_zero] at g1
        obtain ⟨addr', fd', a1, aL, a2⟩ := hA d' (List.mem_of_getElem? g1)
        rw [e1, e2, e3, e4, e5, ← g2, ← g3]
        exact ⟨addr', fd', d'.ps, ih f d' addr' fd' g1 a1 aL, a2, a1.kp, a1.binds (hB d' (List.mem_of_getElem? g1))⟩
      lam := fun hl _ => by
        obtain ⟨p, p1, p2, p3, p4⟩ := hLC hl
        unfold Mk
        rw [e4, e5, ecd, equ]
        exact ⟨p.1, p.2, hT p p1, p2, p3, p4⟩ }
    have this : PSs X (defBody d.st) (tSts X.K (semF (ds.map (·.F)) k) d.F.re.length (prS d.F.re) d.F.body) := sss_ok (np := d.F.re.length) (cks_sound St S.kind nx 60) h4
    exact e3 ▸ this

theorem AllFun.sub {K K0 : PySem.W.Frag} {cs : List (Addr × Addr)} {mg : Str → Option Value} {ds : List DefI} (h : AllFun K cs mg ds) (S : SubK K K0) : AllFun K0 cs mg ds := fun d hd => by
  obtain ⟨addr, fd, h1, h2⟩ := h d hd
  exact ⟨addr, fd, Ev.Fun.sub h1 S, h2⟩

/-- a law by what the small language computes -/
theorem sp_law {T : List Fn} {k i : Nat} {K : PySem.W.Frag} {H : Hp} {a : Addr} {ns : List Int} (hr : Rd H a (.lst (ns.map V.int))) (ht : ∀ p ∈ Tb.T, LamX.TabS H p.1 p.2) (h : ∃ o fin, semF T k i [⟨.list (ns.map .int), .frz⟩] = some (.bool true, o, fin)) :
    spF K (semF T k) i 1 [.ref a] H (fun v _ => v = .bl true) E0 := by
  obtain ⟨o, fin, h⟩ := h
  have fi : FpAll K H (ns.map V.int) (ns.map .int) [] := by
    induction ns with
    | nil => exact .nil
    | cons n ns _ =>
      have : ∀ l : List Int, FpAll K H (l.map V.int) (l.map .int) [] := fun l => by
        induction l with
        | nil => exact .nil
        | cons n l ih => exact .cons (F := []) (.int n) ih
      exact this _
  refine ⟨rfl, [], [a], fun k => if k = .s 0 then some ⟨.ref a, .list (ns.map .int), [a], []⟩ else none, [⟨.list (ns.map .int), .frz⟩], _, ⟨Keeps.refl _ _, fun _ z => z, fun q c e b hb => ?_, fun q c e => ?_, fun q c e b hb => ?_, fun q q' c c' hne e e' b hb => ?_, ht⟩, fun j => ?_, fun j => rfl, fun j => rfl, rfl, h, ?_⟩
  · split at e
    · cases e; exact .inr hb
    · cases e
  · split at e
    · cases e; exact .lst hr fi
    · cases e
  · split at e
    · cases e; cases hb
    · cases e
  · split at e
    · cases e; cases hb
    · cases e
  · rw [getS_map]
    cases j with
    | zero => exact ⟨_, rfl, rfl, rfl, rfl⟩
    | succ j =>
      show (if Ky.s (j + 1) = .s 0 then _ else none) = none
      rw [if_neg (by intro z; cases z)]
  · intro v H' cs' F X g _ _ e _
    have fp := g.fp _ _ e
    cases fp
    rfl
end Ev
set_option maxHeartbeats 4000000
set_option maxRecDepth 100000
/-! From the top's heap to the law. -/
namespace Ev
open PySem PySem.Spec PyProof.Rows L2
variable [Tb]

theorem fnil {α : Type} {P : α → Prop} : ∀ d ∈ ([] : List α), P d := fun d h => by cases h
theorem fcons {α : Type} {P : α → Prop} {d : α} {ds : List α} (h : P d) (t : ∀ d ∈ ds, P d) : ∀ e ∈ d :: ds, P e := fun e he => by
  rcases List.mem_cons.mp he with rfl | he
  · exact h
  · exact t e he
/-- a def that stands behind the top -/
theorem fun_at {cs : List (Addr × Addr)} {N : List Str} {Fd : Fn} {lm : Bool} {K : PySem.W.Frag} {h : Heap} {mg : Str → Option Value} {x : Str} {st : Stmt} {f : Addr} {oc : Value} {od an : Option Addr} {sl : Array (Option Value)} {kV dc pm cd ct : Value} (X : K.In h) (G : h.Ns mainGlobals mg)
    (a : PySem.W.nsIn K mainGlobals x = some (some (.ref f))) (l : K.lookup f = some ⟨oc, od, .func (PySem.W.fnOf x x (defArgs st) (defBody st) (defScope st) .none kV dc pm an cd ct), sl⟩) (c : PySem.W.codeIn K cd x = true) (k : PySem.W.keepIn K (.ref f) = true) (L : lm = true → ∃ p ∈ cs, cd = .ref p.1 ∧ (p.2, x ++ ".<locals>." ++ "<lambda>") ∈ Tb.T ∧ ∀ q ∈ Tb.T, q.1 = p.2 → q.2 = x ++ ".<locals>." ++ "<lambda>") :
    ∃ addr fd, Fun K x x st addr fd ∧ LamC cs ⟨x, st, N, Fd, lm⟩ fd ∧ mg x = some (.ref addr) := ⟨f, _, fun_mk l c k, L, PySem.W.mg_of X G a⟩
theorem all_of {P : Program} {w : World} {K : PySem.W.Frag} {mg : Str → Option Value} {ds : List DefI} {bn : List Str} {i k : Nat} {d : DefI} {fa : Addr} {p : Str} {cs : List (Addr × Addr)} (hck : ckDefs bn ds = true) (hB : ∀ d ∈ ds, BindsD d) (hi : ds[i]? = some d) (hp : d.ps = [p]) (h1 : d.F.re.length = 1)
    (A : AllFun K cs mg ds) (Z : ∀ x ∈ bn, mg x = none) (hfa : mg d.name = some (.ref fa)) :
    ∃ fd : FuncData, (∀ (s : Shared) (u : Value), BindsTo s fd ⟨[u], []⟩ [(p, u)]) ∧ ∀ K0, SubK K K0 → ∀ base : Heap, (∀ p ∈ cs, LamX.TabB base mg p.1 p.2) → FnG P w K0 mg base k fa fd [p] (spF K0 (semF (ds.map (·.F)) k) i 1) := by
  have hm := List.mem_of_getElem? hi
  obtain ⟨addr, fd, F, aL, m⟩ := A d hm
  rw [hfa] at m
  cases m
  refine ⟨fd, fun s u => ?_, fun K0 S base hT => ?_⟩
  · obtain ⟨oc, od, kV, doc, pm, an, cdv, ct, osl, e, _, _⟩ := F.ex
    rw [e]
    have := hB d hm kV doc pm an cdv ct [u] (by rw [hp]; rfl)
    rw [hp] at this
    exact .of_eq this
  · have := defs_ok (P := P) (w := w) (base := base) hck (A.sub S) hB Z hT k i d fa fd hi (Ev.Fun.sub F S) aL
    rw [hp, h1] at this
    exact this
/-- the same in walk_ofG's words -/
theorem fin_of {P : Program} {w : World} {K : PySem.W.Frag} {mg : Str → Option Value} {ds : List DefI} {bn : List Str} {i k : Nat} {d : DefI} {fa : Addr} {p : Str} {cs : List (Addr × Addr)} (hck : ckDefs bn ds = true) (hB : ∀ d ∈ ds, BindsD d) (hi : ds[i]? = some d) (hp : d.ps = [p]) (h1 : d.F.re.length = 1)
    (A : AllFun K cs mg ds) (Z : ∀ x ∈ bn, mg x = none) (hfa : mg d.name = some (.ref fa)) :
    ∃ fd : FuncData, (∀ (s : Shared) (u : Value), BindsTo s fd ⟨[u], []⟩ [(p, u)]) ∧ ∀ K0, SubK K K0 → ∀ base : Heap, K0.In base → base.Ns mainGlobals mg → (∀ p ∈ cs, LamX.TabB base mg p.1 p.2) → FnG P w K0 mg base k fa fd [p] (spF K0 (semF (ds.map (·.F)) k) i 1) := by
  obtain ⟨fd, hb, hF⟩ := all_of hck hB hi hp h1 A Z hfa
  exact ⟨fd, hb, fun K0 S base _ _ hT => hF K0 S base hT⟩
end Ev
set_option maxHeartbeats 4000000
set_option maxRecDepth 100000
/-! From the top's heap to the law, where defs make lambdas: cs holds the makers' code objects and their tables. -/
namespace Ev
open PySem PySem.Spec PyProof.Rows L2 LamX
variable [Tb]
theorem law_callT {P : Program} {w : World} {K : PySem.W.Frag} {mg mb : Str → Option Value} {k : Nat} {fa a : Addr} {cs : List (Addr × Addr)} {fd : FuncData} {x : Str} {sp : Sp} {s₁ : Shared} {vs : List Value} {ns : List Int}
    (KX : K.In s₁.heap) (hka : K.lookup a = none) (hns : s₁.heap.Ns mainGlobals mg) (hb : s₁.heap.Ns builtinsNs mb) (hbb : ∀ x : Str, x ≠ "__name__" → mb x = bootBuiltins x) (hlim : s₁.heap.NoLimit) (hg : s₁.gens = #[])
    (hT : ∀ p ∈ cs, s₁.heap.get? p.2 = some { cls := .none, data := .fields #[] }) (nT : ∀ p ∈ cs, K.lookup p.2 = none) (C : ∀ p ∈ cs, PySem.W.CodeHd s₁.heap p.1 p.2)
    (hbm : ∃ (bm : Addr) (ob : Obj), mg "__builtins__" = some (.ref bm) ∧ bm ≠ builtinsNs ∧ s₁.heap.get? bm = some ob ∧ ob.cls = .type "module" ∧ ob.dict = some builtinsNs ∧ ob.data = .plain)
    (ha : s₁.heap.get? a = some { cls := .type "list", data := .seq vs.toArray }) (hi : IntsAre vs ns) (hl : ns.length ≤ sizeLine) (hr : Room k callerA)
    (F : ∀ base : Heap, K.In base → base.Ns mainGlobals mg → (∀ p ∈ cs, TabB base mg p.1 p.2) → FnG P w K mg base k fa fd [x] sp) (hbind : ∀ (s : Shared) (u : Value), BindsTo s fd ⟨[u], []⟩ [(x, u)])
    (hsp : ∀ H : Hp, (∀ p ∈ cs, H p.2 = some (.tbl #[])) → Rd H a (.lst (ns.map V.int)) → sp [.ref a] H (fun v _ => v = .bl true) E0) :
    codeAny (model P w) callerA (.call (.ref fa) ⟨[.ref a], []⟩) (fun r s' => r = .ok (.ret (.bool true)) ∧ OldK s₁.heap s'.heap ∧ s'.os = s₁.os ∧ AllBare s'.gens) s₁ := by
  have rv := vals_ints hi
  have isT : ∀ b ∈ cs.map (·.2), s₁.heap.get? b = some { cls := .none, data := .fields #[] } := fun b hb => by
    obtain ⟨p, hp, rfl⟩ := List.mem_map.mp hb
    exact hT p hp
  have memT : ∀ p ∈ cs, p.2 ∈ cs.map (·.2) := fun p hp => List.mem_map.mpr ⟨p, hp, rfl⟩
  have aT : a ∉ cs.map (·.2) := fun z => by
    have q := isT a z
    rw [ha] at q; cases q
  generalize hH : (fun b => if b = a then some (HO.frz { cls := .type "list", data := .seq vs.toArray } (.lst (ns.map V.int))) else if b ∈ cs.map (·.2) then some (.tbl #[]) else none : Hp) = H
  have Ha : H a = some (.frz { cls := .type "list", data := .seq vs.toArray } (.lst (ns.map V.int))) := by rw [← hH]; exact if_pos rfl
  have Ht : ∀ b ∈ cs.map (·.2), H b = some (.tbl #[]) := fun b hb => by
    rw [← hH]
    exact (if_neg fun z => aT (by rw [← z]; exact hb)).trans (if_pos hb)
  have Hn : ∀ b, b ≠ a → b ∉ cs.map (·.2) → H b = none := fun b h1 h2 => by
    rw [← hH]
    exact (if_neg h1).trans (if_neg h2)
  have cas : ∀ b, b = a ∨ b ∈ cs.map (·.2) ∨ H b = none := fun b => by
    by_cases h1 : b = a
    · exact .inl h1
    · by_cases h2 : b ∈ cs.map (·.2)
      · exact .inr (.inl h2)
      · exact .inr (.inr (Hn b h1 h2))
  have hok : HOk P w H s₁.heap := fun b u z => by
    rcases cas b with h | h | h
    · subst h
      rw [Ha] at z; cases z
      exact ⟨ha, by rw [List.length_map]; exact hl, vs, _, rv, ha⟩
    · rw [Ht b h] at z; cases z
      exact isT b h
    · rw [h] at z; cases z
  have noD : ∀ {b : Addr} {o : Obj}, s₁.heap.get? b = some o → (∀ vs n, o.data ≠ .seq vs n) → o.data ≠ .fields #[] → H b = none := fun {b o} e h1 h2 => by
    rcases cas b with h | h | h
    · subst h
      rw [ha] at e; cases e
      exact (h1 _ _ rfl).elim
    · rw [isT b h] at e; cases e
      exact (h2 rfl).elim
    · exact h
  have noA : ∀ {b : Addr} {o : Obj} {es : Array DictEntry} {ep : Nat}, s₁.heap.get? b = some o → o.data = .dict es ep → H b = none := fun {b o es ep} e d =>
    noD e (fun vs n z => by rw [d] at z; cases z) fun z => by rw [d] at z; cases z
  have nsK : ∀ {b : Addr} {m : Str → Option Value}, s₁.heap.Ns b m → (hidT s₁.heap H).Ns b m := fun {b m} ⟨o, es, ep, e, d, r⟩ => ⟨o, es, ep, hidT_get e (noA e d), d, r⟩
  have hKb : K.In (hidT s₁.heap H) := fun b o e => hidT_get (KX b o e) (by
    rcases cas b with h | h | h
    · rw [h, hka] at e; cases e
    · obtain ⟨p, hp, rfl⟩ := List.mem_map.mp h
      rw [nT p hp] at e; cases e
    · exact h)
  have hM : Mod K mg (hidT s₁.heap H) := ⟨hKb, nsK hns, ⟨mb, nsK hb, hbb⟩, let ⟨mc, h1, h2⟩ := hlim; ⟨mc, nsK h1, h2⟩⟩
  have TB : ∀ p ∈ cs, TabB (hidT s₁.heap H) mg p.1 p.2 := fun p hp => by
    have hTp := hT p hp
    refine ⟨?_, ?_, fun z => ?_⟩
    · obtain ⟨o, us, file, tf, flags, tg, inF, text, tt, e1, r1, r2, r3, r⟩ := C p hp
      refine ⟨o, us, file, tf, flags, tg, inF, text, tt, hidT_get e1 (noD e1 (fun vs n z => by rw [r2] at z; cases z) fun z => ?_), r1, r2, r3, r⟩
      rw [r2] at z
      cases z
      simp at r3
    · obtain ⟨bm, ob, b1, b2, b3, b4, b5, b6⟩ := hbm
      have nG : bm ≠ mainGlobals := fun q => by
        obtain ⟨o, es, ep, e, hd, _⟩ := hns
        rw [q, e] at b3
        cases b3
        rw [hd] at b6
        cases b6
      have nP : bm ≠ p.2 := fun q => by
        rw [q, hTp] at b3
        cases b3
        cases b6
      exact ⟨bm, ob, b1, b2, nG, nP, hidT_get b3 (noD b3 (fun vs n z => by rw [b6] at z; cases z) fun z => by rw [b6] at z; cases z), b4, b5, b6⟩
    · obtain ⟨o, es, ep, e, hd, _⟩ := hns
      rw [z, hTp] at e
      cases e
      cases hd
  have e0 : Env0 P w K mg (hidT s₁.heap H) callerA [] s₁ H := ⟨rfl, hM, fun b o e => of_hidT e, Nat.le_of_eq (hidT_size _ _), trivial, fun b hb => (by cases (show b ∈ ([] : List Addr) from hb)), hok, .of_eq hg⟩
  refine codeAny_mono ((F _ hKb (nsK hns) TB).run callerA [] s₁ H ⟨[.ref a], []⟩ [.ref a] [.ref a] _ _ hr rfl e0 (hbind s₁ (.ref a)) (.cons rfl .nil) (hsp H (fun p hp => Ht _ (memT p hp)) (.inr ⟨_, Ha⟩))) fun r s' h => ?_
  cases r with
  | error e => exact (h : False).elim
  | ok fl =>
    cases fl with
    | next => exact False.elim h
    | brk => exact False.elim h
    | cont => exact False.elim h
    | ret u =>
      obtain ⟨v, H', os, bare, un, hok', r', q⟩ := h
      obtain rfl : v = .bl true := q
      obtain rfl : u = Value.bool true := r'
      have key : ∀ b o, b ∉ cs.map (·.2) → s₁.heap.get? b = some o → s'.heap.get? b = some o := fun b o nb e => by
        rcases cas b with h | h | h
        · subst h
          obtain ⟨e1, _⟩ := hok b _ Ha
          obtain ⟨e2, _⟩ := hok' b _ (un.frzs b _ _ Ha)
          rw [e] at e1; cases e1
          exact e2
        · exact absurd h nb
        · exact un.keep b o e h (by intro z; cases (show b ∈ ([] : List Addr) from z)) (by simp)
      refine ⟨rfl, ⟨fun b o e => ?_, fun b o e => ?_⟩, os, bare⟩
      · by_cases hb : b ∈ cs.map (·.2)
        · obtain ⟨p, hp, rfl⟩ := List.mem_map.mp hb
          obtain ⟨more, z⟩ := un.tbls p.2 #[] (Ht _ hb)
          rw [hT p hp] at e
          cases e
          exact .inr (.inl ⟨((C p hp).tab (hT p hp)).isCodeTable, rfl, #[], more, rfl, by rw [Array.empty_append]; have := hok' p.2 _ z; rw [Array.empty_append] at this; exact this⟩)
        · exact .inl (key b o hb e)
      · by_cases hb : b ∈ cs.map (·.2)
        · obtain ⟨p, hp, rfl⟩ := List.mem_map.mp hb
          obtain ⟨more, z⟩ := un.tbls p.2 #[] (Ht _ hb)
          exact ⟨_, hok' p.2 _ z⟩
        · exact ⟨o, key b o hb e⟩
theorem walk_ofT {l : PySem.W.OpenLaw} {n k : Nat} {q : Program} {loose : List Str} {XP : (Str → Option Value) → Heap → Prop} {YP : World → Heap → Prop} {d : DefRec} {K : Params → PySem.W.Frag} {cs : List (Addr × Addr)} {sp : PySem.W.Frag → Sp} {x : Str}
    (hn : l.most = some n) (hn2 : n ≤ sizeLine) (hdf : d.params.defaults = []) (hr : Room k callerA)
    (hY : ∀ (w : World) (h : Heap), YP w h → (K w.params).In h ∧ ∀ p ∈ cs, h.get? p.2 = some { cls := .none, data := .fields #[] })
    (hc : ∀ (w : World), ∀ p ∈ cs, (K w.params).lookup p.2 = none ∧ PySem.W.codeHdIn (K w.params) p.1 p.2 = true)
    (F : ∀ (w : World) (mg : Str → Option Value) (fa : Addr) (h : Heap), (K w.params).In h → h.Ns mainGlobals mg → mg d.name = some (.ref fa) →
      ∃ fd : FuncData, (∀ (s : Shared) (u : Value), BindsTo s fd ⟨[u], []⟩ [(x, u)]) ∧
        ∀ K0, SubK (K w.params) K0 → ∀ base : Heap, K0.In base → base.Ns mainGlobals mg → (∀ p ∈ cs, TabB base mg p.1 p.2) → FnG l.prog w K0 mg base k fa fd [x] (sp K0))
    (hsp : ∀ (K0 : PySem.W.Frag) (H : Hp) (a : Addr) (ns : List Int), ns.length ≤ n → (∀ p ∈ cs, H p.2 = some (.tbl #[])) → Rd H a (.lst (ns.map V.int)) → sp K0 [.ref a] H (fun v _ => v = .bl true) E0) :
    PySem.W.WalkO q loose XP YP l.row.toRowW d [] (fun f vs => PySem.call f vs) := by
  refine Att.attach_call hn hdf fun w s₀ s₁ mg mb fa o pm cd doc a vs ns G Y ho hd hcd hmg hobj hints hlen hg => ?_
  obtain ⟨KX, hT⟩ := hY w _ Y
  obtain ⟨fd, hb, hF⟩ := F w mg fa _ KX G.T.g hmg
  have sub : SubK (K w.params) ((K w.params).filter fun p => p.1 != a) := fun b o e hn => by
    rw [lookup_filter, if_neg]
    · exact e
    · intro z
      subst z
      have := KX _ _ e
      rw [hobj] at this
      cases this
      exact hn _ _ rfl
  have KX0 : PySem.W.Frag.In ((K w.params).filter fun p => p.1 != a) s₁.heap := fun b o e => by
    rw [lookup_filter] at e
    split at e
    · cases e
    · exact KX _ _ e
  have nT : ∀ p ∈ cs, List.lookup p.2 ((K w.params).filter fun p => p.1 != a) = none := fun p hp => by
    rw [lookup_filter]
    split
    · rfl
    · exact (hc w p hp).1
  exact law_callT KX0 (by rw [lookup_filter, if_pos rfl]) G.T.g G.T.b G.T.builtins G.T.nolimit hg hT nT (fun p hp => PySem.W.codeHd_of_K KX (hc w p hp).2) G.T.bmain hobj hints (Nat.le_trans hlen hn2) hr (hF _ sub) hb fun H h1 hS => hsp _ H a ns hlen h1 hS
/-- the tables as they are at first -/
theorem tabs_nil {cs : List (Addr × Addr)} {H : Hp} (hC : ∀ p ∈ Tb.T, p.1 ∈ cs.map (·.2)) (h : ∀ p ∈ cs, H p.2 = some (.tbl #[])) : ∀ p ∈ Tb.T, TabS H p.1 p.2 := fun p hp => by
  obtain ⟨q, q1, q2⟩ := List.mem_map.mp (hC p hp)
  exact TabS.nil (by rw [← q2]; exact h q q1)
end Ev
/-! The small language without flags: what a def computes, as values alone. -/
namespace Ev
open PySem

abbrev PEn := List (Option D)
def getP (env : PEn) (i : Nat) : Option D := match env[i]? with
  | some (some d) => some d
  | _ => none
def putP (env : PEn) (i : Nat) (d : D) : PEn := env.set i (some d)

inductive POd where
  | slot (i : Nat)
  | tmp (d : D)

def pFetch (env : PEn) : POd → Option D
  | .slot i => getP env i
  | .tmp d => some d
def pFetchAll (env : PEn) : List POd → Option (List D)
  | [] => some []
  | o :: os => (pFetch env o).bind fun d => (pFetchAll env os).map fun ds => d :: ds

/-- a def by number: its arguments; its result, the arguments behind it -/
abbrev PFS := Nat → List D → Option (D × List D)

/-- what the lent slots hold behind a call -/
def pBack (env : PEn) : List POd → List D → Option PEn
  | [], [] => some env
  | .slot i :: os, t :: ts => pBack (putP env i t) os ts
  | .tmp _ :: os, _ :: ts => pBack env os ts
  | _, _ => none

def pStore (env : PEn) (i : Nat) (d : D) : Option PEn := if i < env.length then some (putP env i d) else none
def pStoreAll (env : PEn) : List Nat → List D → Option PEn
  | [], [] => some env
  | i :: is, d :: ds => (pStore env i d).bind fun e => pStoreAll e is ds
  | _, _ => none
def pAssign (env : PEn) (t : Tg) (d : D) : Option PEn := match t with
  | .nm i => pStore env i d
  | .tp is => match d with
    | .tuple ds => pStoreAll env is ds
    | _ => none
def pWipe (env : PEn) : List Nat → PEn
  | [] => env
  | i :: is => (pWipe env is).set i none

def pComp (tg : Tg) (own : List Nat) (tst : PEn → Option (Bool × PEn)) (elt : PEn → Option (D × PEn)) : List D → PEn → Option (List D × PEn)
  | [], env => some ([], env)
  | x :: xs, env => (pAssign (pWipe env own) tg x).bind fun e1 => (tst e1).bind fun q =>
    if q.1 then (elt q.2).bind fun r => (pComp tg own tst elt xs r.2).map fun z => (r.1 :: z.1, z.2)
    else pComp tg own tst elt xs q.2

def pKeys (v : Nat) (body : PEn → Option (D × PEn)) (env : PEn) : List D → Option (List (D × D))
  | [] => some []
  | x :: xs => (pStore env v x).bind fun e => (body e).bind fun r => (pKeys v body env xs).map fun ks => (x, r.1) :: ks

/-- a name or a written constant -/
def pSm (env : PEn) : Ex → Option D
  | .var i => getP env i
  | .cst d => some d
  | _ => none
def pSmAll (env : PEn) : List Ex → Option (List D)
  | [] => some []
  | e :: es => (pSm env e).bind fun d => (pSmAll env es).map fun ds => d :: ds

inductive PFlow where
  | next (env : PEn)
  | ret (d : D) (ps : PEn)
  | brk (env : PEn)
  | cont (env : PEn)

def pWhile (c : PEn → Option (Bool × PEn)) (b : PEn → Option PFlow) : Nat → PEn → Option PFlow
  | 0, _ => none
  | n + 1, env => (c env).bind fun q => if q.1 then (b q.2).bind fun f => match f with
      | .next e' => pWhile c b n e'
      | .cont e' => pWhile c b n e'
      | .brk e' => some (.next e')
      | .ret d p => some (.ret d p)
    else some (.next q.2)
def pFor (tg : Tg) (b : PEn → Option PFlow) : List D → PEn → Option PFlow
  | [], env => some (.next env)
  | x :: xs, env => (pAssign env tg x).bind fun e => (b e).bind fun f => match f with
      | .next e' => pFor tg b xs e'
      | .cont e' => pFor tg b xs e'
      | .brk e' => some (.next e')
      | .ret d p => some (.ret d p)

/-- statements, with names forgotten where they are not wanted any more -/
inductive PSt where
  | s (t : St)
  | ite (c : Ex) (a b : List PSt)
  | whl (c : Ex) (b : List PSt)
  | for (t : Tg) (k : Ik) (its : List Ex) (b : List PSt)
  | wipe (is : List Nat)

mutual
def PSt.bare : PSt → List St
  | .s t => [t]
  | .ite c a b => [.ite c (bareL a) (bareL b)]
  | .whl c b => [.whl c (bareL b)]
  | .for t k its b => [.for t k its (bareL b)]
  | .wipe _ => []
def bareL : List PSt → List St
  | [] => []
  | s :: ss => s.bare ++ bareL ss
end
structure PFn where
  re : List Bool
  ns : Nat
  body : List PSt
def PFn.bare (F : PFn) : Fn := ⟨F.re, F.ns, bareL F.body⟩

section
variable (C : PFS)
mutual
def pE : Ex → PEn → Option (D × PEn)
  | .var i, env => (getP env i).map fun d => (d, env)
  | .cst d, env => some (d, env)
  | .prim p es, env => (pOs es env).bind fun q => (pFetchAll q.2 q.1).bind fun ds => (pm p ds).map fun r => (r, q.2)
  | .tup es, env => (pOs es env).bind fun q => (pFetchAll q.2 q.1).map fun ds => (.tuple ds, q.2)
  | .lst es, env => (pOs es env).bind fun q => (pFetchAll q.2 q.1).map fun ds => (.list ds, q.2)
  | .andE a b, env => (pE a env).bind fun r => (asB r.1).bind fun k =>
      if k then (pE b r.2).bind fun r2 => (asB r2.1).map fun k2 => (.bool k2, r2.2) else some (.bool false, r.2)
  | .orE a b, env => (pE a env).bind fun r => (asB r.1).bind fun k =>
      if k then some (.bool true, r.2) else (pE b r.2).bind fun r2 => (asB r2.1).map fun k2 => (.bool k2, r2.2)
  | .notE a, env => (pE a env).bind fun r => (asB r.1).map fun k => (.bool (!k), r.2)
  | .ite c a b, env => (pE c env).bind fun r => (asB r.1).bind fun k => if k then pE a r.2 else pE b r.2
  | .chain p q a b c, env => (pE a env).bind fun ra => (pE b ra.2).bind fun rb =>
      (pm p [ra.1, rb.1]).bind fun k => (asB k).bind fun k => if k then (pE c rb.2).bind fun rc =>
        (pm q [rb.1, rc.1]).bind fun k2 => (asB k2).map fun k2 => (.bool k2, rc.2)
      else some (.bool false, rb.2)
  | .call f es, env => (pOs es env).bind fun q => (pFetchAll q.2 q.1).bind fun as => (C f as).bind fun r => (pBack q.2 q.1 r.2).map fun e => (r.1, e)
  | .comp elt tg k its ifs own, env => (pOs its env).bind fun q => (pFetchAll q.2 q.1).bind fun ds => (itemsOf k ds).bind fun xs =>
      if xs.length < big then (pComp tg own (pTs ifs) (pE elt) xs q.2).map fun z => (.list z.1, pWipe z.2 own) else none
  | .sortk es rg v body, env => (pOs es env).bind fun q => (pFetchAll q.2 q.1).bind fun ds => (itemsOf (if rg then .rng1 else .seq) ds).bind fun xs =>
      (pKeys v (pE body) q.2 xs).bind fun ks => if sortOk (ks.map (·.2)) then some (.list (sortKD ks), q.2) else none
  | .meth m i es, env => (getP env i).bind fun _ => (pOs es env).bind fun q => (pFetchAll q.2 q.1).bind fun vs => (getP q.2 i).bind fun d => (asL d).bind fun xs =>
      (change m xs vs).map fun w => (w.1, putP q.2 i (.list w.2))
  | .methAt m i k es, env => (pSm env k).bind fun dk => (pSmAll env es).bind fun as => (getP env i).bind fun d => (getK (keyE k) d dk).bind fun l => (asL l).bind fun xs =>
      (change m xs as).bind fun w => (putIn (keyE k) d dk (.list w.2)).map fun d' => (w.1, putP env i d')
  | .lenAt p i k, env => (pSm env k).bind fun dk => (getP env i).bind fun d => (getK (keyE k) d dk).bind fun d => (pm1 p d).map fun r => (r, env)
  | .dictS ks es, env => (pOs es env).bind fun q => (pFetchAll q.2 q.1).bind fun ds =>
      if ks.Nodup ∧ ks.length ≤ 15 ∧ ks.length = es.length then some (.dict ((ks.map .str).zip ds), q.2) else none
def pOs : List Ex → PEn → Option (List POd × PEn)
  | [], env => some ([], env)
  | .var i :: es, env => (getP env i).bind fun d => (pOs es env).map fun q => ((if imm d then .tmp d else .slot i) :: q.1, q.2)
  | e :: es, env => (pE e env).bind fun r => (pOs es r.2).map fun q => (.tmp r.1 :: q.1, q.2)
def pTs : List Ex → PEn → Option (Bool × PEn)
  | [], env => some (true, env)
  | c :: cs, env => (pE c env).bind fun r => (asB r.1).bind fun k => if k then pTs cs r.2 else some (false, r.2)
end
def pEs : List Ex → PEn → Option (List D × PEn)
  | [], env => some ([], env)
  | e :: es, env => (pE C e env).bind fun r => (pEs es r.2).map fun q => (r.1 :: q.1, q.2)
def pCd (c : Ex) (env : PEn) : Option (Bool × PEn) := (pE C c env).bind fun r => (asB r.1).map fun k => (k, r.2)

/-- statements that hold no others -/
def pT (np : Nat) : St → PEn → Option PFlow
  | .asg t e, env => (pE C e env).bind fun r => (pAssign r.2 t r.1).map .next
  | .par ts es, env => (pEs C es env).bind fun q => (pStoreAll q.2 ts q.1).map .next
  | .setAt i k e, env => (pE C e env).bind fun r => (pSm r.2 k).bind fun dk => (getP r.2 i).bind fun d =>
      (putIn (keyE k) d dk r.1).map fun d' => .next (putP r.2 i d')
  | .augAt i k e, env => (pSm env k).bind fun dk => (getP env i).bind fun d0 => (getK false d0 dk).bind fun o => (asI o).bind fun n => (pE C e env).bind fun r => (asI r.1).bind fun m => (getP r.2 i).bind fun d =>
      (putIn false d dk (.int (n + m))).map fun d' => .next (putP r.2 i d')
  | .augL i e, env => (getP env i).bind fun d => (asI d).bind fun n => (pE C e env).bind fun r => (asI r.1).bind fun m => (pStore r.2 i (.int (n + m))).map .next
  | .ex e, env => (pE C e env).map fun r => .next r.2
  | .ret e, env => (pE C e env).map fun r => .ret r.1 (r.2.take np)
  | .retN, env => some (.ret .none (env.take np))
  | .brk, env => some (.brk env)
  | .cont, env => some (.cont env)
  | .pass, env => some (.next env)
  | _, _ => none
mutual
def pS (np : Nat) : PSt → PEn → Option PFlow
  | .s t, env => pT C np t env
  | .ite c a b, env => (pCd C c env).bind fun q => if q.1 then pSs np a q.2 else pSs np b q.2
  | .whl c b, env => pWhile (pCd C c) (pSs np b) fuel env
  | .for t k its b, env => (pOs C its env).bind fun q => (pFetchAll q.2 q.1).bind fun ds => (itemsOf k ds).bind fun xs => pFor t (pSs np b) xs q.2
  | .wipe is, env => some (.next (pWipe env is))
def pSs (np : Nat) : List PSt → PEn → Option PFlow
  | [], env => some (.next env)
  | s :: ss, env => (pS np s env).bind fun f => match f with
    | .next e => pSs np ss e
    | .ret d p => some (.ret d p)
    | .brk e => some (.brk e)
    | .cont e => some (.cont e)
end

/-- the parameters in the end -/
def pOut (env : PEn) : Nat → List Bool → List D → Option (List D)
  | _, [], [] => some []
  | n, true :: re, a :: as => (pOut env (n + 1) re as).map fun r => a :: r
  | n, false :: re, _ :: as => (getP env n).bind fun d => (pOut env (n + 1) re as).map fun r => d :: r
  | _, _, _ => none

def pRun (F : PFn) (as : List D) : Option (D × List D) :=
  if as.length = F.re.length then
    (pSs C F.re.length F.body (as.map some ++ List.replicate (F.ns - F.re.length) none)).bind fun f => match f with
      | .ret d p => (pOut p 0 F.re as).map fun r => (d, r)
      | .next e => (pOut (e.take F.re.length) 0 F.re as).map fun r => (.none, r)
      | _ => none
  else none
end
def pSem (P : List PFn) : Nat → PFS
  | 0 => fun _ _ => none
  | k + 1 => fun f as => (P[f]?).bind fun F => pRun (pSem P k) F as
end Ev
/-! Shapes and flags known ahead; the look that tells them. -/
namespace Ev
open PySem

inductive Sh where
  /-- no value -/
  | b
  /-- can't be changed -/
  | i
  | l (s : Sh)
  | t (ss : List Sh)
  | d (ks : List Str) (ss : List Sh)
  /-- not known -/
  | x

mutual
def Sh.has : Sh → D → Prop
  | .b, _ => False
  | .i, d => imm d = true
  | .l s, d => ∃ xs, d = .list xs ∧ ∀ x ∈ xs, s.has x
  | .t ss, d => ∃ xs, d = .tuple xs ∧ hasAll ss xs
  | .d ks ss, d => ∃ xs, d = .dict ((ks.map .str).zip xs) ∧ hasAll ss xs ∧ ks.length = ss.length
  | .x, _ => True
def hasAll : List Sh → List D → Prop
  | [], xs => xs = []
  | s :: ss, xs => ∃ y ys, xs = y :: ys ∧ s.has y ∧ hasAll ss ys
end
mutual
/-- surely can be changed -/
def Sh.mut : Sh → Bool
  | .b => false
  | .i => false
  | .l _ => true
  | .t ss => mutAny ss
  | .d _ _ => true
  | .x => false
def mutAny : List Sh → Bool
  | [] => false
  | s :: ss => s.mut || mutAny ss
end
def Sh.isI : Sh → Bool
  | .b => true
  | .i => true
  | _ => false
mutual
def shLe : Sh → Sh → Bool
  | .b, _ => true
  | .i, r => match r with
    | .i => true
    | .x => true
    | _ => false
  | .l s, r => match r with
    | .l t => shLe s t
    | .x => true
    | _ => false
  | .t ss, r => match r with
    | .t ts => shLes ss ts
    | .x => true
    | _ => false
  | .d ks ss, r => match r with
    | .d js ts => decide (ks = js) && shLes ss ts
    | .x => true
    | _ => false
  | .x, r => match r with
    | .x => true
    | _ => false
def shLes : List Sh → List Sh → Bool
  | [], [] => true
  | s :: ss, t :: ts => shLe s t && shLes ss ts
  | _, _ => false
end
mutual
def shJn : Sh → Sh → Sh
  | .b, r => r
  | .i, r => match r with
    | .b => .i
    | .i => .i
    | _ => .x
  | .l s, r => match r with
    | .b => .l s
    | .l t => .l (shJn s t)
    | _ => .x
  | .t ss, r => match r with
    | .b => .t ss
    | .t ts => if ss.length = ts.length then .t (shJns ss ts) else .x
    | _ => .x
  | .d ks ss, r => match r with
    | .b => .d ks ss
    | .d js ts => if ks = js ∧ ss.length = ts.length then .d ks (shJns ss ts) else .x
    | _ => .x
  | .x, _ => .x
def shJns : List Sh → List Sh → List Sh
  | [], _ => []
  | s :: ss, ts => match ts with
    | [] => s :: ss
    | t :: ts => shJn s t :: shJns ss ts
end
/-- a tuple's shape -/
def mkT (ss : List Sh) : Sh := if ss.all Sh.isI then .i else .t ss

/-- which flags may be -/
structure Fs where
  o : Bool
  s : Bool
  f : Bool
  k : Bool
  deriving DecidableEq
def Fs.has (a : Fs) : Fl → Bool
  | .own => a.o
  | .spn => a.s
  | .frz => a.f
  | .lck => a.k
def Fs.le (a b : Fs) : Bool := (!a.o || b.o) && (!a.s || b.s) && (!a.f || b.f) && (!a.k || b.k)
def Fs.jn (a b : Fs) : Fs := ⟨a.o || b.o, a.s || b.s, a.f || b.f, a.k || b.k⟩
def fO : Fs := ⟨true, false, false, false⟩
def fF : Fs := ⟨false, false, true, false⟩
/-- whether it may be its own, whether it may not -/
structure Ob where
  t : Bool
  f : Bool
  deriving DecidableEq
def Ob.has (a : Ob) : Bool → Bool
  | true => a.t
  | false => a.f
def oT : Ob := ⟨true, false⟩
def oF : Ob := ⟨false, true⟩
def oA : Ob := ⟨true, true⟩
def Ob.le (a b : Ob) : Bool := (!a.t || b.t) && (!a.f || b.f)
def Ob.jn (a b : Ob) : Ob := ⟨a.t || b.t, a.f || b.f⟩

/-- what is known of a slot; sm: what came in stands there still -/
structure As where
  sh : Sh
  fs : Fs
  sm : Bool
abbrev AEn := List As
def As.le (a b : As) : Bool := shLe a.sh b.sh && a.fs.le b.fs && (!b.sm || a.sm)
def As.jn (a b : As) : As := ⟨shJn a.sh b.sh, a.fs.jn b.fs, a.sm && b.sm⟩
def aLe : AEn → AEn → Bool
  | [], [] => true
  | a :: as, b :: bs => a.le b && aLe as bs
  | _, _ => false
def aJn0 : AEn → AEn → AEn
  | a :: as, b :: bs => a.jn b :: aJn0 as bs
  | _, _ => []
def aJn (A B : AEn) : Option AEn := let J := aJn0 A B
  if aLe A J && aLe B J then some J else none
def aJnO : Option AEn → Option AEn → Option (Option AEn)
  | none, b => some b
  | a, none => some a
  | some a, some b => (aJn a b).map some

inductive AOd where
  | slot (i : Nat)
  | tmp (s : Sh) (o : Ob)
def aSh (A : AEn) : AOd → Option Sh
  | .slot i => (A[i]?).map (·.sh)
  | .tmp s _ => some s
def aShs (A : AEn) : List AOd → Option (List Sh)
  | [] => some []
  | o :: os => (aSh A o).bind fun s => (aShs A os).map fun ss => s :: ss
def aSlots : List AOd → List Nat
  | [] => []
  | .slot i :: os => i :: aSlots os
  | .tmp _ _ :: os => aSlots os
/-- new flags for a slot -/
def aFl (A : AEn) (i : Nat) (g : As → Fs) : Option AEn := (A[i]?).map fun a => A.set i ⟨a.sh, g a, a.sm⟩

def thawF (may : Bool) (a : As) : Fs := match a.sh with
  | .l _ => ⟨a.fs.o && may, a.fs.s || a.fs.o, a.fs.f, a.fs.k⟩
  | .x => ⟨a.fs.o && may, a.fs.s || a.fs.o, a.fs.f || a.fs.o, a.fs.k⟩
  | _ => ⟨a.fs.o && may, a.fs.s, a.fs.f || a.fs.o, a.fs.k⟩
/-- may: it may be that nothing is thawed -/
def aThaw (may : Bool) (A : AEn) : List AOd → Option AEn
  | [] => some A
  | .slot i :: os => (aFl A i (thawF may)).bind fun B => aThaw may B os
  | .tmp _ _ :: os => aThaw may A os
def aFrz1 (A : AEn) (i : Nat) : Option AEn := (A[i]?).bind fun a => if a.fs.k then none else some (A.set i ⟨a.sh, fF, a.sm⟩)
def aFrz (A : AEn) : List AOd → Option AEn
  | [] => some A
  | .slot i :: os => (aFrz1 A i).bind fun B => aFrz B os
  | .tmp _ _ :: os => aFrz A os

structure AR where
  sh : Sh
  ob : Ob
  A : AEn
def aFin (p : Pm) (os : List AOd) (A : AEn) (s : Sh) : Option AR :=
  if s.isI then some ⟨s, oT, A⟩
  else match s with
    | .l e => if newP p then (if e.isI then some ⟨s, oT, A⟩ else (aThaw true A os).map fun B => ⟨s, oA, B⟩) else (aThaw false A os).map fun B => ⟨s, oF, B⟩
    | _ => if s.mut then (aThaw false A os).map fun B => ⟨s, oF, B⟩ else none
/-- a slot read as a value -/
def aRead (A : AEn) (i : Nat) : Option AR := (A[i]?).bind fun a =>
  if a.sh.isI then some ⟨a.sh, oT, A⟩ else if a.sh.mut then (aFrz1 A i).map fun B => ⟨a.sh, oF, B⟩ else none
def aOwn (A : AEn) : AOd → Option AR
  | .slot i => aRead A i
  | .tmp s o => if s.isI then some ⟨s, oT, A⟩ else if s.mut then some ⟨s, o, A⟩ else none
def aGather (A : AEn) : List AOd → Option (List (Sh × Ob) × AEn)
  | [] => some ([], A)
  | o :: os => (aOwn A o).bind fun r => (aGather r.A os).map fun q => ((r.sh, r.ob) :: q.1, q.2)
def aAll (rs : List (Sh × Ob)) : Ob := ⟨rs.all fun r => r.2.t, rs.any fun r => r.2.f⟩
def aThings (rs : List (Sh × Ob)) : List Sh := rs.map (·.1)
def shJnAll : List Sh → Sh
  | [] => .b
  | s :: ss => shJn s (shJnAll ss)
def mkL (ss : List Sh) : Option Sh := let e := shJnAll ss
  if ss.all fun s => shLe s e then some (.l e) else none

/-- a def's look: what comes in, what comes out, the parameters behind it -/
structure Sig where
  f : Nat
  ps : List As
  res : Sh
  ro : Ob
  fin : List As
def aArg (A : AEn) : AOd → Option As
  | .slot i => (A[i]?).bind fun a => if a.fs.k then none else some ⟨a.sh, a.fs, true⟩
  | .tmp s o => if s.isI then some ⟨s, fO, true⟩ else if s.mut then some ⟨s, ⟨o.t, false, o.f, false⟩, true⟩ else none
def aArgs (A : AEn) : List AOd → Option (List As)
  | [] => some []
  | o :: os => (aArg A o).bind fun a => (aArgs A os).map fun as => a :: as
def findSig (f : Nat) (as : List As) : List Sig → Option Sig
  | [] => none
  | s :: r => if s.f = f ∧ aLe as s.ps = true then some s else findSig f as r
def backF (kt kf : Bool) (c p : As) : Fs :=
  let lent := c.fs.o || c.fs.s
  ⟨lent && kt && p.fs.o, lent && kt && p.fs.s, c.fs.f || (lent && ((kt && p.fs.f) || kf)), lent && kt && p.fs.k⟩
def aBack (kt kf : Bool) (A : AEn) : List AOd → List As → Option AEn
  | [], [] => some A
  | .slot i :: os, p :: ps => (A[i]?).bind fun c => if c.fs.k || (c.fs.f && !p.sm) || !p.sh.mut then none else aBack kt kf (A.set i ⟨p.sh, backF kt kf c p, c.sm && p.sm⟩) os ps
  | .tmp _ _ :: os, _ :: ps => aBack kt kf A os ps
  | _, _ => none

/-! ### the shapes of primitives' results -/
def seqSh : Sh → Option Sh
  | .i => some .i
  | .l s => some s
  | .b => some .b
  | _ => none
def idxSh (e : Ex) : Sh → Option Sh
  | .i => some .i
  | .b => some .b
  | .l s => some s
  | .t ss => match e with
    | .cst (.int (.ofNat n)) => ss[n]?
    | _ => none
  | _ => none
def keySh (k : Str) : List Str → List Sh → Option Sh
  | j :: js, s :: ss => if j = k then some s else keySh k js ss
  | _, _ => none
def dctSh (e : Ex) : Sh → Option Sh
  | .d ks ss => match e with
    | .cst (.str k) => keySh k ks ss
    | _ => none
  | _ => none
/-- results that can't be changed, whatever went in -/
def immP : Pm → Bool
  | .sub => true | .fdiv => true | .mod => true | .neg => true | .lt => true | .le => true | .gt => true | .ge => true
  | .eq => true | .ne => true | .isin => true | .notin => true | .isN => true | .notN => true | .len => true | .sum => true
  | .max2 => true | .min2 => true | .maxL => true | .minL => true | .abs => true | .int => true | .repr => true
  | .isInt => true | .isBool => true | .isStr => true | .isTup => true | .isList => true | .lenSet => true | .all => true | .tupRg => true
  | _ => false
def addSh : Sh → Sh → Option Sh
  | .i, .i => some .i
  | .l s, .l t => mkL [s, t]
  | _, _ => none
def keepSh : Sh → Option Sh
  | .i => some .i
  | .l s => some (.l s)
  | _ => none
def primSh (p : Pm) (es : List Ex) (ss : List Sh) : Option Sh :=
  if immP p then some .i else match p, es, ss with
  | .add, _, [a, b] => addSh a b
  | .mul, _, [a, _] => keepSh a
  | .idx, [_, e], [a, _] => idxSh e a
  | .idxD, [_, e], [a, _] => dctSh e a
  | .slLo, _, [a, _] => keepSh a
  | .slHi, _, [a, _] => keepSh a
  | .slLoHi, _, [a, _, _] => keepSh a
  | .rev, _, [a] => match a with
    | .l s => some (.l s)
    | _ => none
  | .sorted, _, [a] => (seqSh a).map .l
  | .sortedR, _, [a] => (seqSh a).map .l
  | .sortedSet, _, [a] => (seqSh a).map .l
  | .listOf, _, [a] => (seqSh a).map .l
  | .tupleOf, _, [a] => (seqSh a).bind fun s => if s.isI then some .i else none
  | .listRg, _, _ => some (.l .i)
  | .listRg2, _, _ => some (.l .i)
  | _, _, _ => none
def itemSh : Ik → List Sh → Option Sh
  | .seq, [a] => seqSh a
  | .rng1, [_] => some .i
  | .rng2, [_, _] => some .i
  | .enum, [a] => (seqSh a).map fun s => mkT [.i, s]
  | .zip, [a, b] => (seqSh a).bind fun s => (seqSh b).map fun t => mkT [s, t]
  | .rev, [a] => seqSh a
  | _, _ => none
/-- a stored value's flags -/
def stF (s : Sh) (o : Ob) : Fs := if s.isI then fO else if s.mut then ⟨o.t, false, o.f, false⟩ else ⟨true, false, true, false⟩
def aStore (A : AEn) (i : Nat) (s : Sh) (o : Ob) : Option AEn := if i < A.length then some (A.set i ⟨s, stF s o, false⟩) else none
def aStoreAll (A : AEn) : List Nat → List (Sh × Ob) → Option AEn
  | [], [] => some A
  | i :: is, r :: rs => (aStore A i r.1 r.2).bind fun B => aStoreAll B is rs
  | _, _ => none
def aAssign (A : AEn) (t : Tg) (s : Sh) (o : Ob) : Option AEn := match t with
  | .nm i => aStore A i s o
  | .tp is => match s with
    | .i => aStoreAll A is (is.map fun _ => (.i, oF))
    | .b => aStoreAll A is (is.map fun _ => (.i, oF))
    | .t ss => aStoreAll A is (ss.map fun s => (s, oF))
    | _ => none
def lockF (a : As) : Fs := match a.sh with
  | .x => ⟨false, false, a.fs.f || a.fs.o, a.fs.k || a.fs.o || a.fs.s⟩
  | .l _ => ⟨false, false, a.fs.f, a.fs.k || a.fs.o || a.fs.s⟩
  | _ => ⟨false, false, a.fs.f || a.fs.o, a.fs.k || a.fs.s⟩
def aLock (A : AEn) : List AOd → Option AEn
  | [] => some A
  | .slot i :: os => (aFl A i lockF).bind fun B => aLock B os
  | .tmp _ _ :: os => aLock A os
def unlockF (w a : As) : Fs := if a.fs.k then
    (match a.sh with
    | .l s => if s.isI then ⟨a.fs.o || w.fs.o, a.fs.s || w.fs.s, a.fs.f || w.fs.f, w.fs.k⟩ else ⟨a.fs.o || w.fs.o, true, a.fs.f || w.fs.f, w.fs.k⟩
    | _ => ⟨a.fs.o || w.fs.o, true, a.fs.f || w.fs.f, w.fs.k⟩)
  else a.fs
def aUnlock (W A : AEn) : List AOd → Option AEn
  | [] => some A
  | .slot i :: os => (W[i]?).bind fun w => (aFl A i (unlockF w)).bind fun B => aUnlock W B os
  | .tmp _ _ :: os => aUnlock W A os
/-- a state that a turn keeps -/
def fixA (step : AEn → Option AEn) : Nat → AEn → Option AEn
  | 0, _ => none
  | n + 1, A => (step A).bind fun B => if aLe B A then some A else fixA step n (aJn0 A B)
def fixOk (step : AEn → Option AEn) (A : AEn) : Option AEn := (fixA step 8 A).bind fun I => if aLe A I then some I else none
def smSh (A : AEn) : Ex → Option Sh
  | .var i => (A[i]?).bind fun a => if a.sh.isI then some .i else none
  | .cst d => if imm d then some .i else none
  | _ => none
def smShs (A : AEn) : List Ex → Bool
  | [] => true
  | e :: es => (smSh A e).isSome && smShs A es
def varsOff (own : List Nat) : List Ex → Bool
  | [] => true
  | .var i :: es => !own.contains i && varsOff own es
  | _ :: es => varsOff own es
def changed (m : Mm) (s : Sh) (rs : List (Sh × Ob)) : Option Sh := match m, rs with
  | .append, [r] => mkL [s, r.1]
  | .extend, [r] => match r.1 with
    | .l t => mkL [s, t]
    | _ => none
  | .popLast, [] => some (.l s)
  | .popAt, [_] => some (.l s)
  | .remove, [_] => if s.isI then some (.l s) else none
  | _, _ => none
def chF (m : Mm) (f : Fs) (s : Sh) (rs : List (Sh × Ob)) : Fs :=
  let keep := match m with
    | .append => (aAll rs)
    | .extend => ⟨true, rs.any fun r => r.2.f && !(match r.1 with | .l t => t.isI | _ => false)⟩
    | _ => if s.isI then oT else oF
  ⟨f.o && keep.t, f.s || keep.f, false, false⟩
def popSh (m : Mm) (s : Sh) : Sh := match m with
  | .popLast => s
  | .popAt => s
  | _ => .i
def putKey (k : Str) (s : Sh) : List Str → List Sh → Option (List Sh)
  | j :: js, t :: ts => if j = k then some (s :: ts) else (putKey k s js ts).map fun r => t :: r
  | _, _ => none
def isC (f : Fs) : Bool := !f.f && !f.k

section
variable (T : List Sig)
mutual
def akE : Ex → AEn → Option AR
  | .var i, A => aRead A i
  | .cst d, A => if imm d then some ⟨.i, oT, A⟩ else none
  | .prim p es, A => (ckOs es A).bind fun q => (aShs q.2 q.1).bind fun ss => (primSh p es ss).bind fun s => aFin p q.1 q.2 s
  | .tup es, A => (ckOs es A).bind fun q => (aGather q.2 q.1).map fun z => ⟨mkT (aThings z.1), aAll z.1, z.2⟩
  | .lst es, A => (ckOs es A).bind fun q => (aGather q.2 q.1).bind fun z => (mkL (aThings z.1)).map fun s => ⟨s, aAll z.1, z.2⟩
  | .andE a b, A => (akE a A).bind fun r => (akE b r.A).bind fun r2 => (aJn r.A r2.A).map fun J => ⟨.i, oT, J⟩
  | .orE a b, A => (akE a A).bind fun r => (akE b r.A).bind fun r2 => (aJn r.A r2.A).map fun J => ⟨.i, oT, J⟩
  | .notE a, A => (akE a A).map fun r => ⟨.i, oT, r.A⟩
  | .ite c a b, A => (akE c A).bind fun r => (akE a r.A).bind fun ra => (akE b r.A).bind fun rb => (aJn ra.A rb.A).bind fun J =>
      let s := shJn ra.sh rb.sh
      if shLe ra.sh s && shLe rb.sh s then some ⟨s, ra.ob.jn rb.ob, J⟩ else none
  | .chain p q a b c, A => (akE a A).bind fun ra => (akE b ra.A).bind fun rb => (akE c rb.A).bind fun rc => (aJn rb.A rc.A).bind fun J =>
      if ra.sh.isI && rb.sh.isI && rc.sh.isI then some ⟨.i, oT, J⟩ else none
  | .call f es, A => (ckOs es A).bind fun q => (aArgs q.2 q.1).bind fun as => (findSig f as T).bind fun s =>
      if decide (aSlots q.1).Nodup && (s.res.isI || s.res.mut) then (aBack (s.res.isI || s.ro.t) (!s.res.isI && s.ro.f) q.2 q.1 s.fin).map fun B => ⟨s.res, if s.res.isI then oT else s.ro, B⟩ else none
  | .comp elt tg k its ifs own, A => (ckOs its A).bind fun q => (aShs q.2 q.1).bind fun ss => (itemSh k ss).bind fun x =>
      if tgIn tg own && varsOff (own ++ (ownsE elt ++ ownsEs ifs)) its then (aLock q.2 q.1).bind fun L =>
        (fixOk (fun I => (aAssign I tg x oF).bind fun B => (ckTs ifs B).bind fun B => (akE elt B.1).bind fun r => aJn r.A B.2) L).bind fun I =>
        (aAssign I tg x oF).bind fun B => (ckTs ifs B).bind fun B => (akE elt B.1).bind fun r =>
        if r.sh.isI || r.sh.mut then (aUnlock q.2 I q.1).map fun U => ⟨.l r.sh, if r.sh.isI then oT else ⟨true, r.ob.f⟩, U⟩ else none
      else none
  | .sortk es rg v body, A => (ckOs es A).bind fun q => (aShs q.2 q.1).bind fun ss => (itemSh (if rg then .rng1 else .seq) ss).bind fun x =>
      if x.isI then (aStore q.2 v .i oF).bind fun B => (akE body B).bind fun r => if r.sh.isI then some ⟨.l .i, oT, q.2⟩ else none else none
  | .meth m i es, A => (A[i]?).bind fun a0 => (ckOs es A).bind fun q => (aGather q.2 q.1).bind fun z => (z.2[i]?).bind fun a => match a0.sh, a.sh with
      | .l _, .l s => (changed m s z.1).bind fun n => if isC a.fs && ((popSh m s).isI || (popSh m s).mut) then
        some ⟨popSh m s, if (popSh m s).isI then oT else oF, z.2.set i ⟨n, chF m a.fs s z.1, false⟩⟩ else none
      | _, _ => none
  | .methAt m i k es, A => (smSh A k).bind fun _ => if smShs A es then (A[i]?).bind fun a => match a.sh with
      | .l (.l s) => if decide (a.fs = fO) && s.isI && !keyE k then (changed m s (es.map fun _ => (.i, oT))).bind fun n => if shLe n (.l .i) then some ⟨.i, oT, A.set i ⟨.l (.l .i), fO, false⟩⟩ else none else none
      | .d ks ss => match k with
        | .cst (.str x) => match keySh x ks ss with
          | some (.l s) => if decide (a.fs = fO) && s.isI then (changed m s (es.map fun _ => (.i, oT))).bind fun n => if shLe n (.l .i) then (putKey x (.l .i) ks ss).map fun ss' => ⟨.i, oT, A.set i ⟨.d ks ss', fO, false⟩⟩ else none else none
          | _ => none
        | _ => none
      | _ => none
    else none
  | .lenAt p i k, A => (smSh A k).bind fun _ => (A[i]?).bind fun a => (if keyE k then dctSh k a.sh else idxSh k a.sh).bind fun _ => if immP p then some ⟨.i, oT, A⟩ else none
  | .dictS ks es, A => (ckOs es A).bind fun q => (aGather q.2 q.1).bind fun z => if decide (ks.length = (aThings z.1).length) then some ⟨.d ks (aThings z.1), aAll z.1, z.2⟩ else none
def ckOs : List Ex → AEn → Option (List AOd × AEn)
  | [], A => some ([], A)
  | .var i :: es, A => (A[i]?).bind fun a => if a.sh.isI || a.sh.mut then (ckOs es A).map fun q => ((if a.sh.isI then .tmp .i oT else .slot i) :: q.1, q.2) else none
  | e :: es, A => (akE e A).bind fun r => (ckOs es r.A).map fun q => (.tmp r.sh r.ob :: q.1, q.2)
/-- (where all held, where one did or didn't) -/
def ckTs : List Ex → AEn → Option (AEn × AEn)
  | [], A => some (A, A)
  | c :: cs, A => (akE c A).bind fun r => (ckTs cs r.A).bind fun z => (aJn r.A z.2).map fun J => (z.1, J)
end
def ckEs : List Ex → AEn → Option (List (Sh × Ob) × AEn)
  | [], A => some ([], A)
  | e :: es, A => (akE T e A).bind fun r => (ckEs es r.A).map fun q => ((r.sh, r.ob) :: q.1, q.2)

/-- what may come of statements; ret: the result, the parameters then -/
structure AF where
  nx : Option AEn
  bk : Option AEn
  ct : Option AEn
  rt : Option (Sh × Ob × AEn)
def AF.n (A : AEn) : AF := ⟨some A, none, none, none⟩
def jnR : Option (Sh × Ob × AEn) → Option (Sh × Ob × AEn) → Option (Option (Sh × Ob × AEn))
  | none, b => some b
  | a, none => some a
  | some a, some b => (aJn a.2.2 b.2.2).bind fun J => let s := shJn a.1 b.1
    if shLe a.1 s && shLe b.1 s then some (some (s, a.2.1.jn b.2.1, J)) else none
def AF.jn (a b : AF) : Option AF := (aJnO a.nx b.nx).bind fun n => (aJnO a.bk b.bk).bind fun k => (aJnO a.ct b.ct).bind fun c => (jnR a.rt b.rt).map fun r => ⟨n, k, c, r⟩

def ckRet (np : Nat) (e : Ex) (A : AEn) : Option AR := match e with
  | .var i => (A[i]?).bind fun a => if a.sh.isI then some ⟨a.sh, oT, A⟩ else if !a.sh.mut then none else
      if np ≤ i then (if a.fs = fO then some ⟨a.sh, oT, A⟩ else if a.fs.k then none else some ⟨a.sh, ⟨a.fs.o, true⟩, A⟩)
      else aRead A i
  | e => akE T e A

def akT (np : Nat) : St → AEn → Option AF
  | .asg t e, A => (akE T e A).bind fun r => (aAssign r.A t r.sh r.ob).map .n
  | .par ts es, A => (ckEs T es A).bind fun q => (aStoreAll q.2 ts q.1).map .n
  | .setAt i k e, A => (akE T e A).bind fun r => (smSh r.A k).bind fun _ => (r.A[i]?).bind fun a => if isC a.fs && (r.sh.isI || (!keyE k && r.sh.mut)) then (match a.sh with
      | .l s => if keyE k then none else (mkL [s, r.sh]).map fun n => .n (r.A.set i ⟨n, if r.sh.isI then a.fs else ⟨false, true, false, false⟩, false⟩)
      | .d ks ss => match k with
        | .cst (.str x) => if decide (ks.length ≤ 1000) then (putKey x r.sh ks ss).map fun ss' => .n (r.A.set i ⟨.d ks ss', a.fs, false⟩) else none
        | _ => none
      | _ => none) else none
  | .augAt i k e, A => (smSh A k).bind fun _ => (akE T e A).bind fun r => (A[i]?).bind fun a0 => (r.A[i]?).bind fun a => match a0.sh, a.sh with
      | .l _, .l s => if isC a.fs && !keyE k then (mkL [s, .i]).map fun n => .n (r.A.set i ⟨n, a.fs, false⟩) else none
      | _, _ => none
  | .augL i e, A => (akE T e A).bind fun r => (aStore r.A i .i oT).map .n
  | .ex e, A => (akE T e A).map fun r => .n r.A
  | .ret e, A => (ckRet T np e A).bind fun r => if r.sh.isI || r.sh.mut then some ⟨none, none, none, some (r.sh, if r.sh.isI then oT else r.ob, r.A.take np)⟩ else none
  | .retN, A => some ⟨none, none, none, some (.i, oT, A.take np)⟩
  | .brk, A => some ⟨none, some A, none, none⟩
  | .cont, A => some ⟨none, none, some A, none⟩
  | .pass, A => some (.n A)
  | .never, _ => some ⟨none, none, none, none⟩
  | _, _ => none
/-- a loop's turn: from a state, what it may be at the next -/
def turnA (f : AF) : Option (Option AEn) := aJnO f.nx f.ct
def stepA (g : AEn → Option AF) (A : AEn) : Option AEn := (g A).bind fun f => (turnA f).map fun o => o.getD A
/-- a loop: tst tells what a turn begins with, and what the end is without a break -/
def loopA (g : AEn → Option AF) (out : AEn → Option AEn) (A : AEn) : Option AF := (fixOk (stepA g) A).bind fun I => (g I).bind fun f => (out I).bind fun E => (aJnO (some E) f.bk).map fun n => ⟨n, none, none, f.rt⟩
mutual
def ckP (np : Nat) : PSt → AEn → Option AF
  | .s t, A => akT T np t A
  | .ite c a b, A => (akE T c A).bind fun r => (ckPs np a r.A).bind fun fa => (ckPs np b r.A).bind fun fb => fa.jn fb
  | .whl c b, A => loopA (fun I => (akE T c I).bind fun r => ckPs np b r.A) (fun I => (akE T c I).map (·.A)) A
  | .for t k its b, A => (ckOs T its A).bind fun q => (aShs q.2 q.1).bind fun ss => (itemSh k ss).bind fun x => (aFrz q.2 q.1).bind fun L =>
      loopA (fun I => (aAssign I t x oF).bind fun B => ckPs np b B) some L
  | .wipe _, A => some (.n A)
def ckPs (np : Nat) : List PSt → AEn → Option AF
  | [], A => some (.n A)
  | s :: ss, A => (ckP np s A).bind fun f => match f.nx with
    | none => some f
    | some B => (ckPs np ss B).bind fun g => AF.jn ⟨none, f.bk, f.ct, f.rt⟩ g
end
end
def aIn : List Bool → List As → List As
  | true :: re, a :: as => (if a.sh.isI then a else ⟨a.sh, fF, true⟩) :: aIn re as
  | _ :: re, a :: as => a :: aIn re as
  | [], as => as
  | _, [] => []
def aOut : List Bool → List As → List As → List As
  | true :: re, a :: as, bs => ⟨a.sh, a.fs, true⟩ :: aOut re as bs.tail
  | false :: re, _ :: as, b :: bs => b :: aOut re as bs
  | _, _, _ => []
/-- what a def's look is -/
def inferF (T : List Sig) (F : PFn) (ps : List As) : Option (Sh × Ob × AEn) :=
  let is := (aIn F.re ps).map fun a => (⟨a.sh, a.fs, true⟩ : As)
  (ckPs T F.re.length F.body (is ++ List.replicate (F.ns - F.re.length) ⟨.b, fO, false⟩)).bind fun f =>
    (jnR f.rt (f.nx.map fun A => (.i, oT, A.take F.re.length))).bind fun r => r.map fun r => (r.1, r.2.1, aOut F.re is r.2.2)
def ckSig (T : List Sig) (P : List PFn) (s : Sig) : Bool := match P[s.f]? with
  | none => false
  | some F => decide (F.re.length ≤ F.ns) && decide (s.ps.length = F.re.length) && match inferF T F s.ps with
    | none => false
    | some r => shLe r.1 s.res && r.2.1.le s.ro && aLe r.2.2 s.fin && s.ps.all (fun a => a.sh.isI || a.sh.mut)
end Ev
/-! The look ahead is right: shapes, flags, frames. -/
namespace Ev
open PySem

theorem has_i {s : Sh} {d : D} (h : s.isI = true) (k : s.has d) : imm d = true := by
  cases s <;> simp [Sh.isI, Sh.has] at *
  exact k
theorem hasAll_cons {s : Sh} {ss : List Sh} {x : D} {xs : List D} : hasAll (s :: ss) (x :: xs) ↔ s.has x ∧ hasAll ss xs := by
  simp only [hasAll]
  constructor
  · rintro ⟨y, ys, e, h1, h2⟩
    cases e
    exact ⟨h1, h2⟩
  · rintro ⟨h1, h2⟩
    exact ⟨x, xs, rfl, h1, h2⟩
theorem hasAll_nil {ss : List Sh} : hasAll ss [] ↔ ss = [] := by
  cases ss with
  | nil => simp [hasAll]
  | cons s ss => simp [hasAll]
mutual
theorem has_mut : ∀ (s : Sh) (d : D), s.mut = true → s.has d → imm d = false
  | .b, _, h, _ => by simp [Sh.mut] at h
  | .i, _, h, _ => by simp [Sh.mut] at h
  | .l s, _, _, k => by obtain ⟨xs, rfl, _⟩ := k; rfl
  | .t ss, _, h, k => by
    obtain ⟨xs, rfl, k⟩ := k
    exact hasAll_mut ss xs h k
  | .d _ _, _, _, k => by obtain ⟨xs, rfl, _⟩ := k; rfl
  | .x, _, h, _ => by simp [Sh.mut] at h
theorem hasAll_mut : ∀ (ss : List Sh) (xs : List D), mutAny ss = true → hasAll ss xs → immAll xs = false
  | [], _, h, _ => by simp [mutAny] at h
  | s :: ss, xs, h, k => by
    obtain ⟨y, ys, rfl, k1, k2⟩ := k
    simp only [mutAny, Bool.or_eq_true] at h
    simp only [immAll, Bool.and_eq_false_iff]
    rcases h with h | h
    · exact .inl (has_mut s y h k1)
    · exact .inr (hasAll_mut ss ys h k2)
end
theorem immAll_of : ∀ {xs : List D}, (∀ x ∈ xs, imm x = true) → immAll xs = true
  | [], _ => rfl
  | x :: xs, h => by
    simp only [immAll, Bool.and_eq_true]
    exact ⟨h x (List.mem_cons_self ..), immAll_of fun y hy => h y (List.mem_cons_of_mem _ hy)⟩
theorem of_immAll : ∀ {xs : List D}, immAll xs = true → ∀ x ∈ xs, imm x = true
  | [], _, x, h => by cases h
  | y :: ys, k, x, h => by
    simp only [immAll, Bool.and_eq_true] at k
    rcases List.mem_cons.mp h with rfl | h
    · exact k.1
    · exact of_immAll k.2 x h
mutual
theorem shLe_ok : ∀ (s r : Sh) (d : D), shLe s r = true → s.has d → r.has d
  | .b, _, _, _, k => by simp [Sh.has] at k
  | .i, r, d, h, k => by
    cases r <;> simp [shLe] at h
    · exact k
    · trivial
  | .l s, r, d, h, k => by
    cases r <;> simp [shLe] at h
    · obtain ⟨xs, e, k⟩ := k
      exact ⟨xs, e, fun x hx => shLe_ok s _ x h (k x hx)⟩
    · trivial
  | .t ss, r, d, h, k => by
    cases r <;> simp [shLe] at h
    · obtain ⟨xs, e, k⟩ := k
      exact ⟨xs, e, shLes_ok ss _ xs h k⟩
    · trivial
  | .d ks ss, r, d, h, k => by
    cases r <;> simp [shLe] at h
    · obtain ⟨xs, e, k, l⟩ := k
      obtain ⟨rfl, h⟩ := h
      exact ⟨xs, e, shLes_ok ss _ xs h k, by rw [l]; exact shLes_len ss _ h⟩
    · trivial
  | .x, r, d, h, k => by
    cases r <;> simp [shLe] at h
    trivial
theorem shLes_ok : ∀ (ss rs : List Sh) (xs : List D), shLes ss rs = true → hasAll ss xs → hasAll rs xs
  | [], [], xs, _, k => k
  | [], _ :: _, _, h, _ => by simp [shLes] at h
  | _ :: _, [], _, h, _ => by simp [shLes] at h
  | s :: ss, r :: rs, xs, h, k => by
    simp only [shLes, Bool.and_eq_true] at h
    obtain ⟨y, ys, rfl, k1, k2⟩ := k
    exact ⟨y, ys, rfl, shLe_ok s r y h.1 k1, shLes_ok ss rs ys h.2 k2⟩
theorem shLes_len : ∀ (ss rs : List Sh), shLes ss rs = true → ss.length = rs.length
  | [], [], _ => rfl
  | [], _ :: _, h => by simp [shLes] at h
  | _ :: _, [], h => by simp [shLes] at h
  | s :: ss, r :: rs, h => by
    simp only [shLes, Bool.and_eq_true] at h
    simp [shLes_len ss rs h.2]
end
theorem hasAll_len : ∀ {ss : List Sh} {xs : List D}, hasAll ss xs → ss.length = xs.length
  | [], xs, h => by
    simp only [hasAll] at h
    rw [h]; rfl
  | s :: ss, xs, h => by
    obtain ⟨y, ys, rfl, _, h⟩ := h
    simp [hasAll_len h]
theorem mkT_ok {ss : List Sh} {xs : List D} (h : hasAll ss xs) : (mkT ss).has (.tuple xs) := by
  unfold mkT
  split
  · rename_i q
    show immAll xs = true
    induction ss generalizing xs with
    | nil =>
      simp only [hasAll] at h
      rw [h]; rfl
    | cons s ss ih =>
      obtain ⟨y, ys, rfl, k1, k2⟩ := h
      simp only [List.all_cons, Bool.and_eq_true] at q
      simp only [immAll, Bool.and_eq_true]
      exact ⟨has_i q.1 k1, ih k2 q.2⟩
  · exact ⟨xs, rfl, h⟩
theorem mkL_ok {ss : List Sh} {s : Sh} {xs : List D} (h : mkL ss = some s) (k : ∀ x ∈ xs, ∃ t ∈ ss, t.has x) : s.has (.list xs) := by
  unfold mkL at h
  simp only [] at h
  split at h
  · rename_i q
    cases h
    refine ⟨xs, rfl, fun x hx => ?_⟩
    obtain ⟨t, ht, k⟩ := k x hx
    exact shLe_ok t _ x (List.all_eq_true.mp q t ht) k
  · cases h
theorem hasAll_mem : ∀ {ss : List Sh} {xs : List D}, hasAll ss xs → ∀ x ∈ xs, ∃ t ∈ ss, t.has x
  | [], xs, h, x, hx => by
    simp only [hasAll] at h
    rw [h] at hx
    cases hx
  | s :: ss, xs, h, x, hx => by
    obtain ⟨y, ys, rfl, k1, k2⟩ := h
    rcases List.mem_cons.mp hx with rfl | hx
    · exact ⟨s, List.mem_cons_self .., k1⟩
    · obtain ⟨t, ht, k⟩ := hasAll_mem k2 x hx
      exact ⟨t, List.mem_cons_of_mem _ ht, k⟩
theorem has_o (a : Fs) : a.has .own = a.o := rfl
theorem has_s (a : Fs) : a.has .spn = a.s := rfl
theorem has_f (a : Fs) : a.has .frz = a.f := rfl
theorem has_k (a : Fs) : a.has .lck = a.k := rfl
theorem fle_ok {a b : Fs} {f : Fl} (h : a.le b = true) (k : a.has f = true) : b.has f = true := by
  obtain ⟨a1, a2, a3, a4⟩ := a
  obtain ⟨b1, b2, b3, b4⟩ := b
  cases f <;> revert h k <;> simp only [Fs.le, Fs.has] <;> revert a1 a2 a3 a4 b1 b2 b3 b4 <;> decide
theorem ole_ok {a b : Ob} {f : Bool} (h : a.le b = true) (k : a.has f = true) : b.has f = true := by
  obtain ⟨a1, a2⟩ := a
  obtain ⟨b1, b2⟩ := b
  cases f <;> revert h k <;> simp only [Ob.le, Ob.has] <;> revert a1 a2 b1 b2 <;> decide
theorem ojn_l {a b : Ob} {f : Bool} (k : a.has f = true) : (a.jn b).has f = true := by
  cases f <;> simp_all [Ob.has, Ob.jn]
theorem ojn_r {a b : Ob} {f : Bool} (k : b.has f = true) : (a.jn b).has f = true := by
  cases f <;> simp_all [Ob.has, Ob.jn]

/-- one slot -/
structure SlO (a : As) (d0 : Option D) (d : D) (f : Fl) : Prop where
  sh : a.sh.has d
  fs : a.fs.has f = true
  sm : a.sm = true → d0 = some d
structure Rel (as0 : List D) (A : AEn) (p : PEn) (e : En) : Prop where
  lp : p.length = A.length
  le : e.length = A.length
  get : ∀ i d, getP p i = some d → ∃ a f, A[i]? = some a ∧ getS e i = some ⟨d, f⟩ ∧ SlO a as0[i]? d f
theorem SlO.mono {a b : As} {d0 : Option D} {d : D} {f : Fl} (h : SlO a d0 d f) (l : a.le b = true) : SlO b d0 d f := by
  simp only [As.le, Bool.and_eq_true, Bool.or_eq_true, Bool.not_eq_true'] at l
  refine ⟨shLe_ok _ _ _ l.1.1 h.sh, fle_ok l.1.2 h.fs, fun q => h.sm ?_⟩
  rcases l.2 with r | r
  · rw [r] at q; cases q
  · exact r
theorem aLe_len : ∀ {A B : AEn}, aLe A B = true → A.length = B.length
  | [], [], _ => rfl
  | [], _ :: _, h => by simp [aLe] at h
  | _ :: _, [], h => by simp [aLe] at h
  | a :: A, b :: B, h => by
    simp only [aLe, Bool.and_eq_true] at h
    simp [aLe_len h.2]
theorem aLe_get : ∀ {A B : AEn}, aLe A B = true → ∀ {i : Nat} {a : As}, A[i]? = some a → ∃ b, B[i]? = some b ∧ a.le b = true
  | [], [], _, i, a, h => by simp at h
  | [], _ :: _, h, _, _, _ => by simp [aLe] at h
  | _ :: _, [], h, _, _, _ => by simp [aLe] at h
  | a :: A, b :: B, h, i, c, k => by
    simp only [aLe, Bool.and_eq_true] at h
    cases i with
    | zero =>
      simp only [List.getElem?_cons_zero, Option.some.injEq] at k ⊢
      subst k
      exact ⟨b, rfl, h.1⟩
    | succ i =>
      simp only [List.getElem?_cons_succ] at k ⊢
      exact aLe_get h.2 k
section
variable {as0 : List D} {A B : AEn} {p : PEn} {e : En}
theorem Rel.mono (h : Rel as0 A p e) (l : aLe A B = true) : Rel as0 B p e := by
  have hl := aLe_len l
  refine ⟨by rw [h.lp, hl], by rw [h.le, hl], fun i d hd => ?_⟩
  obtain ⟨a, f, h1, h2, h3⟩ := h.get i d hd
  obtain ⟨b, g1, g2⟩ := aLe_get l h1
  exact ⟨b, f, g1, h2, h3.mono g2⟩
theorem getP_set {p : PEn} {i j : Nat} {v : Option D} : getP (p.set i v) j = if i = j then (if i < p.length then v else none) else getP p j := by
  unfold getP
  rw [List.getElem?_set]
  by_cases h : i = j
  · subst h
    rw [if_pos rfl, if_pos rfl]
    by_cases k : i < p.length
    · rw [if_pos k, if_pos k]
      cases v <;> rfl
    · rw [if_neg k, if_neg k]
  · rw [if_neg h, if_neg h]
theorem getS_set {e : En} {i j : Nat} {v : Option Sl} : getS (e.set i v) j = if i = j then (if i < e.length then v else none) else getS e j := by
  unfold getS
  rw [List.getElem?_set]
  by_cases h : i = j
  · subst h
    rw [if_pos rfl, if_pos rfl]
    by_cases k : i < e.length
    · rw [if_pos k, if_pos k]
      cases v <;> rfl
    · rw [if_neg k, if_neg k]
  · rw [if_neg h, if_neg h]
/-- a slot is stored to -/
theorem Rel.put (h : Rel as0 A p e) {i : Nat} {a : As} {d : D} {f : Fl} (s : SlO a as0[i]? d f) : Rel as0 (A.set i a) (putP p i d) (putS e i d f) := by
  refine ⟨by simp [putP, h.lp], by simp [putS, h.le], fun j d' hd => ?_⟩
  unfold putP at hd
  rw [getP_set] at hd
  unfold putS
  rw [getS_set, List.getElem?_set, h.le]
  rw [h.lp] at hd
  split at hd
  · rename_i q
    subst q
    split at hd
    · rename_i q
      cases hd
      rw [if_pos rfl, if_pos rfl, if_pos q, if_pos q]
      exact ⟨a, f, rfl, rfl, s⟩
    · cases hd
  · rename_i q
    rw [if_neg q, if_neg q]
    exact h.get j d' hd
/-- a slot's flags are changed -/
theorem Rel.flag (h : Rel as0 A p e) {i : Nat} {a : As} {s : Sl} {f : Fl} {g : Fs} (ha : A[i]? = some a) (hs : getS e i = some s) (hg : a.fs.has s.fl = true → a.sh.has s.d → g.has f = true) : Rel as0 (A.set i ⟨a.sh, g, a.sm⟩) p (putS e i s.d f) := by
  refine ⟨by simp [h.lp], by simp [putS, h.le], fun j d' hd => ?_⟩
  unfold putS
  rw [getS_set, List.getElem?_set, h.le]
  obtain ⟨a', f', h1, h2, h3⟩ := h.get j d' hd
  split
  · rename_i q
    subst q
    rw [ha] at h1
    cases h1
    rw [hs] at h2
    cases h2
    have hi : i < A.length := (List.getElem?_eq_some_iff.mp ha).1
    rw [if_pos hi, if_pos hi]
    exact ⟨_, f, rfl, rfl, h3.sh, hg h3.fs h3.sh, h3.sm⟩
  · exact ⟨a', f', h1, h2, h3⟩
theorem Rel.same (h : Rel as0 A p e) {i : Nat} {a : As} {s : Sl} {g : Fs} (ha : A[i]? = some a) (hs : getS e i = some s) (hg : a.fs.has s.fl = true → a.sh.has s.d → g.has s.fl = true) : Rel as0 (A.set i ⟨a.sh, g, a.sm⟩) p e := by
  have := h.flag ha hs hg
  have e2 : putS e i s.d s.fl = e := by
    unfold putS
    have : e[i]? = some (some s) := by
      unfold getS at hs
      split at hs
      · rename_i q
        cases hs
        exact q
      · cases hs
    obtain ⟨hi, hv⟩ := List.getElem?_eq_some_iff.mp this
    have := List.set_getElem_self hi
    rw [hv] at this
    exact this
  rwa [e2] at this
theorem wipe_lenP : ∀ (is : List Nat) (p : PEn), (pWipe p is).length = p.length
  | [], _ => rfl
  | i :: is, p => by rw [pWipe, List.length_set, wipe_lenP is p]
theorem wipe_lenE : ∀ (is : List Nat) (p : En), (wipeE p is).length = p.length
  | [], _ => rfl
  | i :: is, p => by rw [wipeE, List.length_set, wipe_lenE is p]
theorem Rel.forget (h : Rel as0 A p e) (i : Nat) : Rel as0 A (p.set i none) e := by
  refine ⟨by simp [h.lp], h.le, fun j d hd => ?_⟩
  rw [getP_set] at hd
  split at hd
  · split at hd <;> cases hd
  · exact h.get j d hd
theorem Rel.forget2 (h : Rel as0 A p e) (i : Nat) : Rel as0 A (p.set i none) (e.set i none) := by
  refine ⟨by simp [h.lp], by simp [h.le], fun j d hd => ?_⟩
  rw [getP_set] at hd
  split at hd
  · split at hd <;> cases hd
  · rename_i q
    rw [getS_set, if_neg q]
    exact h.get j d hd
theorem Rel.wipe (h : Rel as0 A p e) : ∀ is, Rel as0 A (pWipe p is) e
  | [] => h
  | i :: is => (h.wipe is).forget i
theorem Rel.wipe2 (h : Rel as0 A p e) : ∀ is, Rel as0 A (pWipe p is) (wipeE e is)
  | [] => h
  | i :: is => (h.wipe2 is).forget2 i
theorem jn_l {J : AEn} (h : aJn A B = some J) (r : Rel as0 A p e) : Rel as0 J p e := by
  unfold aJn at h
  simp only [] at h
  split at h
  · rename_i q
    cases h
    simp only [Bool.and_eq_true] at q
    exact r.mono q.1
  · cases h
theorem jn_r {J : AEn} (h : aJn A B = some J) (r : Rel as0 B p e) : Rel as0 J p e := by
  unfold aJn at h
  simp only [] at h
  split at h
  · rename_i q
    cases h
    simp only [Bool.and_eq_true] at q
    exact r.mono q.2
  · cases h
end
/-- a value with what is known of it -/
structure VO (s : Sh) (o : Ob) (d : D) (w : Bool) : Prop where
  sh : s.has d
  ob : imm d = true ∨ o.has w = true
theorem VO.le {s t : Sh} {o q : Ob} {d : D} {w : Bool} (h : VO s o d w) (l : shLe s t = true) (m : o.le q = true) : VO t q d w :=
  ⟨shLe_ok _ _ _ l h.sh, h.ob.imp_right (ole_ok m)⟩
theorem VO.i {d : D} {w : Bool} (h : imm d = true) (o : Ob) : VO .i o d w := ⟨h, .inl h⟩
end Ev
/-! The look ahead is right: operands. -/
namespace Ev
open PySem

inductive Ods : List AOd → List POd → List Od → Prop where
  | nil : Ods [] [] []
  | slot {i : Nat} {as : List AOd} {ps : List POd} {os : List Od} (t : Ods as ps os) : Ods (.slot i :: as) (.slot i :: ps) (.slot i :: os)
  | tmp {s : Sh} {o : Ob} {d : D} {w : Bool} {as : List AOd} {ps : List POd} {os : List Od} (h : VO s o d w) (t : Ods as ps os) : Ods (.tmp s o :: as) (.tmp d :: ps) (.tmp d w :: os)
/-- things with what is known of them -/
inductive VOs : List (Sh × Ob) → List (D × Bool) → Prop where
  | nil : VOs [] []
  | cons {s : Sh} {o : Ob} {d : D} {w : Bool} {rs : List (Sh × Ob)} {zs : List (D × Bool)} (h : VO s o d w) (t : VOs rs zs) : VOs ((s, o) :: rs) ((d, w) :: zs)
/-- the same of gathered things -/
inductive VGs : List (Sh × Ob) → List (D × Bool) → Prop where
  | nil : VGs [] []
  | cons {s : Sh} {o : Ob} {d : D} {w : Bool} {rs : List (Sh × Ob)} {zs : List (D × Bool)} (h : s.has d) (m : o.has (imm d || w) = true) (t : VGs rs zs) : VGs ((s, o) :: rs) ((d, w) :: zs)

section
variable {as0 : List D} {A B : AEn} {p : PEn} {e : En}
theorem bind_some' {α β : Type} {o : Option α} {f : α → Option β} {b : β} : o.bind f = some b ↔ ∃ a, o = some a ∧ f a = some b := by
  cases o <;> simp
theorem map_some' {α β : Type} {o : Option α} {f : α → β} {b : β} : o.map f = some b ↔ ∃ a, o = some a ∧ f a = b := by
  cases o <;> simp
theorem fetch_ok (R : Rel as0 A p e) {as : List AOd} {ps : List POd} {os : List Od} (O : Ods as ps os) : ∀ {ds : List D}, pFetchAll p ps = some ds → fetchAll e os = some ds ∧ ∀ ss, aShs A as = some ss → hasAll ss ds := by
  induction O with
  | nil =>
    intro ds h
    cases h
    refine ⟨rfl, fun ss h => ?_⟩
    cases h
    rfl
  | slot t ih =>
    intro ds h
    simp only [pFetchAll, pFetch, bind_some', map_some'] at h
    obtain ⟨d, h1, ds', h2, rfl⟩ := h
    obtain ⟨i1, i2⟩ := ih h2
    obtain ⟨a, f, g1, g2, g3⟩ := R.get _ _ h1
    refine ⟨by simp [fetchAll, fetch, g2, i1], fun ss hs => ?_⟩
    simp only [aShs, aSh, g1, Option.map_some, Option.bind_some, map_some'] at hs
    obtain ⟨ss', hs, rfl⟩ := hs
    exact ⟨d, ds', rfl, g3.sh, i2 _ hs⟩
  | tmp hv t ih =>
    intro ds h
    simp only [pFetchAll, pFetch, Option.bind_some, map_some'] at h
    obtain ⟨ds', h2, rfl⟩ := h
    obtain ⟨i1, i2⟩ := ih h2
    refine ⟨by simp [fetchAll, fetch, i1], fun ss hs => ?_⟩
    simp only [aShs, aSh, Option.bind_some, map_some'] at hs
    obtain ⟨ss', hs, rfl⟩ := hs
    exact ⟨_, ds', rfl, hv.sh, i2 _ hs⟩
theorem asL_sh {s : Sh} {d : D} (k : (Sh.l s).has d) : (asL d).isSome = true := by
  obtain ⟨xs, rfl, _⟩ := k; rfl
theorem thawF_ok {a : As} {d : D} {f : Fl} (may : Bool) (h : a.fs.has f = true) (k : a.sh.has d) : (thawF may a).has (match f with | .own => if (asL d).isSome then .spn else .frz | f => f) = true := by
  obtain ⟨sh, ⟨f1, f2, f3, f4⟩, sm⟩ := a
  cases f with
  | own =>
    simp only [has_o] at h
    subst h
    show (thawF may _).has (if (asL d).isSome then .spn else .frz) = true
    cases sh with
    | l s => rw [if_pos (asL_sh k)]; simp [thawF, has_s]
    | i =>
      have : (asL d).isSome = false := by
        cases d <;> first | rfl | cases k
      rw [this]; simp [thawF, has_f]
    | b => cases k
    | t ss => obtain ⟨xs, rfl, _⟩ := k; rw [if_neg (by simp [asL])]; simp [thawF, has_f]
    | d ks ss => obtain ⟨xs, rfl, _⟩ := k; rw [if_neg (by simp [asL])]; simp [thawF, has_f]
    | x => split <;> simp [thawF, has_f, has_s]
  | spn => simp only [has_s] at h; subst h; cases sh <;> simp [thawF, has_s]
  | frz => simp only [has_f] at h; subst h; cases sh <;> simp [thawF, has_f]
  | lck => simp only [has_k] at h; subst h; cases sh <;> simp [thawF, has_k]
theorem thawF_may {a : As} {f : Fl} (h : a.fs.has f = true) : (thawF true a).has f = true := by
  obtain ⟨sh, ⟨f1, f2, f3, f4⟩, sm⟩ := a
  cases f <;> simp only [has_o, has_s, has_f, has_k] at h <;> subst h <;> cases sh <;> simp [has_o, has_s, has_f, has_k, thawF]

theorem thaw_ok {may : Bool} {as : List AOd} {ps : List POd} {os : List Od} (O : Ods as ps os) : ∀ {A B : AEn} {e : En} {ds : List D}, Rel as0 A p e → pFetchAll p ps = some ds → aThaw may A as = some B → ∃ e', thawAll e os = some e' ∧ Rel as0 B p e' := by
  induction O with
  | nil =>
    intro A B e ds R _ h
    cases h
    exact ⟨e, rfl, R⟩
  | @slot i as ps os t ih =>
    intro A B e ds R h k
    simp only [pFetchAll, pFetch, bind_some', map_some'] at h
    obtain ⟨d, h1, ds', h2, rfl⟩ := h
    obtain ⟨a, f, g1, g2, g3⟩ := R.get _ _ h1
    simp only [aThaw, aFl, g1, Option.map_some, Option.bind_some] at k
    obtain ⟨e1, j1, R1⟩ : ∃ e1, thaw1 e i = some e1 ∧ Rel as0 (A.set i ⟨a.sh, thawF may a, a.sm⟩) p e1 := by
      have q := thawF_ok may g3.fs g3.sh
      simp only [thaw1, g2, Option.map_some]
      cases f with
      | own => exact ⟨_, rfl, R.flag (s := ⟨d, .own⟩) g1 g2 (fun _ _ => q)⟩
      | spn => exact ⟨_, rfl, R.same (s := ⟨d, .spn⟩) g1 g2 (fun _ _ => q)⟩
      | frz => exact ⟨_, rfl, R.same (s := ⟨d, .frz⟩) g1 g2 (fun _ _ => q)⟩
      | lck => exact ⟨_, rfl, R.same (s := ⟨d, .lck⟩) g1 g2 (fun _ _ => q)⟩
    obtain ⟨e', i1, i2⟩ := ih R1 h2 k
    exact ⟨e', by simp only [thawAll, j1, Option.bind_some, i1], i2⟩
  | tmp hv t ih =>
    intro A B e ds R h k
    simp only [pFetchAll, pFetch, Option.bind_some, map_some'] at h
    obtain ⟨ds', h2, rfl⟩ := h
    exact ih R h2 k
theorem thaw_may {as : List AOd} {ps : List POd} {os : List Od} (O : Ods as ps os) : ∀ {A B : AEn} {e : En} {ds : List D}, Rel as0 A p e → pFetchAll p ps = some ds → aThaw true A as = some B → Rel as0 B p e := by
  induction O with
  | nil =>
    intro A B e ds R _ h
    cases h
    exact R
  | @slot i as ps os t ih =>
    intro A B e ds R h k
    simp only [pFetchAll, pFetch, bind_some', map_some'] at h
    obtain ⟨d, h1, ds', h2, rfl⟩ := h
    obtain ⟨a, f, g1, g2, g3⟩ := R.get _ _ h1
    simp only [aThaw, aFl, g1, Option.map_some, Option.bind_some] at k
    exact ih (R.same (s := ⟨d, f⟩) g1 g2 (fun q _ => thawF_may q)) h2 k
  | tmp hv t ih =>
    intro A B e ds R h k
    simp only [pFetchAll, pFetch, Option.bind_some, map_some'] at h
    obtain ⟨ds', h2, rfl⟩ := h
    exact ih R h2 k
theorem frz1_ok {A B : AEn} {e : En} {i : Nat} {d : D} (R : Rel as0 A p e) (h : getP p i = some d) (k : aFrz1 A i = some B) : ∃ e', freeze1 e i = some e' ∧ Rel as0 B p e' := by
  obtain ⟨a, f, g1, g2, g3⟩ := R.get _ _ h
  simp only [aFrz1, g1, Option.bind_some] at k
  split at k
  · cases k
  · rename_i q
    cases k
    simp only [freeze1, g2, Option.bind_some]
    have z : fF.has .frz = true := rfl
    cases f with
    | own => exact ⟨_, rfl, R.flag (s := ⟨d, .own⟩) g1 g2 (fun _ _ => z)⟩
    | spn => exact ⟨_, rfl, R.flag (s := ⟨d, .spn⟩) g1 g2 (fun _ _ => z)⟩
    | frz => exact ⟨_, rfl, R.same (s := ⟨d, .frz⟩) g1 g2 (fun _ _ => z)⟩
    | lck => exact absurd g3.fs q
theorem frz_ok {as : List AOd} {ps : List POd} {os : List Od} (O : Ods as ps os) : ∀ {A B : AEn} {e : En} {ds : List D}, Rel as0 A p e → pFetchAll p ps = some ds → aFrz A as = some B → ∃ e', freezeAll e os = some e' ∧ Rel as0 B p e' := by
  induction O with
  | nil =>
    intro A B e ds R _ h
    cases h
    exact ⟨e, rfl, R⟩
  | @slot i as ps os t ih =>
    intro A B e ds R h k
    simp only [pFetchAll, pFetch, bind_some', map_some'] at h
    obtain ⟨d, h1, ds', h2, rfl⟩ := h
    simp only [aFrz, bind_some'] at k
    obtain ⟨C, k1, k2⟩ := k
    obtain ⟨e1, j1, j2⟩ := frz1_ok R h1 k1
    obtain ⟨e2, j3, j4⟩ := ih j2 h2 k2
    exact ⟨e2, by simp only [freezeAll, j1, Option.bind_some, j3], j4⟩
  | tmp hv t ih =>
    intro A B e ds R h k
    simp only [pFetchAll, pFetch, Option.bind_some, map_some'] at h
    obtain ⟨ds', h2, rfl⟩ := h
    exact ih R h2 k
theorem lockF_ok {a : As} {d : D} {f : Fl} (h : a.fs.has f = true) (k : a.sh.has d) : (lockF a).has (match f with | .own => if (asL d).isSome then .lck else .frz | .spn => .lck | f => f) = true := by
  obtain ⟨sh, ⟨f1, f2, f3, f4⟩, sm⟩ := a
  cases f with
  | own =>
    simp only [has_o] at h
    subst h
    show (lockF _).has (if (asL d).isSome then .lck else .frz) = true
    cases sh with
    | l s => rw [if_pos (asL_sh k)]; simp [lockF, has_k]
    | i =>
      have : (asL d).isSome = false := by
        cases d <;> first | rfl | cases k
      rw [this]; simp [lockF, has_f]
    | b => cases k
    | t ss => obtain ⟨xs, rfl, _⟩ := k; rw [if_neg (by simp [asL])]; simp [lockF, has_f]
    | d ks ss => obtain ⟨xs, rfl, _⟩ := k; rw [if_neg (by simp [asL])]; simp [lockF, has_f]
    | x => split <;> simp [lockF, has_f, has_k]
  | spn => simp only [has_s] at h; subst h; cases sh <;> simp [lockF, has_k]
  | frz => simp only [has_f] at h; subst h; cases sh <;> simp [lockF, has_f]
  | lck => simp only [has_k] at h; subst h; cases sh <;> simp [lockF, has_k]
theorem lock_ok {as : List AOd} {ps : List POd} {os : List Od} (O : Ods as ps os) : ∀ {A B : AEn} {e : En} {ds : List D}, Rel as0 A p e → pFetchAll p ps = some ds → aLock A as = some B → ∃ e', lockAll e os = some e' ∧ Rel as0 B p e' := by
  induction O with
  | nil =>
    intro A B e ds R _ h
    cases h
    exact ⟨e, rfl, R⟩
  | @slot i as ps os t ih =>
    intro A B e ds R h k
    simp only [pFetchAll, pFetch, bind_some', map_some'] at h
    obtain ⟨d, h1, ds', h2, rfl⟩ := h
    obtain ⟨a, f, g1, g2, g3⟩ := R.get _ _ h1
    simp only [aLock, aFl, g1, Option.map_some, Option.bind_some] at k
    obtain ⟨e1, j1, R1⟩ : ∃ e1, lock1 e i = some e1 ∧ Rel as0 (A.set i ⟨a.sh, lockF a, a.sm⟩) p e1 := by
      have q := lockF_ok g3.fs g3.sh
      simp only [lock1, g2, Option.map_some]
      cases f with
      | own =>
        simp only [] at q ⊢
        cases z : (asL d).isSome with
        | true => simp only [z, if_true] at q ⊢; exact ⟨_, rfl, R.flag (s := ⟨d, .own⟩) g1 g2 (fun _ _ => q)⟩
        | false => simp only [z, Bool.false_eq_true, if_false] at q ⊢; exact ⟨_, rfl, R.flag (s := ⟨d, .own⟩) g1 g2 (fun _ _ => q)⟩
      | spn => exact ⟨_, rfl, R.flag (s := ⟨d, .spn⟩) g1 g2 (fun _ _ => q)⟩
      | frz => exact ⟨_, rfl, R.same (s := ⟨d, .frz⟩) g1 g2 (fun _ _ => q)⟩
      | lck => exact ⟨_, rfl, R.same (s := ⟨d, .lck⟩) g1 g2 (fun _ _ => q)⟩
    obtain ⟨e', i1, i2⟩ := ih R1 h2 k
    exact ⟨e', by simp only [lockAll, j1, Option.bind_some, i1], i2⟩
  | tmp hv t ih =>
    intro A B e ds R h k
    simp only [pFetchAll, pFetch, Option.bind_some, map_some'] at h
    obtain ⟨ds', h2, rfl⟩ := h
    exact ih R h2 k
theorem own_i {s : Sh} {d : D} {w : Bool} {o : Ob} (h : VO s o d w) (q : s.isI = true) : VO s oT d w := ⟨h.sh, .inl (has_i q h.sh)⟩
theorem gath_ok {as : List AOd} {ps : List POd} {os : List Od} (O : Ods as ps os) : ∀ {A B : AEn} {e : En} {ds : List D} {rs : List (Sh × Ob)}, Rel as0 A p e → pFetchAll p ps = some ds → aGather A as = some (rs, B) → ∃ zs e', gather e os = some (zs, e') ∧ Rel as0 B p e' ∧ things zs = ds ∧ VGs rs zs := by
  induction O with
  | nil =>
    intro A B e ds rs R h k
    cases h
    cases k
    exact ⟨[], e, rfl, R, rfl, .nil⟩
  | @slot i as ps os t ih =>
    intro A B e ds rs R h k
    simp only [pFetchAll, pFetch, bind_some', map_some'] at h
    obtain ⟨d, h1, ds', h2, rfl⟩ := h
    obtain ⟨a, f, g1, g2, g3⟩ := R.get _ _ h1
    simp only [aGather, aOwn, aRead, g1, Option.bind_some, bind_some', map_some', Prod.mk.injEq] at k
    obtain ⟨r, k1, q, k2, rfl, rfl⟩ := k
    simp only [gather, odOwn, readV, g2, Option.bind_some]
    by_cases hi : a.sh.isI = true
    · rw [if_pos hi] at k1
      cases k1
      rw [if_pos (has_i hi g3.sh)]
      obtain ⟨zs, e', i1, i2, i3, i4⟩ := ih R h2 k2
      refine ⟨(d, true) :: zs, e', by simp only [Option.bind_some, i1, Option.map_some], i2, by simp [things] at i3 ⊢; exact i3, .cons g3.sh (by rw [has_i hi g3.sh]; rfl) i4⟩
    · rw [if_neg hi] at k1
      split at k1
      · rename_i hm
        rw [map_some'] at k1
        obtain ⟨C, k3, rfl⟩ := k1
        rw [if_neg (by rw [has_mut _ _ hm g3.sh]; simp)]
        obtain ⟨e1, j1, j2⟩ := frz1_ok R h1 k3
        obtain ⟨zs, e', i1, i2, i3, i4⟩ := ih j2 h2 k2
        refine ⟨(d, false) :: zs, e', by simp only [j1, Option.bind_some, i1, Option.map_some], i2, by simp [things] at i3 ⊢; exact i3, .cons g3.sh (by rw [has_mut _ _ hm g3.sh]; rfl) i4⟩
      · cases k1
  | @tmp s o d w as ps os hv t ih =>
    intro A B e ds rs R h k
    simp only [pFetchAll, pFetch, Option.bind_some, map_some'] at h
    obtain ⟨ds', h2, rfl⟩ := h
    simp only [aGather, aOwn, bind_some', map_some', Prod.mk.injEq] at k
    obtain ⟨r, k1, q, k2, rfl, rfl⟩ := k
    simp only [gather, odOwn, Option.bind_some]
    have hA : r.A = A := by
      split at k1
      · cases k1; rfl
      · split at k1
        · cases k1; rfl
        · cases k1
    rw [hA] at k2
    obtain ⟨zs, e', i1, i2, i3, i4⟩ := ih R h2 k2
    refine ⟨(d, w) :: zs, e', by simp only [i1, Option.map_some], i2, by simp [things] at i3 ⊢; exact i3, .cons ?_ ?_ i4⟩
    · split at k1
      · cases k1; exact hv.sh
      · split at k1
        · cases k1; exact hv.sh
        · cases k1
    · split at k1
      · rename_i q; cases k1; rw [has_i q hv.sh]; rfl
      · split at k1
        · rename_i q
          cases k1
          have := has_mut _ _ q hv.sh
          rw [this, Bool.false_or]
          rcases hv.ob with z | z
          · rw [this] at z; cases z
          · exact z
        · cases k1
theorem vgs_has {rs : List (Sh × Ob)} {zs : List (D × Bool)} (h : VGs rs zs) : hasAll (aThings rs) (things zs) := by
  induction h with
  | nil => rfl
  | cons h m t ih => exact ⟨_, _, rfl, h, ih⟩
theorem vgs_all {rs : List (Sh × Ob)} {zs : List (D × Bool)} (h : VGs rs zs) : (aAll rs).has (allOwn zs) = true := by
  have T : allOwn zs = true → (rs.all fun r => r.2.t) = true := by
    induction h with
    | nil => exact fun _ => rfl
    | cons h m t ih =>
      intro q
      simp only [allOwn, List.all_cons, Bool.and_eq_true] at q ⊢
      rw [q.1] at m
      exact ⟨m, ih q.2⟩
  have F : allOwn zs = false → (rs.any fun r => r.2.f) = true := by
    clear T
    induction h with
    | nil => intro q; cases q
    | @cons s o d w rs zs h m t ih =>
      intro q
      simp only [allOwn, List.all_cons, List.any_cons, Bool.and_eq_false_iff, Bool.or_eq_true] at q ⊢
      rcases q with q | q
      · rw [q] at m; exact .inl m
      · exact .inr (ih q)
  cases q : allOwn zs with
  | true => exact T q
  | false => exact F q
theorem vgs_len {rs : List (Sh × Ob)} {zs : List (D × Bool)} (h : VGs rs zs) : rs.length = zs.length := by
  induction h with
  | nil => rfl
  | cons h m t ih => simp [ih]

/-- arguments -/
inductive Args : List As → List D → List Sl → Prop where
  | nil : Args [] [] []
  | cons {a : As} {d : D} {f : Fl} {as : List As} {ds : List D} {ss : List Sl} (h : a.sh.has d) (k : a.fs.has f = true) (t : Args as ds ss) : Args (a :: as) (d :: ds) (⟨d, f⟩ :: ss)
theorem args_ok {as : List AOd} {ps : List POd} {os : List Od} (O : Ods as ps os) : ∀ {A : AEn} {e : En} {ds : List D} {rs : List As}, Rel as0 A p e → pFetchAll p ps = some ds → aArgs A as = some rs → ∃ ss, argsOf e os = some ss ∧ Args rs ds ss := by
  induction O with
  | nil =>
    intro A e ds rs R h k
    cases h
    cases k
    exact ⟨[], rfl, .nil⟩
  | @slot i as ps os t ih =>
    intro A e ds rs R h k
    simp only [pFetchAll, pFetch, bind_some', map_some'] at h
    obtain ⟨d, h1, ds', h2, rfl⟩ := h
    obtain ⟨a, f, g1, g2, g3⟩ := R.get _ _ h1
    simp only [aArgs, aArg, g1, Option.bind_some, bind_some', map_some'] at k
    obtain ⟨r, k1, q, k2, rfl⟩ := k
    split at k1
    · cases k1
    · rename_i z
      cases k1
      obtain ⟨ss, i1, i2⟩ := ih R h2 k2
      have nl : f ≠ .lck := fun y => by subst y; exact z g3.fs
      refine ⟨⟨d, f⟩ :: ss, ?_, .cons g3.sh g3.fs i2⟩
      simp only [argsOf, argOf, g2, Option.bind_some, if_neg nl, i1, Option.map_some]
  | @tmp s o d w as ps os hv t ih =>
    intro A e ds rs R h k
    simp only [pFetchAll, pFetch, Option.bind_some, map_some'] at h
    obtain ⟨ds', h2, rfl⟩ := h
    simp only [aArgs, aArg, bind_some', map_some'] at k
    obtain ⟨r, k1, q, k2, rfl⟩ := k
    obtain ⟨ss, i1, i2⟩ := ih R h2 k2
    refine ⟨⟨d, if imm d || w then .own else .frz⟩ :: ss, by simp only [argsOf, argOf, Option.bind_some, i1, Option.map_some], ?_⟩
    split at k1
    · rename_i z
      cases k1
      rw [has_i z hv.sh]
      exact .cons hv.sh rfl i2
    · split at k1
      · rename_i z
        cases k1
        have y := has_mut _ _ z hv.sh
        refine .cons hv.sh ?_ i2
        rw [y, Bool.false_or]
        rcases hv.ob with x | x
        · rw [y] at x; cases x
        · cases w <;> exact x
      · cases k1
theorem Args.mono {as bs : List As} {ds : List D} {ss : List Sl} (h : Args as ds ss) : aLe as bs = true → Args bs ds ss := by
  induction h generalizing bs with
  | nil =>
    intro l
    cases bs with
    | nil => exact .nil
    | cons => simp [aLe] at l
  | cons h k t ih =>
    intro l
    cases bs with
    | nil => simp [aLe] at l
    | cons b bs =>
      simp only [aLe, As.le, Bool.and_eq_true] at l
      exact .cons (shLe_ok _ _ _ l.1.1.1 h) (fle_ok l.1.1.2 k) (ih l.2)
theorem Args.len {as : List As} {ds : List D} {ss : List Sl} (h : Args as ds ss) : as.length = ds.length ∧ as.length = ss.length := by
  induction h with
  | nil => exact ⟨rfl, rfl⟩
  | cons _ _ _ ih => simp [ih.1.symm, ih.2.symm]

/-- what stands behind a call: what came in, what comes out -/
inductive Outs : List As → List D → List D → List Sl → Prop where
  | nil : Outs [] [] [] []
  | cons {a : As} {d0 d : D} {f : Fl} {as : List As} {es ds : List D} {ss : List Sl} (h : SlO a (some d0) d f) (t : Outs as es ds ss) : Outs (a :: as) (d0 :: es) (d :: ds) (⟨d, f⟩ :: ss)
theorem aSlots_eq {as : List AOd} {ps : List POd} {os : List Od} (O : Ods as ps os) : slotsIn os = aSlots as := by
  induction O with
  | nil => rfl
  | slot t ih => simp [slotsIn, aSlots, ih]
  | tmp h t ih => simp [slotsIn, aSlots, ih]
theorem pFetch_set {ps : List POd} {i : Nat} {v : Option D} {as : List AOd} {os : List Od} (O : Ods as ps os) : ∀ {ds : List D} (p : PEn), i ∉ aSlots as → (pFetchAll (p.set i v) ps = some ds ↔ pFetchAll p ps = some ds) := by
  induction O with
  | nil => exact fun p _ => Iff.rfl
  | slot t ih =>
    intro ds p h
    simp only [aSlots, List.mem_cons, not_or] at h
    simp only [pFetchAll, pFetch, bind_some', map_some', getP_set, if_neg h.1, ih p h.2]
  | tmp hv t ih =>
    intro ds p h
    simp only [aSlots] at h
    simp only [pFetchAll, pFetch, Option.bind_some, map_some', ih p h]
theorem back_ok {kt kf keep : Bool} (hk : (keep = true → kt = true) ∧ (keep = false → kf = true)) {as : List AOd} {ps : List POd} {os : List Od} (O : Ods as ps os) : ∀ {A B : AEn} {p : PEn} {e : En} {ds fs : List D} {ss : List Sl} {fin : List As}, Rel as0 A p e → (aSlots as).Nodup → pFetchAll p ps = some ds → Outs fin ds fs ss → aBack kt kf A as fin = some B → ∃ p' e', pBack p ps fs = some p' ∧ backTo keep e os ss = some e' ∧ Rel as0 B p' e' := by
  induction O with
  | nil =>
    intro A B p e ds fs ss fin R _ h U k
    cases h
    cases U
    cases k
    exact ⟨p, e, rfl, rfl, R⟩
  | @slot i as ps os t ih =>
    intro A B p e ds fs ss fin R N h U k
    simp only [pFetchAll, pFetch, bind_some', map_some'] at h
    obtain ⟨d, h1, ds', h2, rfl⟩ := h
    obtain ⟨a, f, g1, g2, g3⟩ := R.get _ _ h1
    cases U with
    | @cons b _ d' f' fin' _ fs' ss' v U =>
      simp only [aBack, g1, Option.bind_some] at k
      split at k
      · cases k
      · rename_i z
        simp only [aSlots, List.nodup_cons] at N
        simp only [Bool.or_eq_true, Bool.and_eq_true, Bool.not_eq_true', not_or, Bool.not_eq_true, not_and] at z
        obtain ⟨⟨z1, z2⟩, z3⟩ := z
        have nl : f ≠ .lck := fun y => by
          subst y
          have := g3.fs
          rw [has_k, z1] at this
          cases this
        have R1 : Rel as0 (A.set i ⟨b.sh, backF kt kf a b, a.sm && b.sm⟩) (putP p i d') (if f = .frz then e else putS e i d' (if keep then f' else .frz)) := by
          by_cases hf : f = .frz
          · subst hf
            have sm : b.sm = true := by
              have := z2 g3.fs
              cases q : b.sm with
              | true => rfl
              | false => rw [q] at this; simp at this
            have hd := v.sm sm
            cases hd
            rw [if_pos rfl]
            have := R.put (i := i) (a := ⟨b.sh, backF kt kf a b, a.sm && b.sm⟩) (d := d) (f := .frz) ⟨v.sh, by
              have := g3.fs
              rw [has_f] at this
              simp [backF, has_f, this], fun q => by
                simp only [Bool.and_eq_true] at q
                exact g3.sm q.1⟩
            have e2 : putS e i d .frz = e := by
              have h3 : e[i]? = some (some ⟨d, .frz⟩) := by
                unfold getS at g2
                split at g2
                · rename_i q
                  cases g2
                  exact q
                · cases g2
              obtain ⟨hi, hv⟩ := List.getElem?_eq_some_iff.mp h3
              have := List.set_getElem_self hi
              rw [hv] at this
              exact this
            rwa [e2] at this
          · rw [if_neg hf]
            refine R.put ⟨v.sh, ?_, fun q => ?_⟩
            · have lent : (a.fs.o || a.fs.s) = true := by
                have := g3.fs
                cases f with
                | own => rw [has_o] at this; rw [this]; rfl
                | spn => rw [has_s] at this; rw [this, Bool.or_true]
                | frz => exact absurd rfl hf
                | lck => exact absurd rfl nl
              cases keep with
              | true =>
                have kt' := hk.1 rfl
                have := v.fs
                rw [if_pos rfl]
                cases f' <;> simp only [has_o, has_s, has_f, has_k] at this <;> simp [backF, has_o, has_s, has_f, has_k, lent, kt', this]
              | false =>
                have kf' := hk.2 rfl
                simp [backF, has_f, lent, kf']
            · simp only [Bool.and_eq_true] at q
              have := v.sm q.2
              cases this
              exact g3.sm q.1
        have h3 : pFetchAll (putP p i d') ps = some ds' := (pFetch_set t p N.1).mpr h2
        obtain ⟨p', e', i1, i2, i3⟩ := ih R1 N.2 h3 U k
        refine ⟨p', e', i1, ?_, i3⟩
        simp only [backTo, g2, Option.bind_some]
        exact i2
  | @tmp s o d w as ps os hv t ih =>
    intro A B p e ds fs ss fin R N h U k
    simp only [pFetchAll, pFetch, Option.bind_some, map_some'] at h
    obtain ⟨ds', h2, rfl⟩ := h
    cases U with
    | cons v U =>
      simp only [aSlots] at N
      obtain ⟨p', e', i1, i2, i3⟩ := ih R N h2 U k
      exact ⟨p', e', i1, i2, i3⟩
end
end Ev
/-! The look ahead is right: primitives, stores, walks. -/
namespace Ev
open PySem

section
variable {as0 : List D} {A B : AEn} {p : PEn} {e : En}
theorem Rel.dead (h : Rel as0 A p e) {i : Nat} (hi : getP p i = none) (a : As) (v : Option Sl) : Rel as0 (A.set i a) p (e.set i v) := by
  refine ⟨by simp [h.lp], by simp [h.le], fun j d hd => ?_⟩
  by_cases q : i = j
  · subst q; rw [hi] at hd; cases hd
  · rw [getS_set, List.getElem?_set, if_neg q, if_neg q]
    exact h.get j d hd
theorem Rel.deadA (h : Rel as0 A p e) {i : Nat} (hi : getP p i = none) (a : As) : Rel as0 (A.set i a) p e := by
  refine ⟨by simp [h.lp], by simp [h.le], fun j d hd => ?_⟩
  by_cases q : i = j
  · subst q; rw [hi] at hd; cases hd
  · rw [List.getElem?_set, if_neg q]
    exact h.get j d hd
theorem unlockF_ok {w a : As} {s t : Sl} (hw : w.fs.has s.fl = true) (ha : a.fs.has t.fl = true) (hs : a.sh.has t.d) : (unlockF w a).has (if t.fl = .lck then (if s.fl = .lck then .lck else if flat t.d then s.fl else .spn) else t.fl) = true := by
  obtain ⟨d, f⟩ := t
  obtain ⟨d0, f0⟩ := s
  simp only at hw ha hs ⊢
  by_cases hf : f = .lck
  · subst hf
    rw [if_pos rfl]
    rw [has_k] at ha
    unfold unlockF
    rw [if_pos ha]
    have fl : ∀ s, (Sh.l s).has d → s.isI = true → flat d = true := fun s h k => by
      obtain ⟨xs, rfl, h⟩ := h
      exact immAll_of fun x hx => has_i k (h x hx)
    cases hsh : a.sh with
    | l s =>
      rw [hsh] at hs
      simp only []
      by_cases hi : s.isI = true
      · rw [if_pos hi, fl s hs hi]
        cases f0 <;> simp only [has_o, has_s, has_f, has_k] at hw <;> simp [hw, has_o, has_s, has_f, has_k]
      · rw [if_neg hi]
        cases flat d <;> cases f0 <;> simp only [has_o, has_s, has_f, has_k] at hw <;> simp [hw, has_o, has_s, has_f, has_k]
    | _ =>
      simp only []
      cases flat d <;> cases f0 <;> simp only [has_o, has_s, has_f, has_k] at hw <;> simp [hw, has_o, has_s, has_f, has_k]
  · rw [if_neg hf]
    unfold unlockF
    split
    · cases hsh : a.sh <;> simp only [] <;> (try split) <;> cases f <;> simp only [has_o, has_s, has_f, has_k] at ha <;> first | exact absurd rfl hf | simp [ha, has_o, has_s, has_f, has_k]
    · exact ha
theorem unlock_ok {W : AEn} {pw : PEn} {ew : En} (RW : Rel as0 W pw ew) {as : List AOd} {ps : List POd} {os : List Od} (O : Ods as ps os) : ∀ {A B : AEn} {p : PEn} {e : En} {ds : List D}, Rel as0 A p e → pFetchAll pw ps = some ds → aUnlock W A as = some B → Rel as0 B p (unlockAll ew e os) := by
  induction O with
  | nil =>
    intro A B p e ds R _ k
    cases k
    exact R
  | @slot i as ps os t ih =>
    intro A B p e ds R h k
    simp only [pFetchAll, pFetch, bind_some', map_some'] at h
    obtain ⟨d, h1, ds', h2, rfl⟩ := h
    obtain ⟨w, f0, w1, w2, w3⟩ := RW.get _ _ h1
    simp only [aUnlock, w1, Option.bind_some, aFl, bind_some', map_some'] at k
    obtain ⟨C, ⟨a, k1, rfl⟩, k2⟩ := k
    refine ih ?_ h2 k2
    unfold unlock1
    cases hp : getP p i with
    | none =>
      split
      · split
        · exact R.dead hp _ _
        · exact R.deadA hp _
      · exact R.deadA hp _
    | some d1 =>
      obtain ⟨a', f, g1, g2, g3⟩ := R.get _ _ hp
      rw [k1] at g1
      cases g1
      rw [w2, g2]
      simp only []
      have q := unlockF_ok (s := ⟨d, f0⟩) (t := ⟨d1, f⟩) w3.fs g3.fs g3.sh
      simp only [] at q
      by_cases hf : f = .lck
      · rw [if_pos hf] at q ⊢
        exact R.flag (s := ⟨d1, f⟩) k1 g2 (fun _ _ => q)
      · rw [if_neg hf] at q ⊢
        exact R.same (s := ⟨d1, f⟩) k1 g2 (fun _ _ => q)
  | tmp hv t ih =>
    intro A B p e ds R h k
    simp only [pFetchAll, pFetch, Option.bind_some, map_some'] at h
    obtain ⟨ds', h2, rfl⟩ := h
    exact ih R h2 k

/-! ### stores -/
theorem stF_ok {s : Sh} {o : Ob} {d : D} {w : Bool} (h : VO s o d w) : (stF s o).has (if imm d || w then .own else .frz) = true := by
  unfold stF
  split
  · rename_i q
    rw [has_i q h.sh]
    rfl
  · split
    · rename_i q
      have z := has_mut _ _ q h.sh
      rw [z, Bool.false_or]
      rcases h.ob with x | x
      · rw [z] at x; cases x
      · cases w <;> exact x
    · cases imm d <;> cases w <;> rfl
theorem pst_ok (R : Rel as0 A p e) {i : Nat} {s : Sh} {o : Ob} {d : D} {w : Bool} {p' : PEn} (h : VO s o d w) (k : aStore A i s o = some B) (m : pStore p i d = some p') : ∃ e', store e i d w = some e' ∧ Rel as0 B p' e' := by
  unfold aStore at k
  unfold pStore at m
  unfold store
  rw [R.lp] at m
  rw [R.le]
  split at k
  · rename_i q
    rw [if_pos q] at m ⊢
    cases k
    cases m
    exact ⟨_, rfl, R.put ⟨h.sh, stF_ok h, fun z => by cases z⟩⟩
  · cases k
theorem pste_ok {rs : List (Sh × Ob)} {zs : List (D × Bool)} (h : VOs rs zs) : ∀ {is : List Nat} {A B : AEn} {p p' : PEn} {e : En}, Rel as0 A p e → aStoreAll A is rs = some B → pStoreAll p is (things zs) = some p' → ∃ e', storeEach e is zs = some e' ∧ Rel as0 B p' e' := by
  induction h with
  | nil =>
    intro is A B p p' e R k m
    cases is with
    | nil => cases k; cases m; exact ⟨e, rfl, R⟩
    | cons => cases k
  | @cons s o d w rs zs h t ih =>
    intro is A B p p' e R k m
    cases is with
    | nil => cases k
    | cons i is =>
      simp only [things, List.map_cons, aStoreAll, pStoreAll, bind_some'] at k m
      obtain ⟨C, k1, k2⟩ := k
      obtain ⟨p1, m1, m2⟩ := m
      obtain ⟨e1, j1, j2⟩ := pst_ok R h k1 m1
      obtain ⟨e2, j3, j4⟩ := ih j2 k2 m2
      exact ⟨e2, by simp only [storeEach, j1, Option.bind_some, j3], j4⟩
theorem psta_ok : ∀ {rs : List (Sh × Ob)} {ds : List D} {is : List Nat} {A B : AEn} {p p' : PEn} {e : En}, Rel as0 A p e → VOs rs (ds.map fun d => (d, false)) → aStoreAll A is rs = some B → pStoreAll p is ds = some p' → ∃ e', storeAll e is ds = some e' ∧ Rel as0 B p' e'
  | [], [], [], _, _, _, _, e, R, _, k, m => by cases k; cases m; exact ⟨e, rfl, R⟩
  | [], [], _ :: _, _, _, _, _, _, _, _, k, _ => by cases k
  | [], _ :: _, _, _, _, _, _, _, _, h, _, _ => by cases h
  | _ :: _, [], _, _, _, _, _, _, _, h, _, _ => by cases h
  | _ :: _, _ :: _, [], _, _, _, _, _, _, _, k, _ => by cases k
  | r :: rs, d :: ds, i :: is, A, B, p, p', e, R, h, k, m => by
    cases h with
    | cons h t =>
      simp only [aStoreAll, pStoreAll, bind_some'] at k m
      obtain ⟨C, k1, k2⟩ := k
      obtain ⟨p1, m1, m2⟩ := m
      obtain ⟨e1, j1, j2⟩ := pst_ok R h k1 m1
      obtain ⟨e2, j3, j4⟩ := psta_ok j2 t k2 m2
      exact ⟨e2, by simp only [storeAll, j1, Option.bind_some, j3], j4⟩
theorem pStoreAll_len : ∀ {is : List Nat} {ds : List D} {p p' : PEn}, pStoreAll p is ds = some p' → is.length = ds.length
  | [], [], _, _, _ => rfl
  | [], _ :: _, _, _, h => by cases h
  | _ :: _, [], _, _, h => by cases h
  | i :: is, d :: ds, p, p', h => by
    simp only [pStoreAll, bind_some'] at h
    obtain ⟨_, _, h⟩ := h
    simp [pStoreAll_len h]
theorem vos_imm : ∀ {is : List Nat} {ds : List D}, is.length = ds.length → immAll ds = true → VOs (is.map fun _ => (Sh.i, oF)) (ds.map fun d => (d, false))
  | [], [], _, _ => .nil
  | [], _ :: _, h, _ => by cases h
  | _ :: _, [], h, _ => by cases h
  | i :: is, d :: ds, h, k => by
    simp only [immAll, Bool.and_eq_true] at k
    exact .cons ⟨k.1, .inl k.1⟩ (vos_imm (by simpa using h) k.2)
theorem vos_frz : ∀ {ss : List Sh} {ds : List D}, hasAll ss ds → VOs (ss.map fun s => (s, oF)) (ds.map fun d => (d, false))
  | [], ds, h => by
    simp only [hasAll] at h
    subst h
    exact .nil
  | s :: ss, ds, h => by
    obtain ⟨y, ys, rfl, k1, k2⟩ := h
    exact .cons ⟨k1, .inr rfl⟩ (vos_frz k2)
theorem assign_ok (R : Rel as0 A p e) {t : Tg} {s : Sh} {o : Ob} {d : D} {w : Bool} {p' : PEn} (h : VO s o d w) (k : aAssign A t s o = some B) (m : pAssign p t d = some p') : ∃ e', assignT e t d w = some e' ∧ Rel as0 B p' e' := by
  cases t with
  | nm i => exact pst_ok R h k m
  | tp is =>
    cases d with
    | tuple ds =>
      have m' : pStoreAll p is ds = some p' := m
      have l := pStoreAll_len m'
      cases s with
      | i => exact psta_ok R (vos_imm l h.sh) k m'
      | b => cases h.sh
      | t ss =>
        obtain ⟨xs, e, hx⟩ := h.sh
        cases e
        exact psta_ok R (vos_frz hx) k m'
      | l s => cases k
      | d ks ss => cases k
      | x => cases k
    | _ => cases m

/-! ### primitives -/
theorem immAll_range (n : Nat) (a : Int) : immAll ((List.range n).map fun i => PyData.int (a + (i : Nat))) = true := immAll_of fun x hx => by
  obtain ⟨i, _, rfl⟩ := List.mem_map.mp hx
  rfl
theorem gO_some {α : Type} {b : Bool} {d r : α} (h : guardO b d = some r) : r = d := by
  cases b <;> simp [guardO] at h
  exact h.symm
theorem pm1_imm {p : Pm} (hp : immP p = true) {a r : D} (h : pm1 p a = some r) : imm r = true := by
  cases p <;> simp only [immP, Bool.false_eq_true] at hp <;> unfold pm1 at h <;> simp only [] at h <;>
    first
    | (cases h; rfl)
    | (cases h; done)
    | (simp only [map_some'] at h; obtain ⟨_, _, rfl⟩ := h; rfl)
    | (simp only [bind_some', map_some'] at h; obtain ⟨_, _, _, _, rfl⟩ := h; rfl)
    | (cases a <;> simp only [Option.some.injEq, reduceCtorEq] at h <;> subst h <;> rfl)
    | skip
  all_goals first
    | (simp only [bind_some'] at h; obtain ⟨_, _, _, _, h⟩ := h; split at h <;> first | (cases h; done) | (cases h; rfl))
    | (simp only [pRepr] at h; rw [gO_some h]; rfl)
    | (simp only [bind_some'] at h; obtain ⟨_, _, h⟩ := h; rw [gO_some h]; first | rfl | exact immAll_range _ _)
    | skip
theorem pm2_imm {p : Pm} (hp : immP p = true) {a b r : D} (h : pm2 p a b = some r) : imm r = true := by
  cases p <;> simp only [immP, Bool.false_eq_true] at hp <;> unfold pm2 at h <;> simp only [] at h <;>
    first
    | (cases h; done)
    | (simp only [map_some'] at h; obtain ⟨_, _, rfl⟩ := h; rfl)
    | (simp only [bind_some', map_some'] at h; obtain ⟨_, _, _, _, rfl⟩ := h; rfl)
    | (simp only [cmpI, bind_some', map_some'] at h; obtain ⟨_, _, _, _, rfl⟩ := h; rfl)
    | (simp only [bind_some'] at h; obtain ⟨_, _, _, _, h⟩ := h; rw [gO_some h]; rfl)
theorem pm_imm {p : Pm} (hp : immP p = true) : ∀ {ds : List D} {r : D}, pm p ds = some r → imm r = true
  | [], r, h => by cases p <;> cases h
  | [a], r, h => pm1_imm hp h
  | [a, b], r, h => pm2_imm hp h
  | a :: b :: c :: ds, r, h => by
    cases p <;> simp only [immP, Bool.false_eq_true] at hp <;> simp [pm] at h
end
end Ev
/-! The look ahead is right: the shapes of primitives' results. -/
namespace Ev
open PySem

theorem has_of_b {s : Sh} {d : D} (h : Sh.b.has d) : s.has d := by cases h
theorem seqSh_ok {a s : Sh} {d : D} {xs : List D} (h : seqSh a = some s) (k : a.has d) (m : seqOf d = some xs) : ∀ x ∈ xs, s.has x := by
  cases a with
  | i =>
    cases h
    intro x hx
    cases d <;> simp only [seqOf, Option.some.injEq, reduceCtorEq] at m
    · cases k
    · subst m; exact of_immAll k x hx
  | l t =>
    cases h
    obtain ⟨ys, rfl, k⟩ := k
    cases m
    exact k
  | b => cases k
  | _ => cases h
theorem cut_mem {xs : List D} {lo hi : Option Int} {x : D} (h : x ∈ cutL xs lo hi) : x ∈ xs := List.mem_of_mem_drop (List.mem_of_mem_take h)
theorem slice_ok {a s : Sh} {d r : D} {lo hi : Option Int} (k : a.has d) (h : keepSh a = some s) (m : pSlice d lo hi = some r) : s.has r := by
  unfold keepSh at h
  split at h
  · cases h
    cases d <;> simp only [pSlice, Option.some.injEq, reduceCtorEq] at m
    · cases k
    · subst m
      exact immAll_of fun x hx => of_immAll k x (cut_mem hx)
  · cases h
    obtain ⟨xs, rfl, k⟩ := k
    simp only [pSlice, Option.some.injEq] at m
    subst m
    exact ⟨_, rfl, fun x hx => k x (cut_mem hx)⟩
  · cases h
theorem rep_mem {k : Int} {xs : List D} {x : D} (h : x ∈ repL k xs) : x ∈ xs := by
  unfold repL at h
  obtain ⟨l, hl, hx⟩ := List.mem_flatten.mp h
  rw [(List.mem_replicate.mp hl).2] at hx
  exact hx
theorem once_mem : ∀ {xs acc : List D} {x : D}, x ∈ onceD acc xs → x ∈ acc ∨ x ∈ xs
  | [], acc, x, h => .inl h
  | y :: ys, acc, x, h => by
    unfold onceD at h
    split at h
    · rcases once_mem h with h | h
      · exact .inl h
      · exact .inr (List.mem_cons_of_mem _ h)
    · rcases once_mem h with h | h
      · rcases List.mem_append.mp h with h | h
        · exact .inl h
        · exact .inr (by simp at h; subst h; exact List.mem_cons_self ..)
      · exact .inr (List.mem_cons_of_mem _ h)
theorem sort_mem {rev : Bool} {xs : List D} {x : D} (h : x ∈ sortD rev xs) : x ∈ xs := List.mem_mergeSort.mp h
theorem idx_mem {n : Nat} {xs : List D} {i : Int} {r : D} (h : ((atIx n i).bind fun k => xs[k]?) = some r) : r ∈ xs := by
  rw [bind_some'] at h
  obtain ⟨k, _, h⟩ := h
  exact List.mem_of_getElem? h
theorem hasAll_get : ∀ {ss : List Sh} {xs : List D} {k : Nat} {s : Sh} {x : D}, hasAll ss xs → ss[k]? = some s → xs[k]? = some x → s.has x
  | [], xs, k, s, x, _, h, _ => by simp at h
  | t :: ss, xs, k, s, x, h, m, n => by
    obtain ⟨y, ys, rfl, h1, h2⟩ := h
    cases k with
    | zero => simp at m n; subst m n; exact h1
    | succ k => simp at m n; exact hasAll_get h2 m n
theorem idxSh_ok {e : Ex} {a s : Sh} {d i r : D} (h : idxSh e a = some s) (k : a.has d) (m : pIdx d i = some r) (c : ∀ c, e = Ex.cst c → i = c) : s.has r := by
  cases a with
  | i =>
    cases h
    cases d <;> cases i <;> simp only [pIdx, reduceCtorEq] at m
    · cases k
    · exact of_immAll k _ (idx_mem m)
  | b => cases k
  | l t =>
    cases h
    obtain ⟨xs, rfl, k⟩ := k
    cases i <;> simp only [pIdx, reduceCtorEq] at m
    exact k _ (idx_mem m)
  | t ss =>
    obtain ⟨xs, rfl, k⟩ := k
    simp only [idxSh] at h
    split at h
    · rename_i n
      have := c _ rfl
      subst this
      simp only [pIdx] at m
      rw [bind_some'] at m
      obtain ⟨j, m1, m2⟩ := m
      have : j = n := by
        unfold atIx at m1
        split at m1
        · split at m1
          · simp at m1; exact m1.symm
          · cases m1
        · rename_i z
          exact absurd (Int.natCast_nonneg n) z
      subst this
      exact hasAll_get k h m2
    · cases h
  | d _ _ => cases h
  | x => cases h
theorem keySh_ok {k : Str} : ∀ {ks : List Str} {ss : List Sh} {xs : List D} {s : Sh} {r : D}, keySh k ks ss = some s → hasAll ss xs → valD k ((ks.map .str).zip xs) = some r → s.has r
  | [], ss, xs, s, r, h, _, _ => by cases h
  | j :: js, [], xs, s, r, h, _, _ => by cases h
  | j :: js, t :: ss, xs, s, r, h, m, n => by
    obtain ⟨y, ys, rfl, h1, h2⟩ := m
    simp only [List.map_cons, List.zip_cons_cons, valD] at n
    simp only [keySh] at h
    split at h
    · rename_i q
      rw [if_pos q] at n
      cases h; cases n
      exact h1
    · rename_i q
      rw [if_neg q] at n
      exact keySh_ok h h2 n
theorem dctSh_ok {e : Ex} {a s : Sh} {d i r : D} (h : dctSh e a = some s) (k : a.has d) (m : pIdxD d i = some r) (c : ∀ c, e = Ex.cst c → i = c) : s.has r := by
  cases a with
  | d ks ss =>
    obtain ⟨xs, rfl, k, _⟩ := k
    simp only [dctSh] at h
    split at h
    · have := c _ rfl
      subst this
      simp only [pIdxD] at m
      exact keySh_ok h k m
    · cases h
  | _ => cases h
theorem immAll_app' {xs ys : List D} (h : immAll xs = true) (k : immAll ys = true) : immAll (xs ++ ys) = true := immAll_of fun x hx => by
  rcases List.mem_append.mp hx with q | q
  · exact of_immAll h x q
  · exact of_immAll k x q
theorem hasAll1 {a : Sh} {ds : List D} (h : hasAll [a] ds) : ∃ x, ds = [x] ∧ a.has x := by
  obtain ⟨x, xs, rfl, h1, h2⟩ := h
  simp only [hasAll] at h2
  subst h2
  exact ⟨x, rfl, h1⟩
theorem hasAll2 {a b : Sh} {ds : List D} (h : hasAll [a, b] ds) : ∃ x y, ds = [x, y] ∧ a.has x ∧ b.has y := by
  obtain ⟨x, xs, rfl, h1, h2⟩ := h
  obtain ⟨y, rfl, h3⟩ := hasAll1 h2
  exact ⟨x, y, rfl, h1, h3⟩
theorem hasAll3 {a b c : Sh} {ds : List D} (h : hasAll [a, b, c] ds) : ∃ x y z, ds = [x, y, z] ∧ a.has x ∧ b.has y ∧ c.has z := by
  obtain ⟨x, xs, rfl, h1, h2⟩ := h
  obtain ⟨y, z, rfl, h3, h4⟩ := hasAll2 h2
  exact ⟨x, y, z, rfl, h1, h3, h4⟩
theorem add_ok {a b s : Sh} {x y r : D} (ha : a.has x) (hb : b.has y) (h : addSh a b = some s) (m : pAdd x y = some r) : s.has r := by
  unfold addSh at h
  split at h
  · cases h
    cases x <;> cases y <;> simp only [pAdd, reduceCtorEq, Option.some.injEq] at m
    · subst m; rfl
    · cases ha
    · rw [gO_some m]; exact immAll_app' ha hb
  · obtain ⟨xs, rfl, ha⟩ := ha
    obtain ⟨ys, rfl, hb⟩ := hb
    simp only [pAdd] at m
    rw [gO_some m]
    refine mkL_ok h fun z hz => ?_
    rcases List.mem_append.mp hz with q | q
    · exact ⟨_, by simp, ha z q⟩
    · exact ⟨_, by simp, hb z q⟩
  · cases h
theorem mul_ok {a s : Sh} {x y r : D} (ha : a.has x) (h : keepSh a = some s) (m : pMul x y = some r) : s.has r := by
  unfold keepSh at h
  split at h
  · cases h
    cases x <;> cases y <;> simp only [pMul, reduceCtorEq] at m
    · rw [gO_some m]; rfl
    · cases ha
    · rw [gO_some m]; exact immAll_of fun z hz => of_immAll ha z (rep_mem hz)
  · cases h
    obtain ⟨xs, rfl, ha⟩ := ha
    cases y <;> simp only [pMul, reduceCtorEq] at m
    rw [gO_some m]
    exact ⟨_, rfl, fun z hz => ha z (rep_mem hz)⟩
  · cases h
theorem range_i {a b : Int} {x : D} (h : x ∈ rangeD a b) : imm x = true := by
  obtain ⟨i, _, rfl⟩ := List.mem_map.mp h
  rfl
theorem prim_sh {p : Pm} {es : List Ex} {ss : List Sh} {s : Sh} {ds : List D} {r : D} (h : primSh p es ss = some s) (k : hasAll ss ds) (m : pm p ds = some r) (c : ∀ (j : Nat) (c : D), es[j]? = some (Ex.cst c) → ds[j]? = some c) : s.has r := by
  unfold primSh at h
  split at h
  · rename_i q
    cases h
    exact pm_imm q m
  · split at h
    · obtain ⟨x, y, rfl, h1, h2⟩ := hasAll2 k
      exact add_ok h1 h2 h m
    · obtain ⟨x, y, rfl, h1, h2⟩ := hasAll2 k
      exact mul_ok h1 h m
    · obtain ⟨x, y, rfl, h1, h2⟩ := hasAll2 k
      exact idxSh_ok h h1 m fun c' hc => by
        have := c 1 c' (by subst hc; rfl)
        simpa using this
    · obtain ⟨x, y, rfl, h1, h2⟩ := hasAll2 k
      exact dctSh_ok h h1 m fun c' hc => by
        have := c 1 c' (by subst hc; rfl)
        simpa using this
    · obtain ⟨x, y, rfl, h1, h2⟩ := hasAll2 k
      have m' : ((asI y).bind fun i => pSlice x (some i) none) = some r := m
      rw [bind_some'] at m'
      obtain ⟨i, _, m'⟩ := m'
      exact slice_ok h1 h m'
    · obtain ⟨x, y, rfl, h1, h2⟩ := hasAll2 k
      have m' : ((asI y).bind fun i => pSlice x none (some i)) = some r := m
      rw [bind_some'] at m'
      obtain ⟨i, _, m'⟩ := m'
      exact slice_ok h1 h m'
    · obtain ⟨x, y, z, rfl, h1, h2, h3⟩ := hasAll3 k
      have m' : ((asI y).bind fun i => (asI z).bind fun j => pSlice x (some i) (some j)) = some r := m
      rw [bind_some'] at m'
      obtain ⟨i, _, m'⟩ := m'
      rw [bind_some'] at m'
      obtain ⟨j, _, m'⟩ := m'
      exact slice_ok h1 h m'
    · obtain ⟨x, rfl, h1⟩ := hasAll1 k
      split at h
      · cases h
        obtain ⟨xs, rfl, h1⟩ := h1
        cases m
        exact ⟨_, rfl, fun z hz => h1 z (List.mem_reverse.mp hz)⟩
      · cases h
    · obtain ⟨x, rfl, h1⟩ := hasAll1 k
      rw [map_some'] at h
      obtain ⟨t, h, rfl⟩ := h
      have m' : ((seqOf x).bind fun xs => guardO (sortOk xs) (.list (sortD false xs))) = some r := m
      rw [bind_some'] at m'
      obtain ⟨xs, m1, m2⟩ := m'
      rw [gO_some m2]
      exact ⟨_, rfl, fun z hz => seqSh_ok h h1 m1 z (sort_mem hz)⟩
    · obtain ⟨x, rfl, h1⟩ := hasAll1 k
      rw [map_some'] at h
      obtain ⟨t, h, rfl⟩ := h
      have m' : ((seqOf x).bind fun xs => guardO (sortOk xs) (.list (sortD true xs))) = some r := m
      rw [bind_some'] at m'
      obtain ⟨xs, m1, m2⟩ := m'
      rw [gO_some m2]
      exact ⟨_, rfl, fun z hz => seqSh_ok h h1 m1 z (sort_mem hz)⟩
    · obtain ⟨x, rfl, h1⟩ := hasAll1 k
      rw [map_some'] at h
      obtain ⟨t, h, rfl⟩ := h
      have m' : ((seqOf x).bind fun xs => guardO (xs.all hashOk && decide (xs.length ≤ 4000) && sortOk xs) (.list (sortD false (onceD [] xs)))) = some r := m
      rw [bind_some'] at m'
      obtain ⟨xs, m1, m2⟩ := m'
      rw [gO_some m2]
      refine ⟨_, rfl, fun z hz => seqSh_ok h h1 m1 z ?_⟩
      rcases once_mem (sort_mem hz) with q | q
      · cases q
      · exact q
    · obtain ⟨x, rfl, h1⟩ := hasAll1 k
      rw [map_some'] at h
      obtain ⟨t, h, rfl⟩ := h
      have m' : ∃ xs, seqOf x = some xs ∧ r = .list xs := by
        cases x <;> simp [pm, pm1] at m
        · exact ⟨_, rfl, m.symm⟩
        · exact ⟨_, rfl, m.symm⟩
      obtain ⟨xs, m1, rfl⟩ := m'
      exact ⟨_, rfl, fun z hz => seqSh_ok h h1 m1 z hz⟩
    · obtain ⟨x, rfl, h1⟩ := hasAll1 k
      rw [bind_some'] at h
      obtain ⟨t, h, h'⟩ := h
      split at h'
      · rename_i q
        cases h'
        have m' : (seqOf x).map .tuple = some r := m
        rw [map_some'] at m'
        obtain ⟨xs, m1, rfl⟩ := m'
        exact immAll_of fun z hz => has_i q (seqSh_ok h h1 m1 z hz)
      · cases h'
    · cases h
      match ds, m with
      | [], m => cases m
      | [a], m =>
        have m' : ((asI a).bind fun n => guardO (rgOk 0 n) (.list (rangeD 0 n))) = some r := m
        rw [bind_some'] at m'
        obtain ⟨n, _, m2⟩ := m'
        rw [gO_some m2]
        exact ⟨_, rfl, fun z hz => range_i hz⟩
      | [a, b], m => cases m
      | a :: b :: c :: ds, m => simp [pm] at m
    · cases h
      match ds, m with
      | [], m => cases m
      | [a], m => cases m
      | [a, b], m =>
        have m' : ((asI a).bind fun i => (asI b).bind fun j => guardO (rgOk i j) (.list (rangeD i j))) = some r := m
        rw [bind_some'] at m'
        obtain ⟨n, _, m2⟩ := m'
        rw [bind_some'] at m2
        obtain ⟨n, _, m2⟩ := m2
        rw [gO_some m2]
        exact ⟨_, rfl, fun z hz => range_i hz⟩
      | a :: b :: c :: ds, m => simp [pm] at m
    · cases h
theorem enum_mem : ∀ {xs : List D} {k : Nat} {z : D}, z ∈ enumFrom k xs → ∃ (j : Nat) (x : D), x ∈ xs ∧ z = .tuple [.int j, x]
  | [], k, z, h => by cases h
  | x :: xs, k, z, h => by
    rcases List.mem_cons.mp h with rfl | h
    · exact ⟨k, x, by simp, rfl⟩
    · obtain ⟨j, y, h1, h2⟩ := enum_mem h
      exact ⟨j, y, List.mem_cons_of_mem _ h1, h2⟩
theorem zip_mem : ∀ {xs ys : List D} {z : D}, z ∈ zipD xs ys → ∃ x y, x ∈ xs ∧ y ∈ ys ∧ z = .tuple [x, y]
  | [], ys, z, h => by cases h
  | x :: xs, [], z, h => by cases h
  | x :: xs, y :: ys, z, h => by
    rcases List.mem_cons.mp h with rfl | h
    · exact ⟨x, y, by simp, by simp, rfl⟩
    · obtain ⟨x', y', h1, h2, h3⟩ := zip_mem h
      exact ⟨x', y', List.mem_cons_of_mem _ h1, List.mem_cons_of_mem _ h2, h3⟩
theorem item_sh {k : Ik} {ss : List Sh} {s : Sh} {ds xs : List D} (h : itemSh k ss = some s) (q : hasAll ss ds) (m : itemsOf k ds = some xs) : ∀ x ∈ xs, s.has x := by
  unfold itemSh at h
  split at h
  · obtain ⟨x, rfl, h1⟩ := hasAll1 q
    exact seqSh_ok h h1 m
  · obtain ⟨x, rfl, h1⟩ := hasAll1 q
    cases h
    have m' : ((asI x).bind fun n => guardO (rgOk 0 n) (rangeD 0 n)) = some xs := m
    rw [bind_some'] at m'
    obtain ⟨n, _, m2⟩ := m'
    rw [gO_some m2]
    exact fun z hz => range_i hz
  · obtain ⟨x, y, rfl, h1, h2⟩ := hasAll2 q
    cases h
    have m' : ((asI x).bind fun i => (asI y).bind fun j => guardO (rgOk i j) (rangeD i j)) = some xs := m
    rw [bind_some'] at m'
    obtain ⟨n, _, m2⟩ := m'
    rw [bind_some'] at m2
    obtain ⟨n, _, m2⟩ := m2
    rw [gO_some m2]
    exact fun z hz => range_i hz
  · obtain ⟨x, rfl, h1⟩ := hasAll1 q
    rw [map_some'] at h
    obtain ⟨t, h, rfl⟩ := h
    have m' : (seqOf x).map (enumFrom 0) = some xs := m
    rw [map_some'] at m'
    obtain ⟨ys, m1, rfl⟩ := m'
    intro z hz
    obtain ⟨j, y, h3, rfl⟩ := enum_mem hz
    exact mkT_ok ⟨_, _, rfl, rfl, _, _, rfl, seqSh_ok h h1 m1 y h3, rfl⟩
  · obtain ⟨x, y, rfl, h1, h2⟩ := hasAll2 q
    rw [bind_some'] at h
    obtain ⟨t, h3, h⟩ := h
    rw [map_some'] at h
    obtain ⟨u, h4, rfl⟩ := h
    have m' : ∃ us vs, seqOf x = some us ∧ seqOf y = some vs ∧ xs = zipD us vs := by
      cases x <;> cases y <;> simp [itemsOf] at m
      all_goals exact ⟨_, _, rfl, rfl, m.symm⟩
    obtain ⟨us, vs, m1, m2, rfl⟩ := m'
    intro z hz
    obtain ⟨a, b, g1, g2, rfl⟩ := zip_mem hz
    exact mkT_ok ⟨_, _, rfl, seqSh_ok h3 h1 m1 a g1, _, _, rfl, seqSh_ok h4 h2 m2 b g2, rfl⟩
  · obtain ⟨x, rfl, h1⟩ := hasAll1 q
    have m' : (seqOf x).map List.reverse = some xs := m
    rw [map_some'] at m'
    obtain ⟨ys, m1, rfl⟩ := m'
    exact fun z hz => seqSh_ok h h1 m1 z (List.mem_reverse.mp hz)
  · cases h

section
variable {as0 : List D} {A B : AEn} {p : PEn} {e : En}
theorem fin_ok (R : Rel as0 A p e) {pr : Pm} {as : List AOd} {ps : List POd} {os : List Od} (O : Ods as ps os) {s : Sh} {r : AR} {d : D} {ds : List D} (h : aFin pr as A s = some r) (hd : s.has d) (k : pFetchAll p ps = some ds) : ∃ o e', finish pr os e d = some ⟨d, o, e'⟩ ∧ Rel as0 r.A p e' ∧ VO r.sh r.ob d o := by
  unfold aFin at h
  unfold finish
  split at h
  · rename_i q
    cases h
    rw [has_i q hd, Bool.true_or, if_pos rfl]
    exact ⟨_, _, rfl, R, hd, .inl (has_i q hd)⟩
  · split at h
    · rename_i q t
      obtain ⟨xs, rfl, hx⟩ := hd
      rw [show imm (.list xs) = false from rfl, Bool.false_or]
      split at h
      · rename_i np
        rw [np, Bool.true_and]
        split at h
        · rename_i ti
          cases h
          rw [if_pos (show flat (.list xs) = true from immAll_of fun x m => has_i ti (hx x m))]
          exact ⟨_, _, rfl, R, ⟨xs, rfl, hx⟩, .inr rfl⟩
        · rw [map_some'] at h
          obtain ⟨C, h, rfl⟩ := h
          split
          · exact ⟨_, _, rfl, thaw_may O R k h, ⟨xs, rfl, hx⟩, .inr rfl⟩
          · obtain ⟨e', i1, i2⟩ := thaw_ok O R k h
            exact ⟨_, _, by rw [i1]; rfl, i2, ⟨xs, rfl, hx⟩, .inr rfl⟩
      · rename_i np
        rw [map_some'] at h
        obtain ⟨C, h, rfl⟩ := h
        rw [show newP pr = false by simpa using np, Bool.false_and, if_neg (by simp)]
        obtain ⟨e', i1, i2⟩ := thaw_ok O R k h
        exact ⟨_, _, by rw [i1]; rfl, i2, ⟨xs, rfl, hx⟩, .inr rfl⟩
    · rename_i q z
      split at h
      · rename_i m
        rw [map_some'] at h
        obtain ⟨C, h, rfl⟩ := h
        have i0 := has_mut _ _ m hd
        have f0 : flat d = false := by
          cases d with
          | list xs =>
            exfalso
            cases s with
            | l t => exact z _ rfl
            | t _ => obtain ⟨_, e, _⟩ := hd; cases e
            | d _ _ => obtain ⟨_, e, _⟩ := hd; cases e
            | _ => simp [Sh.mut] at m
          | _ => rfl
        rw [i0, f0, Bool.and_false, Bool.or_false, if_neg (by simp)]
        obtain ⟨e', i1, i2⟩ := thaw_ok O R k h
        exact ⟨_, _, by rw [i1]; rfl, i2, hd, .inr rfl⟩
      · cases h
end
end Ev
set_option maxHeartbeats 1000000
/-! The look ahead is right: expressions. -/
namespace Ev
open PySem

def SimF (T : List Sig) (C : FS) (CP : PFS) : Prop := ∀ s ∈ T, ∀ (ds : List D) (d : D) (fs : List D), CP s.f ds = some (d, fs) → ∀ ss, Args s.ps ds ss → ∃ o fl, C s.f ss = some (d, o, fl) ∧ VO s.res s.ro d o ∧ Outs s.fin ds fs fl
theorem findSig_ok {f : Nat} {as : List As} : ∀ {T : List Sig} {s : Sig}, findSig f as T = some s → s ∈ T ∧ s.f = f ∧ aLe as s.ps = true
  | [], s, h => by cases h
  | t :: T, s, h => by
    simp only [findSig] at h
    split at h
    · rename_i q
      cases h
      exact ⟨List.mem_cons_self .., q⟩
    · obtain ⟨h1, h2⟩ := findSig_ok h
      exact ⟨List.mem_cons_of_mem _ h1, h2⟩
theorem fixA_ok {step : AEn → Option AEn} : ∀ {n : Nat} {A I : AEn}, fixA step n A = some I → ∃ B, step I = some B ∧ aLe B I = true
  | 0, _, _, h => by cases h
  | n + 1, A, I, h => by
    simp only [fixA, bind_some'] at h
    obtain ⟨B, h1, h2⟩ := h
    split at h2
    · rename_i q
      cases h2
      exact ⟨B, h1, q⟩
    · exact fixA_ok h2
theorem fixOk_ok {step : AEn → Option AEn} {A I : AEn} (h : fixOk step A = some I) : aLe A I = true ∧ ∃ B, step I = some B ∧ aLe B I = true := by
  simp only [fixOk, bind_some'] at h
  obtain ⟨J, h1, h2⟩ := h
  split at h2
  · rename_i q
    cases h2
    exact ⟨q, fixA_ok h1⟩
  · cases h2

section
variable {as0 : List D} {A B : AEn} {p : PEn} {e : En}
theorem smSh_ok (R : Rel as0 A p e) {ex : Ex} {s : Sh} {d : D} (h : smSh A ex = some s) (k : pSm p ex = some d) : smE e ex = some d ∧ imm d = true := by
  cases ex <;> simp only [pSm, reduceCtorEq] at k
  · simp only [smSh, bind_some'] at h
    obtain ⟨a, h1, h2⟩ := h
    obtain ⟨a', f, g1, g2, g3⟩ := R.get _ _ k
    rw [h1] at g1
    cases g1
    split at h2
    · rename_i q
      have := has_i q g3.sh
      simp only [smE, g2, Option.bind_some, this, if_true, and_self]
    · cases h2
  · cases k
    simp only [smSh] at h
    split at h
    · rename_i q
      simp only [smE, q, if_true, and_self]
    · cases h
theorem smShs_ok (R : Rel as0 A p e) : ∀ {es : List Ex} {ds : List D}, smShs A es = true → pSmAll p es = some ds → smAll e es = some ds ∧ immAll ds = true ∧ es.length = ds.length
  | [], ds, _, k => by cases k; exact ⟨rfl, rfl, rfl⟩
  | x :: es, ds, h, k => by
    simp only [smShs, Bool.and_eq_true] at h
    simp only [pSmAll, bind_some', map_some'] at k
    obtain ⟨d, k1, ds', k2, rfl⟩ := k
    obtain ⟨s, hs⟩ := Option.isSome_iff_exists.mp h.1
    obtain ⟨i1, i2⟩ := smSh_ok R hs k1
    obtain ⟨j1, j2, j3⟩ := smShs_ok R h.2 k2
    refine ⟨by simp only [smAll, i1, Option.bind_some, j1, Option.map_some], by simp only [immAll, i2, j2, Bool.and_self], by simp [j3]⟩
theorem erase_ints {ns : List Int} {x : Int} {z : D} (h : z ∈ (ns.erase x).map PyData.int) : ∃ n ∈ ns, z = .int n := by
  obtain ⟨n, h1, rfl⟩ := List.mem_map.mp h
  exact ⟨n, List.mem_of_mem_erase h1, rfl⟩
theorem change_ok {m : Mm} {s n : Sh} {rs : List (Sh × Ob)} {zs : List (D × Bool)} {xs ys : List D} {w : D} (h : changed m s rs = some n) (hx : ∀ x ∈ xs, s.has x) (V : VGs rs zs) (k : change m xs (things zs) = some (w, ys)) : n.has (.list ys) ∧ (popSh m s).has w := by
  cases m with
  | append =>
    cases V with
    | nil => cases h
    | cons v m t =>
      cases t with
      | cons => cases h
      | nil =>
        simp only [things, List.map_cons, List.map_nil, change] at k
        have := gO_some k
        cases this
        refine ⟨mkL_ok h fun z hz => ?_, rfl⟩
        rcases List.mem_append.mp hz with q | q
        · exact ⟨_, by simp, hx z q⟩
        · simp at q; subst q; exact ⟨_, by simp, v⟩
  | extend =>
    cases V with
    | nil => cases h
    | cons v m t =>
      cases t with
      | cons => cases h
      | nil =>
        rename_i s' o' d' w'
        cases s' <;> simp only [changed, reduceCtorEq] at h
        obtain ⟨us, rfl, v⟩ := v
        simp only [things, List.map_cons, List.map_nil, change, asL, Option.bind_some] at k
        have := gO_some k
        cases this
        refine ⟨mkL_ok h fun z hz => ?_, rfl⟩
        rcases List.mem_append.mp hz with q | q
        · exact ⟨_, by simp, hx z q⟩
        · exact ⟨_, by simp, v z q⟩
  | popLast =>
    cases V with
    | cons => cases h
    | nil =>
      cases h
      simp only [things, List.map_nil, change, map_some', Prod.mk.injEq] at k
      obtain ⟨z, k1, rfl, rfl⟩ := k
      exact ⟨⟨_, rfl, fun x q => hx x (List.dropLast_subset _ q)⟩, hx _ (List.mem_of_getLast? k1)⟩
  | popAt =>
    cases V with
    | nil => cases h
    | cons v m t =>
      cases t with
      | cons => cases h
      | nil =>
        cases h
        simp only [things, List.map_cons, List.map_nil, change, bind_some'] at k
        obtain ⟨j, _, k⟩ := k
        split at k
        · simp only [map_some', Prod.mk.injEq] at k
          obtain ⟨z, k1, rfl, rfl⟩ := k
          exact ⟨⟨_, rfl, fun x q => hx x (List.mem_of_mem_eraseIdx q)⟩, hx _ (List.mem_of_getElem? k1)⟩
        · cases k
  | remove =>
    cases V with
    | nil => cases h
    | cons v m t =>
      cases t with
      | cons => cases h
      | nil =>
        simp only [changed] at h
        split at h
        · cases h
          simp only [things, List.map_cons, List.map_nil, change, bind_some'] at k
          obtain ⟨j, _, ns, k1, k2⟩ := k
          have := gO_some k2
          cases this
          refine ⟨⟨_, rfl, fun x q => ?_⟩, rfl⟩
          obtain ⟨n, hn, rfl⟩ := erase_ints q
          have : ∀ {xs : List D} {ns : List Int}, intsOf xs = some ns → ∀ n ∈ ns, PyData.int n ∈ xs := by
            intro xs
            induction xs with
            | nil => intro ns h n hn; cases h; cases hn
            | cons x xs ih =>
              intro ns h n hn
              cases x <;> simp only [intsOf, reduceCtorEq, map_some'] at h
              obtain ⟨ms, h, rfl⟩ := h
              rcases List.mem_cons.mp hn with rfl | hn
              · exact List.mem_cons_self ..
              · exact List.mem_cons_of_mem _ (ih h n hn)
          exact hx _ (this k1 n hn)
        · cases h
theorem chF_ok {m : Mm} {s n : Sh} {f : Fs} {fl : Fl} {rs : List (Sh × Ob)} {zs : List (D × Bool)} {w : D} (h : changed m s rs = some n) (hc : isC f = true) (hf : f.has fl = true) (V : VGs rs zs) (hw : (popSh m s).has w) (pm : (popSh m s).isI || (popSh m s).mut) : (chF m f s rs).has (flAfter m fl zs w) = true ∧ canChange fl = true := by
  simp only [isC, Bool.and_eq_true, Bool.not_eq_true'] at hc
  have cc : fl = .own ∧ f.o = true ∨ fl = .spn ∧ f.s = true := by
    cases fl with
    | own => exact .inl ⟨rfl, hf⟩
    | spn => exact .inr ⟨rfl, hf⟩
    | frz => rw [has_f, hc.1] at hf; cases hf
    | lck => rw [has_k, hc.2] at hf; cases hf
  have key : ∀ (o : Ob) (k : Bool), o.has k = true → (⟨f.o && o.t, f.s || o.f, false, false⟩ : Fs).has (if k then fl else .spn) = true := by
    intro o k ho
    cases k with
    | true =>
      have ho : o.t = true := ho
      rcases cc with ⟨rfl, c⟩ | ⟨rfl, c⟩ <;> simp [has_o, has_s, c, ho]
    | false =>
      have ho : o.f = true := ho
      simp [has_s, ho]
  refine ⟨?_, by rcases cc with ⟨rfl, _⟩ | ⟨rfl, _⟩ <;> rfl⟩
  have pop : (popSh m s = s) → (if s.isI then oT else oF).has (imm w) = true := fun q => by
    rw [q] at hw pm
    split
    · rename_i z
      rw [has_i z hw]; rfl
    · rename_i z
      rw [show s.isI = false by simpa using z, Bool.false_or] at pm
      rw [has_mut _ _ pm hw]; rfl
  cases m with
  | append => exact key _ _ (vgs_all V)
  | extend =>
    refine key _ _ ?_
    cases V with
    | nil => cases h
    | cons v m t =>
      cases t with
      | cons => cases h
      | nil =>
        rename_i s' o' d' w'
        cases s' <;> simp only [changed, reduceCtorEq] at h
        rename_i t
        obtain ⟨us, rfl, v⟩ := v
        simp only [List.all_cons, List.all_nil, List.any_cons, List.any_nil, Bool.and_true, Bool.or_false]
        rw [show imm (.list us) = false from rfl, Bool.false_or] at m
        cases hk : (w' || flat (.list us)) with
        | true => rfl
        | false =>
          simp only [Bool.or_eq_false_iff] at hk
          obtain ⟨rfl, hk⟩ := hk
          have m : o'.f = true := m
          cases ht : t.isI with
          | true => rw [show flat (.list us) = true from immAll_of fun x q => has_i ht (v x q)] at hk; cases hk
          | false => simp [Ob.has, m]
  | popLast => exact key _ _ (pop rfl)
  | popAt => exact key _ _ (pop rfl)
  | remove =>
    simp only [changed] at h
    cases V with
    | nil => cases h
    | cons v m t =>
      cases t with
      | cons => cases h
      | nil =>
        simp only [changed] at h
        split at h
        · rename_i z
          refine key _ _ ?_
          rw [if_pos z, has_i rfl hw]
          rfl
        · cases h
end
end Ev
set_option maxHeartbeats 2000000
/-! The look ahead is right: expressions, all of them. -/
namespace Ev
open PySem

/-- the turns of a comprehension -/
theorem comp_ok {as0 : List D} {I : AEn} {tg : Tg} {own : List Nat} {s sh : Sh} {ob : Ob} {tst : En → Option (Bool × En)} {elt : En → Option Rs} {tstp : PEn → Option (Bool × PEn)} {eltp : PEn → Option (D × PEn)}
    (H : ∀ p e x p1, Rel as0 I p e → s.has x → pAssign p tg x = some p1 → ∃ e1, assignT e tg x false = some e1 ∧ ∀ k p2, tstp p1 = some (k, p2) → ∃ e2, tst e1 = some (k, e2) ∧ (k = false → Rel as0 I p2 e2) ∧ (k = true → ∀ d p3, eltp p2 = some (d, p3) → ∃ o e3, elt e2 = some ⟨d, o, e3⟩ ∧ Rel as0 I p3 e3 ∧ VO sh ob d o)) :
    ∀ (xs : List D) (p : PEn) (e : En) (ds : List D) (p' : PEn), (∀ x ∈ xs, s.has x) → Rel as0 I p e → pComp tg own tstp eltp xs p = some (ds, p') → ∃ zs e', compLoop tg own tst elt xs e = some (zs, e') ∧ Rel as0 I p' e' ∧ things zs = ds ∧ ∀ z ∈ zs, VO sh ob z.1 z.2
  | [], p, e, ds, p', _, R, h => by
    cases h
    exact ⟨[], e, rfl, R, rfl, fun z hz => by cases hz⟩
  | x :: xs, p, e, ds, p', hx, R, h => by
    simp only [pComp, bind_some'] at h
    obtain ⟨p1, h1, ⟨k, p2⟩, h2, h3⟩ := h
    obtain ⟨e1, g1, g2⟩ := H _ _ x p1 (R.wipe2 own) (hx x (List.mem_cons_self ..)) h1
    obtain ⟨e2, g3, g4, g5⟩ := g2 k p2 h2
    have hx' : ∀ y ∈ xs, s.has y := fun y hy => hx y (List.mem_cons_of_mem _ hy)
    cases k with
    | true =>
      simp only [if_true, bind_some', map_some', Prod.mk.injEq] at h3
      obtain ⟨⟨d, p3⟩, h4, ⟨ds', p4⟩, h5, rfl, rfl⟩ := h3
      obtain ⟨o, e3, j1, j2, j3⟩ := g5 rfl d p3 h4
      obtain ⟨zs, e', i1, i2, i3, i4⟩ := comp_ok H xs p3 e3 ds' _ hx' j2 h5
      refine ⟨(d, o) :: zs, e', ?_, i2, ?_, fun z hz => ?_⟩
      · simp only [compLoop, g1, g3, Option.bind_some, if_true, j1, i1, Option.map_some]
      · rw [← i3]; rfl
      · rcases List.mem_cons.mp hz with rfl | hz
        · exact j3
        · exact i4 z hz
    | false =>
      simp only [Bool.false_eq_true, if_false] at h3
      obtain ⟨zs, e', i1, i2, i3, i4⟩ := comp_ok H xs p2 e2 ds p' hx' (g4 rfl) h3
      exact ⟨zs, e', by simp only [compLoop, g1, g3, Option.bind_some, Bool.false_eq_true, if_false, i1], i2, i3, i4⟩
theorem comp_own {sh : Sh} {ob : Ob} {zs : List (D × Bool)} (h : ∀ z ∈ zs, VO sh ob z.1 z.2) (q : sh.isI = true ∨ sh.mut = true) : (if sh.isI then oT else ⟨true, ob.f⟩ : Ob).has (allOwn zs) = true := by
  cases k : allOwn zs with
  | true => split <;> rfl
  | false =>
    have : ∃ z ∈ zs, (imm z.1 || z.2) = false := by
      have := (List.all_eq_false (p := fun r : D × Bool => imm r.1 || r.2)).mp k
      obtain ⟨z, hz, h⟩ := this
      exact ⟨z, hz, by simpa using h⟩
    obtain ⟨z, hz, h1⟩ := this
    simp only [Bool.or_eq_false_iff] at h1
    have v := h z hz
    split
    · rename_i z
      rw [has_i z v.sh] at h1
      cases h1.1
    · rcases v.ob with y | y
      · rw [y] at h1; cases h1.1
      · rw [h1.2] at y; exact y
theorem pkeys_ok {as0 : List D} {A B : AEn} {v : Nat} {o : Ob} {r : AR} {body : En → Option Rs} {bodyp : PEn → Option (D × PEn)} {p : PEn} {e : En} (R : Rel as0 A p e) (hB : aStore A v .i o = some B) (hi : r.sh.isI = true)
    (H : ∀ p e d p', Rel as0 B p e → bodyp p = some (d, p') → ∃ o e', body e = some ⟨d, o, e'⟩ ∧ VO r.sh r.ob d o) :
    ∀ (xs : List D) (ks : List (D × D)), immAll xs = true → pKeys v bodyp p xs = some ks → keysOf v body e xs = some ks
  | [], ks, _, h => by cases h; rfl
  | x :: xs, ks, hx, h => by
    simp only [immAll, Bool.and_eq_true] at hx
    simp only [pKeys, bind_some', map_some'] at h
    obtain ⟨p1, h1, ⟨d, p2⟩, h2, ks', h3, rfl⟩ := h
    obtain ⟨e1, j1, j2⟩ := pst_ok R (show VO .i o x false from ⟨hx.1, .inl hx.1⟩) hB h1
    obtain ⟨o, e', g1, g2⟩ := H _ _ _ _ j2 h2
    have := pkeys_ok R hB hi H xs ks' hx.2 h3
    simp only [keysOf, j1, Option.bind_some, g1, has_i hi g2.sh, if_true, this, Option.map_some]
theorem vgs_sm : ∀ {es : List Ex} {as : List D}, immAll as = true → es.length = as.length → VGs (es.map fun _ => (Sh.i, oT)) (as.map fun d => (d, true))
  | [], [], _, _ => .nil
  | [], _ :: _, _, h => by cases h
  | _ :: _, [], _, h => by cases h
  | x :: es, y :: as, n2, n3 => by
    simp only [immAll, Bool.and_eq_true] at n2
    exact .cons n2.1 (by rw [n2.1]; rfl) (vgs_sm n2.2 (by simpa using n3))
theorem put_mem {xs : List D} {i : Int} {v : D} {ys : List D} (h : putAt xs i v = some ys) : ∀ y ∈ ys, y = v ∨ y ∈ xs := by
  unfold putAt at h
  split at h
  · cases h
    intro y hy
    rcases List.mem_or_eq_of_mem_set hy with q | q
    · exact .inr q
    · exact .inl q
  · cases h
theorem putKey_ok {k : Str} {s : Sh} {v : D} (hv : s.has v) : ∀ {ks : List Str} {ss ss' : List Sh} {xs : List D} {kvs : List (D × D)}, putKey k s ks ss = some ss' → hasAll ss xs → putD k v ((ks.map .str).zip xs) = some kvs → ∃ xs', kvs = (ks.map .str).zip xs' ∧ hasAll ss' xs' ∧ ss'.length = ss.length
  | [], ss, ss', xs, kvs, h, _, _ => by cases h
  | j :: js, [], ss', xs, kvs, h, _, _ => by cases h
  | j :: js, t :: ss, ss', xs, kvs, h, m, n => by
    obtain ⟨y, ys, rfl, h1, h2⟩ := m
    simp only [List.map_cons, List.zip_cons_cons, putD] at n
    simp only [putKey] at h
    split at h
    · rename_i q
      rw [if_pos q] at n
      cases h; cases n
      exact ⟨v :: ys, by subst q; rfl, ⟨_, _, rfl, hv, h2⟩, rfl⟩
    · rename_i q
      rw [if_neg q] at n
      rw [map_some'] at h n
      obtain ⟨ss'', h, rfl⟩ := h
      obtain ⟨kvs', n, rfl⟩ := n
      obtain ⟨xs', e1, e2, e3⟩ := putKey_ok hv h h2 n
      exact ⟨y :: xs', by rw [e1]; rfl, ⟨_, _, rfl, h1, e2⟩, by simp [e3]⟩
theorem varsOff_ok {own : List Nat} : ∀ {es : List Ex} {as : List AOd} {os : List Od}, varsOff own es = true → (∀ i, i ∈ slotsIn os → Ex.var i ∈ es) → offOwn own os = true := by
  intro es as os h k
  unfold offOwn
  rw [List.all_eq_true]
  intro i hi
  have := k i hi
  clear k
  induction es with
  | nil => cases this
  | cons e es ih =>
    rcases List.mem_cons.mp this with rfl | q
    · simp only [varsOff, Bool.and_eq_true] at h
      exact h.1
    · refine ih ?_ q
      cases e <;> simp only [varsOff, Bool.and_eq_true] at h <;> first | exact h | exact h.2
theorem slots_vars {C : FS} : ∀ {es : List Ex} {e e' : En} {os : List Od}, evOs C es e = some (os, e') → ∀ i, i ∈ slotsIn os → Ex.var i ∈ es
  | [], e, e', os, h, i, hi => by
    simp only [evOs, Option.some.injEq, Prod.mk.injEq] at h
    rw [← h.1] at hi
    cases hi
  | x :: es, e, e', os, h, i, hi => by
    by_cases hv : ∃ j, x = .var j
    · obtain ⟨j, rfl⟩ := hv
      simp only [evOs, bind_some', map_some', Prod.mk.injEq] at h
      obtain ⟨s, h1, ⟨os', e2⟩, h2, rfl, _⟩ := h
      split at hi
      · exact List.mem_cons_of_mem _ (slots_vars h2 i hi)
      · rcases List.mem_cons.mp hi with rfl | q
        · exact List.mem_cons_self ..
        · exact List.mem_cons_of_mem _ (slots_vars h2 i q)
    · rw [evOs.eq_3 _ _ _ _ (fun j q => hv ⟨j, q⟩)] at h
      simp only [bind_some', map_some', Prod.mk.injEq] at h
      obtain ⟨r, h1, ⟨os', e2⟩, h2, rfl, _⟩ := h
      exact List.mem_cons_of_mem _ (slots_vars h2 i hi)
theorem consts {CP : PFS} : ∀ {es : List Ex} {p p' : PEn} {ps : List POd}, pOs CP es p = some (ps, p') → ∀ {q : PEn} {ds : List D}, pFetchAll q ps = some ds → ∀ (j : Nat) (c : D), es[j]? = some (Ex.cst c) → ds[j]? = some c
  | [], p, p', ps, _, q, ds, _, j, c, h => by simp at h
  | x :: es, p, p', ps, h, q, ds, k, j, c, hj => by
    by_cases hv : ∃ j, x = .var j
    · obtain ⟨i, rfl⟩ := hv
      simp only [pOs, bind_some', map_some', Prod.mk.injEq] at h
      obtain ⟨d, h1, ⟨ps', p2⟩, h2, rfl, _⟩ := h
      simp only [pFetchAll, bind_some', map_some'] at k
      obtain ⟨d', _, ds', k2, rfl⟩ := k
      cases j with
      | zero => simp at hj
      | succ j => simp at hj ⊢; exact consts h2 k2 j c hj
    · rw [pOs.eq_3 _ _ _ _ (fun j q => hv ⟨j, q⟩)] at h
      simp only [bind_some', map_some', Prod.mk.injEq] at h
      obtain ⟨⟨d, p1⟩, h1, ⟨ps', p2⟩, h2, rfl, _⟩ := h
      simp only [pFetchAll, pFetch, Option.bind_some, map_some'] at k
      obtain ⟨ds', k2, rfl⟩ := k
      cases j with
      | zero =>
        simp at hj
        subst hj
        simp only [pE, Option.some.injEq, Prod.mk.injEq] at h1
        simp [h1.1]
      | succ j => simp at hj ⊢; exact consts h2 k2 j c hj

section
variable {T : List Sig} {C : FS} {CP : PFS} (F : SimF T C CP) {as0 : List D}
include F
mutual
theorem simE : ∀ (ex : Ex) {A : AEn} {r : AR} {p p' : PEn} {e : En} {d : D}, akE T ex A = some r → Rel as0 A p e → pE CP ex p = some (d, p') → ∃ o e', evE C ex e = some ⟨d, o, e'⟩ ∧ Rel as0 r.A p' e' ∧ VO r.sh r.ob d o
  | .var i, A, r, p, p', e, d, h, R, k => by
    simp only [pE, map_some', Prod.mk.injEq] at k
    obtain ⟨d', k1, rfl, rfl⟩ := k
    obtain ⟨a, f, g1, g2, g3⟩ := R.get _ _ k1
    simp only [akE, aRead, g1, Option.bind_some] at h
    simp only [evE, readV, g2, Option.bind_some]
    split at h
    · rename_i q
      cases h
      rw [if_pos (has_i q g3.sh)]
      exact ⟨_, _, rfl, R, g3.sh, .inl (has_i q g3.sh)⟩
    · split at h
      · rename_i q
        rw [map_some'] at h
        obtain ⟨B, h, rfl⟩ := h
        obtain ⟨e', i1, i2⟩ := frz1_ok R k1 h
        rw [if_neg (by rw [has_mut _ _ q g3.sh]; simp), i1]
        exact ⟨_, _, rfl, i2, g3.sh, .inr rfl⟩
      · cases h
  | .cst c, A, r, p, p', e, d, h, R, k => by
    simp only [pE, Option.some.injEq, Prod.mk.injEq] at k
    obtain ⟨rfl, rfl⟩ := k
    simp only [akE] at h
    split at h
    · rename_i q
      cases h
      exact ⟨_, _, rfl, R, q, .inl q⟩
    · cases h
  | .prim pr es, A, r, p, p', e, d, h, R, k => by
    simp only [pE, bind_some', map_some', Prod.mk.injEq] at k
    obtain ⟨⟨ps, p1⟩, k1, ds, k2, d', k3, rfl, rfl⟩ := k
    simp only [akE, bind_some'] at h
    obtain ⟨⟨as, B⟩, h1, ss, h2, s, h3, h4⟩ := h
    obtain ⟨os, e1, i1, i2, i3⟩ := simOs es h1 R k1
    obtain ⟨j1, j2⟩ := fetch_ok i2 i3 k2
    have hs := prim_sh h3 (j2 _ h2) k3 (consts k1 k2)
    obtain ⟨o, e2, g1, g2, g3⟩ := fin_ok i2 i3 h4 hs k2
    exact ⟨o, e2, by simp only [evE, i1, Option.bind_some, j1, k3, g1], g2, g3⟩
  | .tup es, A, r, p, p', e, d, h, R, k => by
    simp only [pE, bind_some', map_some', Prod.mk.injEq] at k
    obtain ⟨⟨ps, p1⟩, k1, ds, k2, rfl, rfl⟩ := k
    simp only [akE, bind_some', map_some'] at h
    obtain ⟨⟨as, B⟩, h1, ⟨rs, B2⟩, h2, rfl⟩ := h
    obtain ⟨os, e1, i1, i2, i3⟩ := simOs es h1 R k1
    obtain ⟨zs, e2, g1, g2, g3, g4⟩ := gath_ok i3 i2 k2 h2
    refine ⟨allOwn zs, e2, by simp only [evE, i1, Option.bind_some, g1, Option.map_some, g3], g2, ?_, .inr (vgs_all g4)⟩
    rw [← g3]
    exact mkT_ok (vgs_has g4)
  | .lst es, A, r, p, p', e, d, h, R, k => by
    simp only [pE, bind_some', map_some', Prod.mk.injEq] at k
    obtain ⟨⟨ps, p1⟩, k1, ds, k2, rfl, rfl⟩ := k
    simp only [akE, bind_some', map_some'] at h
    obtain ⟨⟨as, B⟩, h1, ⟨rs, B2⟩, h2, s, h3, rfl⟩ := h
    obtain ⟨os, e1, i1, i2, i3⟩ := simOs es h1 R k1
    obtain ⟨zs, e2, g1, g2, g3, g4⟩ := gath_ok i3 i2 k2 h2
    refine ⟨allOwn zs, e2, by simp only [evE, i1, Option.bind_some, g1, Option.map_some, g3], g2, ?_, .inr (vgs_all g4)⟩
    rw [← g3]
    exact mkL_ok h3 (hasAll_mem (vgs_has g4))
  | .andE a b, A, r, p, p', e, d, h, R, k => by
    simp only [pE, bind_some', map_some', Prod.mk.injEq] at k
    obtain ⟨⟨d1, p1⟩, k1, kb, k2, k3⟩ := k
    simp only [akE, bind_some', map_some'] at h
    obtain ⟨ra, h1, rb, h2, J, h3, rfl⟩ := h
    obtain ⟨o1, e1, i1, i2, i3⟩ := simE a h1 R k1
    cases kb with
    | true =>
      simp only [if_true, bind_some', map_some', Prod.mk.injEq] at k3
      obtain ⟨⟨d2, p2⟩, k4, kb2, k5, rfl, rfl⟩ := k3
      obtain ⟨o2, e2, j1, j2, j3⟩ := simE b h2 i2 k4
      exact ⟨true, e2, by simp only [evE, i1, Option.bind_some, k2, if_true, j1, k5, Option.map_some], jn_r h3 j2, rfl, .inl rfl⟩
    | false =>
      simp only [Bool.false_eq_true, if_false, Option.some.injEq, Prod.mk.injEq] at k3
      obtain ⟨rfl, rfl⟩ := k3
      exact ⟨true, e1, by simp only [evE, i1, Option.bind_some, k2, Bool.false_eq_true, if_false], jn_l h3 i2, rfl, .inl rfl⟩
  | .orE a b, A, r, p, p', e, d, h, R, k => by
    simp only [pE, bind_some', map_some', Prod.mk.injEq] at k
    obtain ⟨⟨d1, p1⟩, k1, kb, k2, k3⟩ := k
    simp only [akE, bind_some', map_some'] at h
    obtain ⟨ra, h1, rb, h2, J, h3, rfl⟩ := h
    obtain ⟨o1, e1, i1, i2, i3⟩ := simE a h1 R k1
    cases kb with
    | false =>
      simp only [Bool.false_eq_true, if_false, bind_some', map_some', Prod.mk.injEq] at k3
      obtain ⟨⟨d2, p2⟩, k4, kb2, k5, rfl, rfl⟩ := k3
      obtain ⟨o2, e2, j1, j2, j3⟩ := simE b h2 i2 k4
      exact ⟨true, e2, by simp only [evE, i1, Option.bind_some, k2, Bool.false_eq_true, if_false, j1, k5, Option.map_some], jn_r h3 j2, rfl, .inl rfl⟩
    | true =>
      simp only [if_true, Option.some.injEq, Prod.mk.injEq] at k3
      obtain ⟨rfl, rfl⟩ := k3
      exact ⟨true, e1, by simp only [evE, i1, Option.bind_some, k2, if_true], jn_l h3 i2, rfl, .inl rfl⟩
  | .notE a, A, r, p, p', e, d, h, R, k => by
    simp only [pE, bind_some', map_some', Prod.mk.injEq] at k
    obtain ⟨⟨d1, p1⟩, k1, kb, k2, rfl, rfl⟩ := k
    simp only [akE, map_some'] at h
    obtain ⟨ra, h1, rfl⟩ := h
    obtain ⟨o1, e1, i1, i2, i3⟩ := simE a h1 R k1
    exact ⟨true, e1, by simp only [evE, i1, Option.bind_some, k2, Option.map_some], i2, rfl, .inl rfl⟩
  | .ite c a b, A, r, p, p', e, d, h, R, k => by
    simp only [pE, bind_some'] at k
    obtain ⟨⟨d1, p1⟩, k1, kb, k2, k3⟩ := k
    simp only [akE, bind_some'] at h
    obtain ⟨rc, h1, ra, h2, rb, h3, J, h4, h5⟩ := h
    split at h5
    · rename_i q
      simp only [Bool.and_eq_true] at q
      cases h5
      obtain ⟨o1, e1, i1, i2, i3⟩ := simE c h1 R k1
      cases kb with
      | true =>
        simp only [if_true] at k3
        obtain ⟨o2, e2, j1, j2, j3⟩ := simE a h2 i2 k3
        exact ⟨o2, e2, by simp only [evE, i1, Option.bind_some, k2, if_true, j1], jn_l h4 j2, shLe_ok _ _ _ q.1 j3.sh, j3.ob.imp_right ojn_l⟩
      | false =>
        simp only [Bool.false_eq_true, if_false] at k3
        obtain ⟨o2, e2, j1, j2, j3⟩ := simE b h3 i2 k3
        exact ⟨o2, e2, by simp only [evE, i1, Option.bind_some, k2, Bool.false_eq_true, if_false, j1], jn_r h4 j2, shLe_ok _ _ _ q.2 j3.sh, j3.ob.imp_right ojn_r⟩
    · cases h5
  | .chain pa pb a b c, A, r, p, p', e, d, h, R, k => by
    simp only [pE, bind_some'] at k
    obtain ⟨⟨d1, p1⟩, k1, ⟨d2, p2⟩, k2, v, k3, kb, k4, k5⟩ := k
    simp only [akE, bind_some'] at h
    obtain ⟨ra, h1, rb, h2, rc, h3, J, h4, h5⟩ := h
    split at h5
    · rename_i q
      simp only [Bool.and_eq_true] at q
      cases h5
      obtain ⟨o1, e1, i1, i2, i3⟩ := simE a h1 R k1
      obtain ⟨o2, e2, j1, j2, j3⟩ := simE b h2 i2 k2
      have m1 := has_i q.1.1 i3.sh
      have m2 := has_i q.1.2 j3.sh
      cases kb with
      | true =>
        simp only [if_true, bind_some', map_some', Prod.mk.injEq] at k5
        obtain ⟨⟨d3, p3⟩, k6, v2, k7, kb2, k8, rfl, rfl⟩ := k5
        obtain ⟨o3, e3, l1, l2, l3⟩ := simE c h3 j2 k6
        have m3 := has_i q.2 l3.sh
        exact ⟨true, e3, by simp only [evE, i1, j1, Option.bind_some, m1, m2, Bool.and_self, if_true, k3, k4, l1, m3, k7, k8, Option.map_some], jn_r h4 l2, rfl, .inl rfl⟩
      | false =>
        simp only [Bool.false_eq_true, if_false, Option.some.injEq, Prod.mk.injEq] at k5
        obtain ⟨rfl, rfl⟩ := k5
        exact ⟨true, e2, by simp only [evE, i1, j1, Option.bind_some, m1, m2, Bool.and_self, if_true, k3, k4, Bool.false_eq_true, if_false], jn_l h4 j2, rfl, .inl rfl⟩
    · cases h5
  | .call f es, A, r, p, p', e, d, h, R, k => by
    simp only [pE, bind_some', map_some', Prod.mk.injEq] at k
    obtain ⟨⟨ps, p1⟩, k1, ds, k2, ⟨d', fs⟩, k3, p2, k4, rfl, rfl⟩ := k
    simp only [akE, bind_some'] at h
    obtain ⟨⟨as, B⟩, h1, rs, h2, s, h3, h4⟩ := h
    split at h4
    · rename_i q
      simp only [Bool.and_eq_true, decide_eq_true_eq] at q
      rw [map_some'] at h4
      obtain ⟨B2, h4, rfl⟩ := h4
      obtain ⟨os, e1, i1, i2, i3⟩ := simOs es h1 R k1
      obtain ⟨ss, j1, j2⟩ := args_ok i3 i2 k2 h2
      obtain ⟨f1, rfl, f3⟩ := findSig_ok h3
      obtain ⟨o, fl, g1, g2, g3⟩ := F s f1 ds d' fs k3 ss (j2.mono f3)
      have hk : ((imm d' || o) = true → (s.res.isI || s.ro.t) = true) ∧ ((imm d' || o) = false → (!s.res.isI && s.ro.f) = true) := by
        constructor
        · intro z
          cases hi : s.res.isI with
          | true => rfl
          | false =>
            have hm : s.res.mut = true := by simpa [hi] using q.2
            have := has_mut _ _ hm g2.sh
            rw [this, Bool.false_or] at z
            subst z
            rcases g2.ob with y | y
            · rw [this] at y; cases y
            · exact y
        · intro z
          simp only [Bool.or_eq_false_iff] at z
          obtain ⟨z1, rfl⟩ := z
          cases hi : s.res.isI with
          | true => rw [has_i hi g2.sh] at z1; cases z1
          | false =>
            rcases g2.ob with y | y
            · rw [z1] at y; cases y
            · exact y
      obtain ⟨p3, e3, l1, l2, l3⟩ := back_ok hk i3 i2 q.1 k2 g3 h4
      rw [l1] at k4
      cases k4
      refine ⟨imm d' || o, e3, ?_, l3, g2.sh, ?_⟩
      · simp only [evE, i1, Option.bind_some, doCall, j1, aSlots_eq i3, q.1, if_true, g1, l2, Option.map_some]
      · cases hd : imm d' with
        | true => exact .inl rfl
        | false =>
          right
          rw [Bool.false_or]
          split
          · rename_i hi
            rw [has_i hi g2.sh] at hd; cases hd
          · rcases g2.ob with y | y
            · rw [hd] at y; cases y
            · exact y
    · cases h4
  | .comp elt tg ik its ifs own, A, r, p, p', e, d, h, R, k => by
    simp only [pE, bind_some'] at k
    obtain ⟨⟨ps, p1⟩, k1, ds, k2, xs, k3, k4⟩ := k
    split at k4
    · rename_i hlen
      simp only [map_some', Prod.mk.injEq] at k4
      obtain ⟨⟨vs, p2⟩, k4, rfl, rfl⟩ := k4
      simp only [akE, bind_some'] at h
      obtain ⟨⟨as, B⟩, h1, ss, h2, x, h3, h4⟩ := h
      split at h4
      · rename_i q
        simp only [Bool.and_eq_true] at q
        simp only [bind_some'] at h4
        obtain ⟨L, h4, I, h5, B1, h6, ⟨B2, B3⟩, h7, rr, h8, h9⟩ := h4
        split at h9
        · rename_i hr
          simp only [Bool.or_eq_true] at hr
          rw [map_some'] at h9
          obtain ⟨U, h9, rfl⟩ := h9
          obtain ⟨os, e1, i1, i2, i3⟩ := simOs its h1 R k1
          obtain ⟨j1, j2⟩ := fetch_ok i2 i3 k2
          have hx := item_sh h3 (j2 _ h2) k3
          obtain ⟨e2, l1, l2⟩ := lock_ok i3 i2 k2 h4
          obtain ⟨g1, N, g2, g3⟩ := fixOk_ok h5
          simp only [h6, h7, h8, Option.bind_some] at g2
          obtain ⟨zs, e3, c1, c2, c3, c4⟩ := comp_ok (as0 := as0) (I := I) (tg := tg) (own := own) (s := x) (sh := rr.sh) (ob := rr.ob) (tst := evTs C ifs) (elt := evE C elt) (tstp := pTs CP ifs) (eltp := pE CP elt) (fun p e x' p1 Rp hx' hp => by
            obtain ⟨e1, a1, a2⟩ := assign_ok (w := false) Rp ⟨hx', .inr rfl⟩ h6 hp
            refine ⟨e1, a1, fun k p2 ht => ?_⟩
            obtain ⟨e2, t1, t2, t3⟩ := simTs ifs h7 a2 ht
            refine ⟨e2, t1, fun _ => (jn_r g2 t2).mono g3, fun hk d p3 hd => ?_⟩
            obtain ⟨o, e3, u1, u2, u3⟩ := simE elt h8 (t3 hk) hd
            exact ⟨o, e3, u1, (jn_l g2 u2).mono g3, u3⟩) xs p1 e2 vs p2 hx (l2.mono g1) k4
          have hoff : offOwn (own ++ (ownsE elt ++ ownsEs ifs)) os = true := varsOff_ok (as := as) q.2 (slots_vars i1)
          refine ⟨allOwn zs, unlockAll e1 (wipeE e3 own) os, ?_, unlock_ok i2 i3 (c2.wipe2 own) k2 h9, ⟨vs, rfl, fun v hv => ?_⟩, .inr (comp_own c4 hr)⟩
          · simp only [evE, i1, Option.bind_some, j1, k3, q.1, hoff, decide_eq_true hlen, Bool.and_self, if_true, l1, c1, Option.map_some, c3]
          · rw [← c3] at hv
            obtain ⟨z, hz, rfl⟩ := List.mem_map.mp hv
            exact (c4 z hz).sh
        · cases h9
      · cases h4
    · cases k4
  | .sortk es rg v body, A, r, p, p', e, d, h, R, k => by
    simp only [pE, bind_some'] at k
    obtain ⟨⟨ps, p1⟩, k1, ds, k2, xs, k3, ks, k4, k5⟩ := k
    split at k5
    · rename_i hs
      simp only [Option.some.injEq, Prod.mk.injEq] at k5
      obtain ⟨rfl, rfl⟩ := k5
      simp only [akE, bind_some'] at h
      obtain ⟨⟨as, B⟩, h1, ss, h2, x, h3, h4⟩ := h
      split at h4
      · rename_i q
        simp only [bind_some'] at h4
        obtain ⟨B2, h4, rr, h5, h6⟩ := h4
        split at h6
        · rename_i hr
          cases h6
          obtain ⟨os, e1, i1, i2, i3⟩ := simOs es h1 R k1
          obtain ⟨j1, j2⟩ := fetch_ok i2 i3 k2
          have hx := item_sh h3 (j2 _ h2) k3
          have hi : immAll xs = true := immAll_of fun z hz => has_i q (hx z hz)
          have := pkeys_ok i2 h4 hr (fun p e d p' Rp hb => by
            obtain ⟨o, e', u1, u2, u3⟩ := simE body h5 Rp hb
            exact ⟨o, e', u1, u3⟩) xs ks hi k4
          have hv : ∀ z ∈ sortKD ks, imm z = true := by
            have keys : ∀ (xs : List D) (ks : List (D × D)), pKeys v (pE CP body) p1 xs = some ks → ∀ z ∈ ks, z.1 ∈ xs := by
              intro xs
              induction xs with
              | nil => intro ks h z hz; cases h; cases hz
              | cons y ys ih =>
                intro ks h z hz
                simp only [pKeys, bind_some', map_some'] at h
                obtain ⟨_, _, _, _, ks', h, rfl⟩ := h
                rcases List.mem_cons.mp hz with rfl | hz
                · exact List.mem_cons_self ..
                · exact List.mem_cons_of_mem _ (ih ks' h z hz)
            intro z hz
            unfold sortKD at hz
            obtain ⟨w, hw, rfl⟩ := List.mem_map.mp hz
            exact of_immAll hi _ (keys _ _ k4 w (List.mem_mergeSort.mp hw))
          refine ⟨true, e1, ?_, i2, ⟨_, rfl, hv⟩, .inr rfl⟩
          simp only [evE, i1, Option.bind_some, j1, k3, this, hs, hi, Bool.and_self, if_true]
        · cases h6
      · cases h4
    · cases k5
  | .meth m i es, A, r, p, p', e, d, h, R, k => by
    simp only [pE, bind_some', map_some', Prod.mk.injEq] at k
    obtain ⟨d0, k1, ⟨ps, p1⟩, k2, vs, k3, d1, k4, xs, k5, ⟨w, ys⟩, k6, rfl, rfl⟩ := k
    obtain ⟨a0, f0, g1, g2, g3⟩ := R.get _ _ k1
    simp only [akE, g1, Option.bind_some, bind_some'] at h
    obtain ⟨⟨as, B⟩, h1, ⟨rs, B2⟩, h2, a, h3, h4⟩ := h
    split at h4
    · rename_i s0 s q0 q1
      simp only [bind_some'] at h4
      obtain ⟨n, h4, h5⟩ := h4
      split at h5
      · rename_i qc
        simp only [Bool.and_eq_true, Bool.or_eq_true] at qc
        cases h5
        obtain ⟨os, e1, i1, i2, i3⟩ := simOs es h1 R k2
        obtain ⟨zs, e2, j1, j2, j3, j4⟩ := gath_ok i3 i2 k3 h2
        obtain ⟨a', f, l1, l2, l3⟩ := j2.get _ _ k4
        rw [h3] at l1
        cases l1
        have hd1 : d1 = .list xs := by cases d1 <;> simp [asL] at k5; subst k5; rfl
        subst hd1
        have hx : ∀ x ∈ xs, s.has x := by
          have := l3.sh
          rw [q1] at this
          obtain ⟨xs', e, hx⟩ := this
          cases e
          exact hx
        rw [← j3] at k6
        obtain ⟨c1, c2⟩ := change_ok h4 hx j4 k6
        obtain ⟨c3, c4⟩ := chF_ok h4 qc.1 l3.fs j4 c2 (by simpa using qc.2)
        have g4 : ∃ xs0, asL d0 = some xs0 := by
          have := g3.sh
          rw [q0] at this
          obtain ⟨xs0, rfl, _⟩ := this
          exact ⟨xs0, rfl⟩
        obtain ⟨xs0, g4⟩ := g4
        refine ⟨imm w, putS e2 i (.list ys) (flAfter m f zs w), ?_, j2.put ⟨c1, c3, fun z => by cases z⟩, c2, ?_⟩
        · simp only [evE, g2, Option.bind_some, g4, i1, j1, l2, k5, k6, c4, if_true]
        · cases hw : imm w with
          | true => exact .inl rfl
          | false =>
            right
            split
            · rename_i z
              rw [has_i z c2] at hw; cases hw
            · rfl
      · cases h5
    · cases h4
  | .methAt m i ke es, A, r, p, p', e, d, h, R, k => by
    simp only [pE, bind_some', map_some', Prod.mk.injEq] at k
    obtain ⟨dk, k1, as, k2, d0, k3, l, k4, xs, k5, ⟨w, ys⟩, k6, d', k7, rfl, rfl⟩ := k
    obtain ⟨a, f, g1, g2, g3⟩ := R.get _ _ k3
    have hl : l = .list xs := by cases l <;> simp [asL] at k5; subst k5; rfl
    subst hl
    simp only [akE, bind_some', g1, Option.bind_some] at h
    obtain ⟨sk, h1, h2⟩ := h
    split at h2
    · rename_i q0
      obtain ⟨m1, m2⟩ := smSh_ok R h1 k1
      obtain ⟨n1, n2, n3⟩ := smShs_ok R q0 k2
      have V := vgs_sm n2 n3
      have ht : things (as.map fun d => (d, true)) = as := by simp [things, Function.comp_def]
      have fin : ∀ (n' : Sh), n'.has d' → decide (a.fs = fO) = true → immAll xs = true → imm w = true → r = ⟨.i, oT, A.set i ⟨n', fO, false⟩⟩ → ∃ o e', evE C (.methAt m i ke es) e = some ⟨w, o, e'⟩ ∧ Rel as0 r.A (putP p i d') e' ∧ VO r.sh r.ob w o := by
        intro n' hn ho hxs hw hr
        have hfl : f = .own := by
          have := g3.fs
          rw [of_decide_eq_true ho] at this
          cases f <;> first | rfl | cases this
        subst hfl
        subst hr
        refine ⟨true, putS e i d' .own, ?_, R.put ⟨hn, rfl, fun z => by cases z⟩, hw, .inl hw⟩
        simp only [evE, m1, n1, g2, Option.bind_some, k4, k5, k6, k7, hxs, decide_true, Bool.and_self, if_true]
      split at h2
      · rename_i s hs
        split at h2
        · rename_i q1
          simp only [Bool.and_eq_true] at q1
          obtain ⟨⟨q1, q2⟩, q3⟩ := q1
          simp only [bind_some'] at h2
          obtain ⟨n, h3, h4⟩ := h2
          split at h4
          · rename_i q4
            cases h4
            have hsh := g3.sh
            rw [hs] at hsh
            obtain ⟨us, rfl, hu⟩ := hsh
            have kf : keyE ke = false := by simpa using q3
            rw [kf] at k4 k7
            have hx : ∀ x ∈ xs, s.has x := by
              cases dk <;> simp only [getK, Bool.false_eq_true, if_false, pIdx, reduceCtorEq] at k4
              obtain ⟨xs', e, hx⟩ := hu _ (idx_mem k4)
              cases e
              exact hx
            have k6' := k6
            rw [← ht] at k6'
            obtain ⟨c1, c2⟩ := change_ok h3 hx V k6'
            refine fin (.l (.l .i)) ?_ q1 (immAll_of fun x hx' => has_i q2 (hx x hx')) ?_ rfl
            · cases dk <;> simp only [putIn, reduceCtorEq, map_some'] at k7
              obtain ⟨vs, k7, rfl⟩ := k7
              refine ⟨vs, rfl, fun v hv => ?_⟩
              rcases put_mem k7 v hv with rfl | hv
              · exact shLe_ok _ _ _ q4 c1
              · obtain ⟨ws, rfl, hw⟩ := hu v hv
                exact ⟨ws, rfl, fun y hy => has_i q2 (hw y hy)⟩
            · refine has_i ?_ c2
              cases m <;> first | exact q2 | rfl
          · cases h4
        · cases h2
      · rename_i ks ss hs
        split at h2
        · rename_i xk
          split at h2
          · rename_i s hk
            split at h2
            · rename_i q1
              simp only [Bool.and_eq_true] at q1
              obtain ⟨q1, q2⟩ := q1
              simp only [bind_some'] at h2
              obtain ⟨n, h3, h4⟩ := h2
              split at h4
              · rename_i q4
                rw [map_some'] at h4
                obtain ⟨ss', h4, rfl⟩ := h4
                have hsh := g3.sh
                rw [hs] at hsh
                obtain ⟨us, rfl, hu, hl⟩ := hsh
                simp only [pSm, Option.some.injEq] at k1
                subst k1
                have k4' : valD xk ((ks.map .str).zip us) = some (.list xs) := k4
                have k7' : (putD xk (.list ys) ((ks.map .str).zip us)).map .dict = some d' := k7
                rw [map_some'] at k7'
                obtain ⟨kvs, k7', rfl⟩ := k7'
                obtain ⟨xs', e, hx⟩ := keySh_ok hk hu k4'
                cases e
                have k6' := k6
                rw [← ht] at k6'
                obtain ⟨c1, c2⟩ := change_ok h3 hx V k6'
                refine fin (.d ks ss') ?_ q1 (immAll_of fun x hx' => has_i q2 (hx x hx')) ?_ rfl
                · obtain ⟨us', e1, e2, e3⟩ := putKey_ok (s := .l .i) (shLe_ok _ _ _ q4 c1) h4 hu k7'
                  exact ⟨us', by rw [e1], e2, by rw [hl, e3]⟩
                · refine has_i ?_ c2
                  cases m <;> first | exact q2 | rfl
              · cases h4
            · cases h2
          · cases h2
        · cases h2
      · cases h2
    · cases h2
  | .lenAt pr i ke, A, r, p, p', e, d, h, R, k => by
    simp only [pE, bind_some', map_some', Prod.mk.injEq] at k
    obtain ⟨dk, k1, d0, k2, d1, k3, d2, k4, rfl, rfl⟩ := k
    obtain ⟨a, f, g1, g2, g3⟩ := R.get _ _ k2
    simp only [akE, bind_some', g1, Option.bind_some] at h
    obtain ⟨sk, h1, s, h2, h3⟩ := h
    split at h3
    · rename_i q
      cases h3
      obtain ⟨m1, m2⟩ := smSh_ok R h1 k1
      have hi := pm1_imm q k4
      exact ⟨true, e, by simp only [evE, m1, g2, Option.bind_some, k3, k4, hi, if_true], R, hi, .inl hi⟩
    · cases h3
  | .dictS ks es, A, r, p, p', e, d, h, R, k => by
    simp only [pE, bind_some'] at k
    obtain ⟨⟨ps, p1⟩, k1, ds, k2, k3⟩ := k
    split at k3
    · rename_i q
      simp only [Option.some.injEq, Prod.mk.injEq] at k3
      obtain ⟨rfl, rfl⟩ := k3
      simp only [akE, bind_some'] at h
      obtain ⟨⟨as, B⟩, h1, ⟨rs, B2⟩, h2, h3⟩ := h
      split at h3
      · rename_i q2
        cases h3
        obtain ⟨os, e1, i1, i2, i3⟩ := simOs es h1 R k1
        obtain ⟨zs, e2, g1, g2, g3, g4⟩ := gath_ok i3 i2 k2 h2
        refine ⟨allOwn zs, e2, ?_, g2, ⟨ds, rfl, by rw [← g3]; exact vgs_has g4, of_decide_eq_true q2⟩, .inr (vgs_all g4)⟩
        simp only [evE, i1, Option.bind_some, g1, g3]
        rw [if_pos q]
      · cases h3
    · cases k3
theorem simOs : ∀ (es : List Ex) {A B : AEn} {as : List AOd} {ps : List POd} {p p' : PEn} {e : En}, ckOs T es A = some (as, B) → Rel as0 A p e → pOs CP es p = some (ps, p') → ∃ os e', evOs C es e = some (os, e') ∧ Rel as0 B p' e' ∧ Ods as ps os
  | [], A, B, as, ps, p, p', e, h, R, k => by
    simp only [ckOs, Option.some.injEq, Prod.mk.injEq] at h
    simp only [pOs, Option.some.injEq, Prod.mk.injEq] at k
    obtain ⟨rfl, rfl⟩ := h
    obtain ⟨rfl, rfl⟩ := k
    exact ⟨[], e, rfl, R, .nil⟩
  | x :: es, A, B, as, ps, p, p', e, h, R, k => by
    by_cases hv : ∃ j, x = .var j
    · obtain ⟨i, rfl⟩ := hv
      simp only [pOs, bind_some', map_some', Prod.mk.injEq] at k
      obtain ⟨d, k1, ⟨ps', p2⟩, k2, rfl, rfl⟩ := k
      obtain ⟨a, f, g1, g2, g3⟩ := R.get _ _ k1
      simp only [ckOs, g1, Option.bind_some] at h
      split at h
      · rename_i q
        simp only [map_some', Prod.mk.injEq] at h
        obtain ⟨⟨as', B'⟩, h1, rfl, rfl⟩ := h
        obtain ⟨os, e', i1, i2, i3⟩ := simOs es h1 R k2
        refine ⟨(if imm d then .tmp d true else .slot i) :: os, e', by simp only [evOs, g2, Option.bind_some, i1, Option.map_some], i2, ?_⟩
        cases hi : a.sh.isI with
        | true =>
          have := has_i hi g3.sh
          simp only [this, if_true]
          exact .tmp ⟨this, .inl this⟩ i3
        | false =>
          have hm : a.sh.mut = true := by simpa [hi] using q
          have := has_mut _ _ hm g3.sh
          simp only [this, Bool.false_eq_true, if_false]
          exact .slot i3
      · cases h
    · have hn : ∀ i, x = .var i → False := fun j q => hv ⟨j, q⟩
      rw [pOs.eq_3 _ _ _ _ hn] at k
      rw [ckOs.eq_3 _ _ _ _ hn] at h
      simp only [bind_some', map_some', Prod.mk.injEq] at h k
      obtain ⟨r, h1, ⟨as', B'⟩, h2, rfl, rfl⟩ := h
      obtain ⟨⟨d, p1⟩, k1, ⟨ps', p2⟩, k2, rfl, rfl⟩ := k
      obtain ⟨o, e1, i1, i2, i3⟩ := simE x h1 R k1
      obtain ⟨os, e2, j1, j2, j3⟩ := simOs es h2 i2 k2
      refine ⟨.tmp d o :: os, e2, ?_, j2, .tmp i3 j3⟩
      rw [evOs.eq_3 _ _ _ _ hn]
      simp only [i1, Option.bind_some, j1, Option.map_some]
theorem simTs : ∀ (cs : List Ex) {A B1 B2 : AEn} {p p' : PEn} {e : En} {k : Bool}, ckTs T cs A = some (B1, B2) → Rel as0 A p e → pTs CP cs p = some (k, p') → ∃ e', evTs C cs e = some (k, e') ∧ Rel as0 B2 p' e' ∧ (k = true → Rel as0 B1 p' e')
  | [], A, B1, B2, p, p', e, k, h, R, m => by
    simp only [ckTs, Option.some.injEq, Prod.mk.injEq] at h
    simp only [pTs, Option.some.injEq, Prod.mk.injEq] at m
    obtain ⟨rfl, rfl⟩ := h
    obtain ⟨rfl, rfl⟩ := m
    exact ⟨e, rfl, R, fun _ => R⟩
  | c :: cs, A, B1, B2, p, p', e, k, h, R, m => by
    simp only [ckTs, bind_some', map_some', Prod.mk.injEq] at h
    obtain ⟨r, h1, ⟨C1, C2⟩, h2, J, h3, rfl, rfl⟩ := h
    simp only [pTs, bind_some'] at m
    obtain ⟨⟨d, p1⟩, m1, kb, m2, m3⟩ := m
    obtain ⟨o, e1, i1, i2, i3⟩ := simE c h1 R m1
    cases kb with
    | true =>
      simp only [if_true] at m3
      obtain ⟨e2, j1, j2, j3⟩ := simTs cs h2 i2 m3
      exact ⟨e2, by simp only [evTs, i1, Option.bind_some, m2, if_true, j1], jn_r h3 j2, j3⟩
    | false =>
      simp only [Bool.false_eq_true, if_false, Option.some.injEq, Prod.mk.injEq] at m3
      obtain ⟨rfl, rfl⟩ := m3
      exact ⟨e1, by simp only [evTs, i1, Option.bind_some, m2, Bool.false_eq_true, if_false], jn_l h3 i2, fun q => by cases q⟩
end
end
end Ev
set_option maxHeartbeats 2000000
/-! The look ahead is right: statements, defs. -/
namespace Ev
open PySem

/-- what came of statements is as told -/
inductive FlO (as0 : List D) (np : Nat) (f : AF) : PFlow → Flow → Prop where
  | next {A : AEn} {p : PEn} {e : En} (h : f.nx = some A) (R : Rel as0 A p e) : FlO as0 np f (.next p) (.next e)
  | brk {A : AEn} {p : PEn} {e : En} (h : f.bk = some A) (R : Rel as0 A p e) : FlO as0 np f (.brk p) (.brk e)
  | cont {A : AEn} {p : PEn} {e : En} (h : f.ct = some A) (R : Rel as0 A p e) : FlO as0 np f (.cont p) (.cont e)
  | ret {s : Sh} {o : Ob} {A : AEn} {d : D} {w : Bool} {p : PEn} {e : En} (h : f.rt = some (s, o, A)) (v : VO s o d w) (R : Rel as0 A p (e.take np)) : FlO as0 np f (.ret d p) (.ret d w e)

section
variable {as0 : List D} {np : Nat} {p : PEn} {e : En} {A B : AEn}
theorem jnO_l {a b c : Option AEn} (h : aJnO a b = some c) (k : a = some A) (R : Rel as0 A p e) : ∃ J, c = some J ∧ Rel as0 J p e := by
  subst k
  cases b with
  | none => cases h; exact ⟨A, rfl, R⟩
  | some b =>
    simp only [aJnO, map_some'] at h
    obtain ⟨J, h, rfl⟩ := h
    exact ⟨J, rfl, jn_l h R⟩
theorem jnO_r {a b c : Option AEn} (h : aJnO a b = some c) (k : b = some A) (R : Rel as0 A p e) : ∃ J, c = some J ∧ Rel as0 J p e := by
  subst k
  cases a with
  | none => cases h; exact ⟨A, rfl, R⟩
  | some b =>
    simp only [aJnO, map_some'] at h
    obtain ⟨J, h, rfl⟩ := h
    exact ⟨J, rfl, jn_r h R⟩
theorem jnR_l {a b c : Option (Sh × Ob × AEn)} (h : jnR a b = some c) {s : Sh} {o : Ob} {d : D} {w : Bool} (k : a = some (s, o, A)) (v : VO s o d w) (R : Rel as0 A p e) : ∃ s' o' A', c = some (s', o', A') ∧ VO s' o' d w ∧ Rel as0 A' p e := by
  subst k
  cases b with
  | none => cases h; exact ⟨s, o, A, rfl, v, R⟩
  | some b =>
    simp only [jnR, bind_some'] at h
    obtain ⟨J, h, h2⟩ := h
    split at h2
    · rename_i q
      simp only [Bool.and_eq_true] at q
      cases h2
      exact ⟨_, _, J, rfl, ⟨shLe_ok _ _ _ q.1 v.sh, v.ob.imp_right ojn_l⟩, jn_l h R⟩
    · cases h2
theorem jnR_r {a b c : Option (Sh × Ob × AEn)} (h : jnR a b = some c) {s : Sh} {o : Ob} {d : D} {w : Bool} (k : b = some (s, o, A)) (v : VO s o d w) (R : Rel as0 A p e) : ∃ s' o' A', c = some (s', o', A') ∧ VO s' o' d w ∧ Rel as0 A' p e := by
  subst k
  cases a with
  | none => cases h; exact ⟨s, o, A, rfl, v, R⟩
  | some b =>
    simp only [jnR, bind_some'] at h
    obtain ⟨J, h, h2⟩ := h
    split at h2
    · rename_i q
      simp only [Bool.and_eq_true] at q
      cases h2
      exact ⟨_, _, J, rfl, ⟨shLe_ok _ _ _ q.2 v.sh, v.ob.imp_right ojn_r⟩, jn_r h R⟩
    · cases h2
theorem FlO.l {a b c : AF} {x : PFlow} {y : Flow} (h : a.jn b = some c) (k : FlO as0 np a x y) : FlO as0 np c x y := by
  simp only [AF.jn, bind_some', map_some'] at h
  obtain ⟨n, h1, kk, h2, cc, h3, r, h4, rfl⟩ := h
  cases k with
  | next h R => obtain ⟨J, e, R⟩ := jnO_l h1 h R; exact .next e R
  | brk h R => obtain ⟨J, e, R⟩ := jnO_l h2 h R; exact .brk e R
  | cont h R => obtain ⟨J, e, R⟩ := jnO_l h3 h R; exact .cont e R
  | ret h v R => obtain ⟨_, _, _, e, v, R⟩ := jnR_l h4 h v R; exact .ret e v R
theorem FlO.r {a b c : AF} {x : PFlow} {y : Flow} (h : a.jn b = some c) (k : FlO as0 np b x y) : FlO as0 np c x y := by
  simp only [AF.jn, bind_some', map_some'] at h
  obtain ⟨n, h1, kk, h2, cc, h3, r, h4, rfl⟩ := h
  cases k with
  | next h R => obtain ⟨J, e, R⟩ := jnO_r h1 h R; exact .next e R
  | brk h R => obtain ⟨J, e, R⟩ := jnO_r h2 h R; exact .brk e R
  | cont h R => obtain ⟨J, e, R⟩ := jnO_r h3 h R; exact .cont e R
  | ret h v R => obtain ⟨_, _, _, e, v, R⟩ := jnR_r h4 h v R; exact .ret e v R
theorem getP_take {p : PEn} {n i : Nat} (h : i < n) : getP (p.take n) i = getP p i := by
  unfold getP
  rw [List.getElem?_take_of_lt h]
theorem getS_take {p : En} {n i : Nat} (h : i < n) : getS (p.take n) i = getS p i := by
  unfold getS
  rw [List.getElem?_take_of_lt h]
theorem getP_take_ge {p : PEn} {n i : Nat} (h : n ≤ i) : getP (p.take n) i = none := by
  unfold getP
  rw [List.getElem?_take_eq_none h]
theorem Rel.take (R : Rel as0 A p e) (n : Nat) : Rel as0 (A.take n) (p.take n) (e.take n) := by
  refine ⟨by simp [R.lp], by simp [R.le], fun i d h => ?_⟩
  by_cases q : i < n
  · rw [getP_take q] at h
    obtain ⟨a, f, h1, h2, h3⟩ := R.get i d h
    exact ⟨a, f, by rw [List.getElem?_take_of_lt q, h1], by rw [getS_take q, h2], h3⟩
  · rw [getP_take_ge (by omega)] at h
    cases h
theorem take_put {p : En} {n i : Nat} {v : Option Sl} (h : n ≤ i) : (p.set i v).take n = p.take n := by
  apply List.ext_getElem?
  intro j
  by_cases q : j < n
  · rw [List.getElem?_take_of_lt q, List.getElem?_take_of_lt q, List.getElem?_set, if_neg (by omega)]
  · rw [List.getElem?_take_eq_none (by omega), List.getElem?_take_eq_none (by omega)]
end

section
variable {T : List Sig} {C : FS} {CP : PFS} (F : SimF T C CP) {as0 : List D} {np : Nat}
include F
theorem simEs : ∀ (es : List Ex) {A B : AEn} {rs : List (Sh × Ob)} {ds : List D} {p p' : PEn} {e : En}, ckEs T es A = some (rs, B) → Rel as0 A p e → pEs CP es p = some (ds, p') → ∃ zs e', evEs C es e = some (zs, e') ∧ Rel as0 B p' e' ∧ VOs rs zs ∧ things zs = ds
  | [], A, B, rs, ds, p, p', e, h, R, k => by
    simp only [ckEs, Option.some.injEq, Prod.mk.injEq] at h
    simp only [pEs, Option.some.injEq, Prod.mk.injEq] at k
    obtain ⟨rfl, rfl⟩ := h
    obtain ⟨rfl, rfl⟩ := k
    exact ⟨[], e, rfl, R, .nil, rfl⟩
  | x :: es, A, B, rs, ds, p, p', e, h, R, k => by
    simp only [ckEs, bind_some', map_some', Prod.mk.injEq] at h
    obtain ⟨r, h1, ⟨rs', B'⟩, h2, rfl, rfl⟩ := h
    simp only [pEs, bind_some', map_some', Prod.mk.injEq] at k
    obtain ⟨⟨d, p1⟩, k1, ⟨ds', p2⟩, k2, rfl, rfl⟩ := k
    obtain ⟨o, e1, i1, i2, i3⟩ := simE F x h1 R k1
    obtain ⟨zs, e2, j1, j2, j3, j4⟩ := simEs es h2 i2 k2
    exact ⟨(d, o) :: zs, e2, by simp only [evEs, i1, Option.bind_some, j1, Option.map_some], j2, .cons i3 j3, by rw [← j4]; rfl⟩
theorem simCd (c : Ex) {A : AEn} {r : AR} {p p' : PEn} {e : En} {k : Bool} (h : akE T c A = some r) (R : Rel as0 A p e) (m : pCd CP c p = some (k, p')) : ∃ e', evC C c e = some (k, e') ∧ Rel as0 r.A p' e' := by
  simp only [pCd, bind_some', map_some', Prod.mk.injEq] at m
  obtain ⟨⟨d, p1⟩, m1, kb, m2, rfl, rfl⟩ := m
  obtain ⟨o, e1, i1, i2, i3⟩ := simE F c h R m1
  exact ⟨e1, by simp only [evC, i1, Option.bind_some, m2, Option.map_some], i2⟩
theorem simRet (ex : Ex) {A : AEn} {r : AR} {p p' : PEn} {e : En} {d : D} (h : ckRet T np ex A = some r) (hr : (r.sh.isI || r.sh.mut) = true) (R : Rel as0 A p e) (k : pE CP ex p = some (d, p')) : ∃ o e', retV C np ex e = some ⟨d, o, e'⟩ ∧ Rel as0 (r.A.take np) (p'.take np) (e'.take np) ∧ VO r.sh (if r.sh.isI then oT else r.ob) d (imm d || o) := by
  have fin : ∀ {o : Bool}, VO r.sh r.ob d o → VO r.sh (if r.sh.isI then oT else r.ob) d (imm d || o) := fun {o} v => by
    refine ⟨v.sh, ?_⟩
    cases hd : imm d with
    | true => exact .inl rfl
    | false =>
      right
      split
      · rename_i q; rw [has_i q v.sh] at hd; cases hd
      · rw [Bool.false_or]
        rcases v.ob with y | y
        · rw [hd] at y; cases y
        · exact y
  cases ex with
  | var i =>
    have k0 := k
    simp only [pE, map_some', Prod.mk.injEq] at k
    obtain ⟨d', k1, rfl, rfl⟩ := k
    obtain ⟨a, f, g1, g2, g3⟩ := R.get _ _ k1
    simp only [ckRet, g1, Option.bind_some] at h
    simp only [retV, g2, Option.bind_some]
    by_cases hi : a.sh.isI = true
    · rw [if_pos hi] at h
      cases h
      have hm := has_i hi g3.sh
      by_cases q : (decide (np ≤ i) && decide (f = .own)) = true
      · rw [if_pos q]
        simp only [Bool.and_eq_true, decide_eq_true_eq] at q
        exact ⟨_, _, rfl, by rw [take_put q.1]; exact R.take np, fin ⟨g3.sh, .inl hm⟩⟩
      · rw [if_neg q]
        refine ⟨true, e, ?_, R.take np, fin ⟨g3.sh, .inl hm⟩⟩
        simp only [readV, g2, Option.bind_some, hm, if_true]
    · rw [if_neg hi] at h
      split at h
      · cases h
      · rename_i hm0
        have hmut : a.sh.mut = true := by simpa using hm0
        have hm := has_mut _ _ hmut g3.sh
        split at h
        · rename_i hnp
          by_cases q : f = .own
          · subst q
            rw [if_pos (by simp [hnp])]
            split at h
            · cases h
              exact ⟨_, _, rfl, by rw [take_put hnp]; exact R.take np, fin ⟨g3.sh, .inr rfl⟩⟩
            · split at h
              · cases h
              · cases h
                exact ⟨_, _, rfl, by rw [take_put hnp]; exact R.take np, fin ⟨g3.sh, .inr (by have := g3.fs; rw [has_o] at this; exact this)⟩⟩
          · rw [if_neg (by simp [q])]
            split at h
            · rename_i z
              have := g3.fs
              rw [z] at this
              cases f <;> first | exact absurd rfl q | cases this
            · split at h
              · cases h
              · rename_i z
                cases h
                have ff := fin (o := false) ⟨g3.sh, .inr rfl⟩
                simp only [readV, g2, Option.bind_some, hm, Bool.false_eq_true, if_false, freeze1] at ff ⊢
                cases f with
                | own => exact absurd rfl q
                | lck => exact absurd g3.fs z
                | spn => exact ⟨_, _, rfl, by simp only [putS]; rw [take_put hnp]; exact R.take np, ff⟩
                | frz => exact ⟨_, _, rfl, R.take np, ff⟩
        · rename_i hnp
          rw [if_neg (by simp [hnp])]
          obtain ⟨o, e', i1, i2, i3⟩ := simE F (.var i) (A := A) (r := r) h R k0
          simp only [evE] at i1
          exact ⟨o, e', i1, i2.take np, fin i3⟩
  | _ =>
    simp only [ckRet] at h
    obtain ⟨o, e', i1, i2, i3⟩ := simE F _ h R k
    exact ⟨o, e', by simp only [retV]; exact i1, i2.take np, fin i3⟩
theorem simT (t : St) {A : AEn} {f : AF} {p : PEn} {e : En} {fl : PFlow} (h : akT T np t A = some f) (R : Rel as0 A p e) (k : pT CP np t p = some fl) : ∃ fl', evS C np t e = some fl' ∧ FlO as0 np f fl fl' := by
  cases t with
  | asg t ex =>
    simp only [pT, bind_some', map_some'] at k
    obtain ⟨⟨d, p1⟩, k1, p2, k2, rfl⟩ := k
    simp only [akT, bind_some', map_some'] at h
    obtain ⟨r, h1, B, h2, rfl⟩ := h
    obtain ⟨o, e1, i1, i2, i3⟩ := simE F ex h1 R k1
    obtain ⟨e2, j1, j2⟩ := assign_ok i2 i3 h2 k2
    exact ⟨.next e2, by simp only [evS, i1, Option.bind_some, j1, Option.map_some], .next rfl j2⟩
  | par ts es =>
    simp only [pT, bind_some', map_some'] at k
    obtain ⟨⟨ds, p1⟩, k1, p2, k2, rfl⟩ := k
    simp only [akT, bind_some', map_some'] at h
    obtain ⟨⟨rs, B⟩, h1, B2, h2, rfl⟩ := h
    obtain ⟨zs, e1, i1, i2, i3, i4⟩ := simEs F es h1 R k1
    obtain ⟨e2, j1, j2⟩ := pste_ok i3 i2 h2 (by rw [i4]; exact k2)
    exact ⟨.next e2, by simp only [evS, i1, Option.bind_some, j1, Option.map_some], .next rfl j2⟩
  | setAt i ke ex =>
    simp only [pT, bind_some', map_some'] at k
    obtain ⟨⟨v, p1⟩, k1, dk, k2, d, k3, d', k4, rfl⟩ := k
    simp only [akT, bind_some'] at h
    obtain ⟨r, h1, sk, h2, a, h3, h4⟩ := h
    obtain ⟨o, e1, i1, i2, i3⟩ := simE F ex h1 R k1
    obtain ⟨m1, m2⟩ := smSh_ok i2 h2 k2
    obtain ⟨a', f', g1, g2, g3⟩ := i2.get _ _ k3
    rw [h3] at g1
    cases g1
    split at h4
    · rename_i q
      simp only [Bool.and_eq_true, Bool.or_eq_true, Bool.not_eq_true'] at q
      have hc : canChange f' = true := by
        have q1 := q.1
        simp only [isC, Bool.and_eq_true, Bool.not_eq_true'] at q1
        have := g3.fs
        cases f' with
        | own => rfl
        | spn => rfl
        | frz => rw [has_f, q1.1] at this; cases this
        | lck => rw [has_k, q1.2] at this; cases this
      have hk : (imm v || !keyE ke) = true := by
        rcases q.2 with z | z
        · rw [has_i z i3.sh]; rfl
        · rw [z.1]; simp
      split at h4
      · rename_i s hs
        split at h4
        · cases h4
        · rename_i kf
          have kf : keyE ke = false := by simpa using kf
          rw [map_some'] at h4
          obtain ⟨n, h4, rfl⟩ := h4
          have hsh := g3.sh
          rw [hs] at hsh
          obtain ⟨xs, rfl, hx⟩ := hsh
          rw [kf] at k4
          cases dk <;> simp only [putIn, reduceCtorEq, map_some'] at k4
          obtain ⟨ys, k4, rfl⟩ := k4
          rename_i j
          refine ⟨.next (putS e1 i (.list ys) (if imm v then f' else .spn)), ?_, .next rfl (i2.put ⟨?_, ?_, fun z => by cases z⟩)⟩
          · simp only [evS, i1, Option.bind_some, m1, g2, kf, putIn, k4, Option.map_some, hc, dSmall]
            simp
          · refine mkL_ok h4 fun y hy => ?_
            rcases put_mem k4 y hy with rfl | hy
            · exact ⟨_, by simp, i3.sh⟩
            · exact ⟨_, by simp, hx y hy⟩
          · cases hi : r.sh.isI with
            | true => rw [has_i hi i3.sh]; exact g3.fs
            | false =>
              have hm : r.sh.mut = true := by
                rcases q.2 with z | z
                · rw [hi] at z; cases z
                · exact z.2
              rw [has_mut _ _ hm i3.sh]
              rfl
      · rename_i ks ss hs
        split at h4
        · rename_i xk
          split at h4
          · rename_i hl
            rw [map_some'] at h4
            obtain ⟨ss', h4, rfl⟩ := h4
            have hi : r.sh.isI = true := by
              rcases q.2 with z | z
              · exact z
              · cases z.1
            have hsh := g3.sh
            rw [hs] at hsh
            obtain ⟨us, rfl, hu, hl2⟩ := hsh
            simp only [pSm, Option.some.injEq] at k2
            subst k2
            have k4' : (putD xk v ((ks.map .str).zip us)).map .dict = some d' := k4
            rw [map_some'] at k4'
            obtain ⟨kvs, k4', rfl⟩ := k4'
            obtain ⟨us', e1', e2, e3⟩ := putKey_ok (s := r.sh) i3.sh h4 hu k4'
            have hd : dSmall (.dict ((ks.map .str).zip us)) = true := by
              have := of_decide_eq_true hl
              simp only [dSmall, decide_eq_true_eq, List.length_zip, List.length_map]
              omega
            refine ⟨.next (putS e1 i (.dict kvs) (if imm v then f' else .spn)), ?_, .next rfl (i2.put ⟨⟨us', by rw [e1'], e2, by rw [hl2, e3]⟩, ?_, fun z => by cases z⟩)⟩
            · simp only [evS, i1, Option.bind_some, m1, g2, k4, hc, hk, hd, Bool.and_self, if_true]
            · rw [has_i hi i3.sh]; exact g3.fs
          · cases h4
        · cases h4
      · cases h4
    · cases h4
  | augAt i ke ex =>
    simp only [pT, bind_some', map_some'] at k
    obtain ⟨dk, k1, d0, k2, o, k3, n, k4, ⟨v, p1⟩, k5, m, k6, d, k7, d', k8, rfl⟩ := k
    simp only [akT, bind_some'] at h
    obtain ⟨sk, h1, r, h2, a0, h3, a, h4, h5⟩ := h
    obtain ⟨m1, m2⟩ := smSh_ok R h1 k1
    obtain ⟨a0', f0, g1, g2, g3⟩ := R.get _ _ k2
    rw [h3] at g1
    cases g1
    obtain ⟨o1, e1, i1, i2, i3⟩ := simE F ex h2 R k5
    obtain ⟨a', f', l1, l2, l3⟩ := i2.get _ _ k7
    rw [h4] at l1
    cases l1
    split at h5
    · rename_i s0 s q0 q1
      split at h5
      · rename_i q
        simp only [Bool.and_eq_true] at q
        rw [map_some'] at h5
        obtain ⟨nn, h5, rfl⟩ := h5
        have hc : canChange f' = true := by
          have q1 := q.1
          simp only [isC, Bool.and_eq_true, Bool.not_eq_true'] at q1
          have := l3.fs
          cases f' with
          | own => rfl
          | spn => rfl
          | frz => rw [has_f, q1.1] at this; cases this
          | lck => rw [has_k, q1.2] at this; cases this
        have hs0 := g3.sh
        rw [q0] at hs0
        obtain ⟨xs0, rfl, hx0⟩ := hs0
        have hs := l3.sh
        rw [q1] at hs
        obtain ⟨xs, rfl, hx⟩ := hs
        have k8' := k8
        cases dk <;> simp only [putIn, reduceCtorEq, map_some'] at k8'
        obtain ⟨ys, k8', rfl⟩ := k8'
        refine ⟨.next (putS e1 i (.list ys) f'), ?_, .next rfl (i2.put ⟨?_, l3.fs, fun z => by cases z⟩)⟩
        · simp only [evS, m1, Option.bind_some, g2, k3, k4, i1, k6, l2, k8, hc, Bool.true_and]
          rfl
        · refine mkL_ok h5 fun y hy => ?_
          rcases put_mem k8' y hy with rfl | hy
          · exact ⟨.i, by simp, rfl⟩
          · exact ⟨_, by simp, hx y hy⟩
      · cases h5
    · cases h5
  | augL i ex =>
    simp only [pT, bind_some', map_some'] at k
    obtain ⟨d, k1, n, k2, ⟨v, p1⟩, k3, m, k4, p2, k5, rfl⟩ := k
    simp only [akT, bind_some', map_some'] at h
    obtain ⟨r, h1, B, h2, rfl⟩ := h
    obtain ⟨a', f', g1, g2, g3⟩ := R.get _ _ k1
    obtain ⟨o1, e1, i1, i2, i3⟩ := simE F ex h1 R k3
    obtain ⟨e2, j1, j2⟩ := pst_ok i2 (show VO .i oT (.int (n + m)) true from ⟨rfl, .inl rfl⟩) h2 k5
    have : e2 = putS e1 i (.int (n + m)) .own := by
      unfold store at j1
      split at j1
      · cases j1; rfl
      · cases j1
    subst this
    exact ⟨_, by simp only [evS, g2, Option.bind_some, k2, i1, k4, Option.map_some], .next rfl j2⟩
  | ex x =>
    simp only [pT, map_some'] at k
    obtain ⟨⟨d, p1⟩, k1, rfl⟩ := k
    simp only [akT, map_some'] at h
    obtain ⟨r, h1, rfl⟩ := h
    obtain ⟨o1, e1, i1, i2, i3⟩ := simE F x h1 R k1
    exact ⟨_, by simp only [evS, i1, Option.map_some], .next rfl i2⟩
  | ret x =>
    simp only [pT, map_some'] at k
    obtain ⟨⟨d, p1⟩, k1, rfl⟩ := k
    simp only [akT, bind_some'] at h
    obtain ⟨r, h1, h2⟩ := h
    split at h2
    · rename_i q
      cases h2
      obtain ⟨o, e', i1, i2, i3⟩ := simRet F x h1 q R k1
      exact ⟨.ret d (imm d || o) e', by simp only [evS, i1, Option.map_some], .ret rfl i3 i2⟩
    · cases h2
  | retN =>
    cases k; cases h
    exact ⟨_, rfl, .ret rfl ⟨rfl, .inl rfl⟩ (R.take np)⟩
  | brk => cases k; cases h; exact ⟨_, rfl, .brk rfl R⟩
  | cont => cases k; cases h; exact ⟨_, rfl, .cont rfl R⟩
  | pass => cases k; cases h; exact ⟨_, rfl, .next rfl R⟩
  | never => cases k
  | ite => cases k
  | whl => cases k
  | «for» => cases k
end
theorem turn_ok {as0 : List D} {g : AEn → Option AF} {I N : AEn} {f : AF} (h : stepA g I = some N) (l : aLe N I = true) (hg : g I = some f) {p : PEn} {e : En} {B : AEn} (R : Rel as0 B p e) (k : f.nx = some B ∨ f.ct = some B) : Rel as0 I p e := by
  simp only [stepA, hg, Option.bind_some, map_some', turnA] at h
  obtain ⟨o, h, rfl⟩ := h
  rcases k with k | k
  · obtain ⟨J, rfl, R⟩ := jnO_l h k R
    exact R.mono l
  · obtain ⟨J, rfl, R⟩ := jnO_r h k R
    exact R.mono l
section
variable {as0 : List D} {np : Nat} {I : AEn} {fI f : AF} {n : Option AEn}
theorem for_ok {E : AEn} {s : Sh} {t : Tg} {b : En → Option Flow} {bp : PEn → Option PFlow} (hn : aJnO (some E) fI.bk = some n) (hE : ∀ p e, Rel as0 I p e → Rel as0 E p e)
    (HT : ∀ (p : PEn) (e : En) (B : AEn), Rel as0 B p e → (fI.nx = some B ∨ fI.ct = some B) → Rel as0 I p e)
    (H : ∀ (p : PEn) (e : En) (x : D) (p1 : PEn), Rel as0 I p e → s.has x → pAssign p t x = some p1 → ∃ e1, assignT e t x false = some e1 ∧ ∀ fl, bp p1 = some fl → ∃ fl', b e1 = some fl' ∧ FlO as0 np fI fl fl') :
    ∀ (xs : List D) (p : PEn) (e : En) (fl : PFlow), (∀ x ∈ xs, s.has x) → Rel as0 I p e → pFor t bp xs p = some fl → ∃ fl', forLoop t b xs e = some fl' ∧ FlO as0 np ⟨n, none, none, fI.rt⟩ fl fl'
  | [], p, e, fl, _, R, h => by
    cases h
    obtain ⟨J, hJ, R'⟩ := jnO_l hn rfl (hE p e R)
    exact ⟨_, rfl, .next hJ R'⟩
  | x :: xs, p, e, fl, hx, R, h => by
    simp only [pFor, bind_some'] at h
    obtain ⟨p1, h1, fl1, h2, h3⟩ := h
    obtain ⟨e1, g1, g2⟩ := H p e x p1 R (hx x (List.mem_cons_self ..)) h1
    obtain ⟨fl2, g3, g4⟩ := g2 fl1 h2
    have hx' : ∀ y ∈ xs, s.has y := fun y hy => hx y (List.mem_cons_of_mem _ hy)
    cases g4 with
    | next h R1 =>
      obtain ⟨fl', i1, i2⟩ := for_ok hn hE HT H xs _ _ fl hx' (HT _ _ _ R1 (.inl h)) h3
      exact ⟨fl', by simp only [forLoop, g1, g3, Option.bind_some, i1], i2⟩
    | cont h R1 =>
      obtain ⟨fl', i1, i2⟩ := for_ok hn hE HT H xs _ _ fl hx' (HT _ _ _ R1 (.inr h)) h3
      exact ⟨fl', by simp only [forLoop, g1, g3, Option.bind_some, i1], i2⟩
    | brk h R1 =>
      cases h3
      obtain ⟨J, hJ, R'⟩ := jnO_r hn h R1
      exact ⟨_, by simp only [forLoop, g1, g3, Option.bind_some], .next hJ R'⟩
    | ret h v R1 =>
      cases h3
      exact ⟨_, by simp only [forLoop, g1, g3, Option.bind_some], .ret h v R1⟩
theorem while_ok {E : AEn} {c : En → Option (Bool × En)} {cp : PEn → Option (Bool × PEn)} {b : En → Option Flow} {bp : PEn → Option PFlow} (hn : aJnO (some E) fI.bk = some n)
    (HT : ∀ (p : PEn) (e : En) (B : AEn), Rel as0 B p e → (fI.nx = some B ∨ fI.ct = some B) → Rel as0 I p e)
    (H : ∀ (p : PEn) (e : En) (k : Bool) (p1 : PEn), Rel as0 I p e → cp p = some (k, p1) → ∃ e1, c e = some (k, e1) ∧ Rel as0 E p1 e1 ∧ ∀ fl, bp p1 = some fl → ∃ fl', b e1 = some fl' ∧ FlO as0 np fI fl fl') :
    ∀ (m : Nat) (p : PEn) (e : En) (fl : PFlow), Rel as0 I p e → pWhile cp bp m p = some fl → ∃ fl', whileLoop c b m e = some fl' ∧ FlO as0 np ⟨n, none, none, fI.rt⟩ fl fl'
  | 0, p, e, fl, R, h => by cases h
  | m + 1, p, e, fl, R, h => by
    simp only [pWhile, bind_some'] at h
    obtain ⟨⟨k, p1⟩, h1, h2⟩ := h
    obtain ⟨e1, g1, g2, g3⟩ := H p e k p1 R h1
    cases k with
    | false =>
      simp only [Bool.false_eq_true, if_false, Option.some.injEq] at h2
      subst h2
      obtain ⟨J, hJ, R'⟩ := jnO_l hn rfl g2
      exact ⟨_, by simp only [whileLoop, g1, Option.bind_some, Bool.false_eq_true, if_false], .next hJ R'⟩
    | true =>
      simp only [if_true, bind_some'] at h2
      obtain ⟨fl1, h2, h3⟩ := h2
      obtain ⟨fl2, g4, g5⟩ := g3 fl1 h2
      cases g5 with
      | next h R1 =>
        obtain ⟨fl', i1, i2⟩ := while_ok hn HT H m _ _ fl (HT _ _ _ R1 (.inl h)) h3
        exact ⟨fl', by simp only [whileLoop, g1, g4, Option.bind_some, if_true, i1], i2⟩
      | cont h R1 =>
        obtain ⟨fl', i1, i2⟩ := while_ok hn HT H m _ _ fl (HT _ _ _ R1 (.inr h)) h3
        exact ⟨fl', by simp only [whileLoop, g1, g4, Option.bind_some, if_true, i1], i2⟩
      | brk h R1 =>
        cases h3
        obtain ⟨J, hJ, R'⟩ := jnO_r hn h R1
        exact ⟨_, by simp only [whileLoop, g1, g4, Option.bind_some, if_true], .next hJ R'⟩
      | ret h v R1 =>
        cases h3
        exact ⟨_, by simp only [whileLoop, g1, g4, Option.bind_some, if_true], .ret h v R1⟩
end
theorem evSs_app {C : FS} {np : Nat} : ∀ (a b : List St) (e : En), evSs C np (a ++ b) e = (evSs C np a e).bind fun f => match f with
    | .next e => evSs C np b e
    | f => some f
  | [], b, e => rfl
  | s :: ss, b, e => by
    simp only [List.cons_append, evSs]
    cases evS C np s e with
    | none => rfl
    | some f =>
      simp only [Option.bind_some]
      cases f with
      | next e' => exact evSs_app ss b e'
      | _ => rfl
theorem evSs_one {C : FS} {np : Nat} {s : St} {e : En} {fl : Flow} (h : evS C np s e = some fl) : evSs C np [s] e = some fl := by
  simp only [evSs, h, Option.bind_some]
  cases fl <;> rfl
section
variable {T : List Sig} {C : FS} {CP : PFS} (F : SimF T C CP) {as0 : List D} {np : Nat}
include F
mutual
theorem simS : ∀ (s : PSt) {A : AEn} {f : AF} {p : PEn} {e : En} {fl : PFlow}, ckP T np s A = some f → Rel as0 A p e → pS CP np s p = some fl → ∃ fl', evSs C np s.bare e = some fl' ∧ FlO as0 np f fl fl'
  | .s t, A, f, p, e, fl, h, R, k => by
    simp only [ckP] at h
    simp only [pS] at k
    obtain ⟨fl', i1, i2⟩ := simT F t h R k
    exact ⟨fl', by simp only [PSt.bare]; exact evSs_one i1, i2⟩
  | .ite c a b, A, f, p, e, fl, h, R, k => by
    simp only [ckP, bind_some'] at h
    obtain ⟨r, h1, fa, h2, fb, h3, h4⟩ := h
    simp only [pS, bind_some'] at k
    obtain ⟨⟨kb, p1⟩, k1, k2⟩ := k
    obtain ⟨e1, i1, i2⟩ := simCd F c h1 R k1
    cases kb with
    | true =>
      simp only [if_true] at k2
      obtain ⟨fl', j1, j2⟩ := simSs a h2 i2 k2
      exact ⟨fl', by simp only [PSt.bare]; exact evSs_one (by simp only [evS, i1, Option.bind_some, if_true, j1]), j2.l h4⟩
    | false =>
      simp only [Bool.false_eq_true, if_false] at k2
      obtain ⟨fl', j1, j2⟩ := simSs b h3 i2 k2
      exact ⟨fl', by simp only [PSt.bare]; exact evSs_one (by simp only [evS, i1, Option.bind_some, Bool.false_eq_true, if_false, j1]), j2.r h4⟩
  | .whl c b, A, f, p, e, fl, h, R, k => by
    simp only [ckP, loopA, bind_some', map_some'] at h
    obtain ⟨I, h1, fI, ⟨r, h2, h2'⟩, E, ⟨r', h3, rfl⟩, n, h4, rfl⟩ := h
    rw [h2] at h3
    cases h3
    simp only [pS] at k
    obtain ⟨g1, N, g2, g3⟩ := fixOk_ok h1
    obtain ⟨fl', j1, j2⟩ := while_ok (np := np) (fI := fI) (I := I) (E := r.A) (c := evC C c) (b := evSs C np (bareL b)) h4
      (fun p e B Rb hb => turn_ok g2 g3 (by simp only [h2, Option.bind_some, h2']) Rb hb)
      (fun p e k p1 Rp hp => by
        obtain ⟨e1, i1, i2⟩ := simCd F c h2 Rp hp
        exact ⟨e1, i1, i2, fun fl hf => simSs b h2' i2 hf⟩) fuel p e fl (R.mono g1) k
    exact ⟨fl', by simp only [PSt.bare]; exact evSs_one (by simp only [evS]; exact j1), j2⟩
  | .for t ik its b, A, f, p, e, fl, h, R, k => by
    simp only [ckP, loopA, bind_some', map_some'] at h
    obtain ⟨⟨as, B⟩, h1, ss, h2, x, h3, L, h4, I, h5, fI, ⟨B1, h6, h7⟩, E, hE, n, h8, rfl⟩ := h
    cases hE
    simp only [pS, bind_some'] at k
    obtain ⟨⟨ps, p1⟩, k1, ds, k2, xs, k3, k4⟩ := k
    obtain ⟨os, e1, i1, i2, i3⟩ := simOs F its h1 R k1
    obtain ⟨j1, j2⟩ := fetch_ok i2 i3 k2
    have hx := item_sh h3 (j2 _ h2) k3
    obtain ⟨e2, l1, l2⟩ := frz_ok i3 i2 k2 h4
    obtain ⟨g1, N, g2, g3⟩ := fixOk_ok h5
    obtain ⟨fl', m1, m2⟩ := for_ok (np := np) (fI := fI) (I := I) (E := I) (s := x) (t := t) (b := evSs C np (bareL b)) h8 (fun p e h => h)
      (fun p e B Rb hb => turn_ok g2 g3 (by simp only [h6, Option.bind_some, h7]) Rb hb)
      (fun p e y p1 Rp hy hp => by
        obtain ⟨e1, a1, a2⟩ := assign_ok (w := false) Rp ⟨hy, .inr rfl⟩ h6 hp
        exact ⟨e1, a1, fun fl hf => simSs b h7 a2 hf⟩) xs p1 e2 fl hx (l2.mono g1) k4
    exact ⟨fl', by simp only [PSt.bare]; exact evSs_one (by simp only [evS, i1, Option.bind_some, j1, k3, l1, m1]), m2⟩
  | .wipe is, A, f, p, e, fl, h, R, k => by
    simp only [ckP, Option.some.injEq] at h
    simp only [pS, Option.some.injEq] at k
    subst h k
    exact ⟨.next e, rfl, .next rfl (R.wipe is)⟩
theorem simSs : ∀ (ss : List PSt) {A : AEn} {f : AF} {p : PEn} {e : En} {fl : PFlow}, ckPs T np ss A = some f → Rel as0 A p e → pSs CP np ss p = some fl → ∃ fl', evSs C np (bareL ss) e = some fl' ∧ FlO as0 np f fl fl'
  | [], A, f, p, e, fl, h, R, k => by
    simp only [ckPs, Option.some.injEq] at h
    simp only [pSs, Option.some.injEq] at k
    subst h k
    exact ⟨.next e, rfl, .next rfl R⟩
  | s :: ss, A, f, p, e, fl, h, R, k => by
    simp only [ckPs, bind_some'] at h
    obtain ⟨f1, h1, h2⟩ := h
    simp only [pSs, bind_some'] at k
    obtain ⟨fl1, k1, k2⟩ := k
    obtain ⟨fl2, i1, i2⟩ := simS s h1 R k1
    simp only [bareL]
    rw [evSs_app, i1, Option.bind_some]
    cases hn : f1.nx with
    | none =>
      rw [hn] at h2
      cases h2
      cases i2 with
      | next h R1 => rw [hn] at h; cases h
      | brk h R1 => cases k2; exact ⟨_, rfl, .brk h R1⟩
      | cont h R1 => cases k2; exact ⟨_, rfl, .cont h R1⟩
      | ret h v R1 => cases k2; exact ⟨_, rfl, .ret h v R1⟩
    | some B =>
      rw [hn] at h2
      simp only [bind_some'] at h2
      obtain ⟨g, h2, h3⟩ := h2
      cases i2 with
      | next h R1 =>
        rw [hn] at h
        cases h
        obtain ⟨fl', j1, j2⟩ := simSs ss h2 R1 k2
        exact ⟨fl', j1, j2.r h3⟩
      | brk h R1 => cases k2; exact ⟨_, rfl, FlO.l h3 (.brk h R1)⟩
      | cont h R1 => cases k2; exact ⟨_, rfl, FlO.l h3 (.cont h R1)⟩
      | ret h v R1 => cases k2; exact ⟨_, rfl, FlO.l h3 (.ret h v R1)⟩
end
end
end Ev
set_option maxHeartbeats 2000000
/-! The look ahead is right: defs. -/
namespace Ev
open PySem

theorem in_ok : ∀ {re : List Bool} {as : List As} {ds : List D} {ss : List Sl}, Args as ds ss → (as.all fun a => a.sh.isI || a.sh.mut) = true → Args (aIn re as) ds (inS re ss)
  | [], as, ds, ss, h, _ => by cases h with
    | nil => exact .nil
    | cons a b c => exact .cons a b c
  | r :: re, as, ds, ss, h, q => by
    cases h with
    | nil => cases r <;> exact .nil
    | @cons a d f as ds ss a1 a2 t =>
      simp only [List.all_cons, Bool.and_eq_true] at q
      cases r with
      | false => exact .cons a1 a2 (in_ok t q.2)
      | true =>
        simp only [aIn, inS]
        by_cases hi : a.sh.isI = true
        · rw [if_pos hi, if_pos (has_i hi a1)]
          exact .cons a1 a2 (in_ok t q.2)
        · rw [if_neg hi]
          have hm : a.sh.mut = true := by simpa [hi] using q.1
          rw [if_neg (by rw [has_mut _ _ hm a1]; simp)]
          exact .cons a1 rfl (in_ok t q.2)
theorem args_get : ∀ {as : List As} {ds : List D} {ss : List Sl}, Args as ds ss → ∀ {i : Nat} {d : D}, ds[i]? = some d → ∃ a f, as[i]? = some a ∧ ss[i]? = some ⟨d, f⟩ ∧ a.sh.has d ∧ a.fs.has f = true := by
  intro as ds ss h
  induction h with
  | nil => intro i d h; simp at h
  | @cons a d f as ds ss h k t ih =>
    intro i d' hd
    cases i with
    | zero => simp at hd; subst hd; exact ⟨a, f, rfl, rfl, h, k⟩
    | succ i =>
      simp only [List.getElem?_cons_succ] at hd ⊢
      exact ih hd
theorem getP_app {ds : List D} {n i : Nat} {d : D} (h : getP (ds.map some ++ List.replicate n none) i = some d) : ds[i]? = some d := by
  unfold getP at h
  by_cases q : i < ds.length
  · rw [List.getElem?_append_left (by simpa using q), List.getElem?_map] at h
    cases hd : ds[i]? with
    | none => rw [hd] at h; simp at h
    | some x => rw [hd] at h; simp at h; rw [h]
  · rw [List.getElem?_append_right (by simpa using q)] at h
    rw [List.getElem?_replicate] at h
    split at h
    · rename_i z
      split at z <;> simp at z
    · cases h
theorem pstart_ok {as : List As} {ds : List D} {ss : List Sl} (h : Args as ds ss) (n : Nat) (a0 : As) : Rel ds ((as.map fun a => (⟨a.sh, a.fs, true⟩ : As)) ++ List.replicate n a0) (ds.map some ++ List.replicate n none) (ss.map some ++ List.replicate n none) := by
  have l := h.len
  refine ⟨by simp [l.1], by simp [l.2], fun i d hd => ?_⟩
  have hd' := getP_app hd
  obtain ⟨a, f, h1, h2, h3, h4⟩ := args_get h hd'
  have i1 := (List.getElem?_eq_some_iff.mp h1).1
  have i2 := (List.getElem?_eq_some_iff.mp h2).1
  refine ⟨⟨a.sh, a.fs, true⟩, f, ?_, ?_, h3, h4, fun _ => hd'⟩
  · rw [List.getElem?_append_left (by simpa using i1), List.getElem?_map, h1]; rfl
  · unfold getS
    rw [List.getElem?_append_left (by simpa using i2), List.getElem?_map, h2]
    rfl
theorem outS_take {e : En} {np : Nat} : ∀ (re : List Bool) (n : Nat) (as : List Sl), n + re.length ≤ np → outS (e.take np) n re as = outS e n re as
  | [], n, as, _ => by cases as <;> rfl
  | r :: re, n, [], h => by cases r <;> rfl
  | r :: re, n, a :: as, h => by
    simp only [List.length_cons] at h
    cases r with
    | true => simp only [outS]; rw [outS_take re (n + 1) as (by omega)]
    | false => simp only [outS]; rw [outS_take re (n + 1) as (by omega), getS_take (by omega)]
theorem out_ok {ds0 : List D} {A : AEn} {p : PEn} {e : En} (R : Rel ds0 A p e) : ∀ (re : List Bool) (n : Nat) {as : List As} {ds : List D} {ss : List Sl} {fs : List D} {A' : List As}, Args as ds ss → (∀ j, ds[j]? = ds0[n + j]?) → (∀ j, A'[j]? = A[n + j]?) → pOut p n re ds = some fs → ∃ fl, outS e n re ss = some fl ∧ Outs (aOut re as A') ds fs fl
  | [], n, as, ds, ss, fs, A', h, _, _, k => by
    cases h with
    | nil => cases k; exact ⟨[], rfl, .nil⟩
    | cons => cases k
  | r :: re, n, as, ds, ss, fs, A', h, hd, hA, k => by
    cases h with
    | nil => cases r <;> cases k
    | @cons a d f as ds ss a1 a2 t =>
      have d0 : ds0[n]? = some d := by have := hd 0; simpa using this.symm
      have hd' : ∀ j, ds[j]? = ds0[n + 1 + j]? := fun j => by
        have := hd (j + 1)
        rw [show n + (j + 1) = n + 1 + j by omega] at this
        simpa using this
      cases r with
      | true =>
        simp only [pOut, map_some'] at k
        obtain ⟨fs', k, rfl⟩ := k
        have hA' : ∀ j, A'.tail[j]? = A[n + 1 + j]? := fun j => by
          have := hA (j + 1)
          rw [show n + (j + 1) = n + 1 + j by omega] at this
          rw [← this, List.getElem?_tail]
        obtain ⟨fl, i1, i2⟩ := out_ok R re (n + 1) t hd' hA' k
        exact ⟨⟨d, f⟩ :: fl, by simp only [outS, i1, Option.map_some], .cons ⟨a1, a2, fun _ => rfl⟩ i2⟩
      | false =>
        simp only [pOut, bind_some', map_some'] at k
        obtain ⟨d', k1, fs', k, rfl⟩ := k
        obtain ⟨b, f', g1, g2, g3⟩ := R.get _ _ k1
        cases A' with
        | nil =>
          have := hA 0
          simp [g1] at this
        | cons b' B =>
          have hb : b' = b := by have := hA 0; simp [g1] at this; exact this
          subst hb
          have hA' : ∀ j, B[j]? = A[n + 1 + j]? := fun j => by
            have := hA (j + 1)
            rw [show n + (j + 1) = n + 1 + j by omega] at this
            simpa using this
          obtain ⟨fl, i1, i2⟩ := out_ok R re (n + 1) t hd' hA' k
          rw [d0] at g3
          exact ⟨⟨d', f'⟩ :: fl, by simp only [outS, g2, Option.bind_some, i1, Option.map_some], .cons g3 i2⟩
theorem Outs.mono {as bs : List As} {es ds : List D} {ss : List Sl} (h : Outs as es ds ss) : aLe as bs = true → Outs bs es ds ss := by
  induction h generalizing bs with
  | nil =>
    intro l
    cases bs with
    | nil => exact .nil
    | cons => simp [aLe] at l
  | cons h t ih =>
    intro l
    cases bs with
    | nil => simp [aLe] at l
    | cons b bs =>
      simp only [aLe, Bool.and_eq_true] at l
      exact .cons (h.mono l.1) (ih l.2)
theorem in_len : ∀ (re : List Bool) (as : List As), (aIn re as).length = as.length
  | [], as => by simp [aIn]
  | r :: re, [] => by cases r <;> rfl
  | r :: re, a :: as => by cases r <;> simp [aIn, in_len re as]
theorem aOut_map : ∀ (re : List Bool) (as : List As) (B : List As), aOut re (as.map fun a => (⟨a.sh, a.fs, true⟩ : As)) B = aOut re as B
  | [], as, B => rfl
  | true :: re, [], B => rfl
  | false :: re, [], B => rfl
  | true :: re, a :: as, B => by simp [aOut, aOut_map re as]
  | false :: re, a :: as, [] => rfl
  | false :: re, a :: as, b :: B => by simp [aOut, aOut_map re as]
def outFl (re : List Bool) (as : List Sl) : Flow → Option (D × Bool × List Sl)
  | .ret d o e => (outS e 0 re as).map fun r => (d, o, r)
  | .next e => (outS e 0 re as).map fun r => (.none, true, r)
  | _ => none
theorem run_eq {C : FS} {F : PFn} {ss : List Sl} (hl : ss.length = F.re.length) {ef : Flow} (h : evSs C F.re.length (bareL F.body) ((inS F.re ss).map some ++ List.replicate (F.ns - F.re.length) none) = some ef) : runFn C F.bare ss = outFl F.re (inS F.re ss) ef := by
  unfold runFn
  rw [if_pos (show ss.length = F.bare.re.length from hl)]
  show Option.bind (evSs C F.re.length (bareL F.body) ((inS F.re ss).map some ++ List.replicate (F.ns - F.re.length) none)) _ = _
  rw [h]
  cases ef <;> rfl
/-- a def's look holds -/
theorem fn_ok {T : List Sig} {C : FS} {CP : PFS} (SF : SimF T C CP) {P : List PFn} {s : Sig} {F : PFn} (hF : P[s.f]? = some F) (h : ckSig T P s = true) {ds fs : List D} {d : D} {ss : List Sl} (a : Args s.ps ds ss) (k : pRun CP F ds = some (d, fs)) : ∃ o fl, runFn C F.bare ss = some (d, o, fl) ∧ VO s.res s.ro d o ∧ Outs s.fin ds fs fl := by
  unfold ckSig at h
  rw [hF] at h
  simp only [Bool.and_eq_true, decide_eq_true_eq] at h
  obtain ⟨⟨h1, h2⟩, h3⟩ := h
  split at h3
  · cases h3
  · rename_i r hr
    simp only [Bool.and_eq_true] at h3
    obtain ⟨⟨⟨q1, q2⟩, q3⟩, q4⟩ := h3
    simp only [inferF, bind_some', map_some'] at hr
    obtain ⟨f, g1, rt, g2, r', g3, rfl⟩ := hr
    unfold pRun at k
    split at k
    · rename_i hl
      rw [bind_some'] at k
      obtain ⟨pf, k1, k2⟩ := k
      have a' := in_ok (re := F.re) a q4
      have R := pstart_ok a' (F.ns - F.re.length) ⟨.b, fO, false⟩
      obtain ⟨ef, i1, i2⟩ := simSs SF F.body g1 R k1
      have hls : ss.length = F.re.length := by rw [← a.len.2, h2]
      have run := run_eq hls i1
      have out : ∀ {A : AEn} {p : PEn} {e : En} {fs : List D}, Rel ds A p (e.take F.re.length) → pOut p 0 F.re ds = some fs → ∃ fl, outS e 0 F.re (inS F.re ss) = some fl ∧ Outs (aOut F.re (aIn F.re s.ps) A) ds fs fl := fun {A p e fs} R hp => by
        obtain ⟨fl, j1, j2⟩ := out_ok (A' := A) R F.re 0 a' (fun j => by simp) (fun j => by simp) hp
        exact ⟨fl, by rw [← outS_take (np := F.re.length) F.re 0 _ (Nat.le_of_eq (Nat.zero_add _))]; exact j1, j2⟩
      have last : ∀ {s' : Sh} {o' : Ob} {A : AEn} {w : Bool} {e : En} {p : PEn}, rt = some (s', o', A) → VO s' o' d w → Rel ds A p (e.take F.re.length) → pOut p 0 F.re ds = some fs → ∃ fl, outS e 0 F.re (inS F.re ss) = some fl ∧ VO s.res s.ro d w ∧ Outs s.fin ds fs fl := fun {s' o' A w e p} e1 v R hp => by
        subst e1
        cases g3
        obtain ⟨fl, j1, j2⟩ := out R hp
        simp only at q1 q2 q3
        rw [aOut_map] at q3
        exact ⟨fl, j1, v.le q1 q2, j2.mono q3⟩
      cases i2 with
      | @next A p e hn R1 =>
        simp only [map_some', Prod.mk.injEq] at k2
        obtain ⟨fs', k2, rfl, rfl⟩ := k2
        obtain ⟨s', o', A', e1, v, R2⟩ := jnR_r g2 (by rw [hn]; rfl) (show VO .i oT .none true from ⟨rfl, .inl rfl⟩) (R1.take F.re.length)
        obtain ⟨fl, j1, j2, j3⟩ := last e1 v R2 k2
        exact ⟨true, fl, by rw [run]; simp only [outFl, j1, Option.map_some], j2, j3⟩
      | @ret s' o' A d' w p e hr v R1 =>
        simp only [map_some', Prod.mk.injEq] at k2
        obtain ⟨fs', k2, rfl, rfl⟩ := k2
        obtain ⟨s'', o'', A', e1, v, R2⟩ := jnR_l g2 hr v R1
        obtain ⟨fl, j1, j2, j3⟩ := last e1 v R2 k2
        exact ⟨w, fl, by rw [run]; simp only [outFl, j1, Option.map_some], j2, j3⟩
      | brk => cases k2
      | cont => cases k2
    · cases k
theorem sem_ok {T : List Sig} {P : List PFn} (h : (T.all (ckSig T P)) = true) : ∀ k, SimF T (semF (P.map PFn.bare) k) (pSem P k)
  | 0 => fun s hs ds d fs hc => by cases hc
  | k + 1 => fun s hs ds d fs hc ss a => by
    simp only [pSem, bind_some'] at hc
    obtain ⟨F, hF, hc⟩ := hc
    obtain ⟨o, fl, i1, i2, i3⟩ := fn_ok (sem_ok h k) hF (List.all_eq_true.mp h s hs) a hc
    exact ⟨o, fl, by simp only [semF, List.getElem?_map, hF, Option.map_some, Option.bind_some, i1], i2, i3⟩
/-- a law without flags -/
theorem law_flags {T : List Sig} {P : List PFn} {k i : Nat} (h : (T.all (ckSig T P)) = true) (hs : ∃ s ∈ T, s.f = i ∧ aLe [⟨.l .i, fF, true⟩] s.ps = true) {ns : List Int} {fs : List D} (q : pSem P k i [.list (ns.map .int)] = some (.bool true, fs)) : ∃ o fin, semF (P.map PFn.bare) k i [⟨.list (ns.map .int), .frz⟩] = some (.bool true, o, fin) := by
  obtain ⟨s, hs, rfl, l⟩ := hs
  have a : Args [⟨.l .i, fF, true⟩] [.list (ns.map .int)] [⟨.list (ns.map .int), .frz⟩] := .cons ⟨_, rfl, fun x hx => by
    obtain ⟨n, _, rfl⟩ := List.mem_map.mp hx
    rfl⟩ rfl .nil
  obtain ⟨o, fl, i1, _, _⟩ := sem_ok h k s hs _ _ _ q _ (a.mono l)
  exact ⟨o, fl, i1⟩
end Ev
/-! Rules by which the small language without flags computes; printed by genR.py. -/
namespace Ev
open PySem

/-- one statement, then others -/
def pThen (o : Option PFlow) (k : PEn → Option PFlow) : Option PFlow := o.bind fun f => match f with
  | .next e => k e
  | .ret d p => some (.ret d p)
  | .brk e => some (.brk e)
  | .cont e => some (.cont e)
@[simp] theorem pThen_next (e : PEn) (k : PEn → Option PFlow) : pThen (some (.next e)) k = k e := rfl
@[simp] theorem pThen_ret (d : D) (e : PEn) (k : PEn → Option PFlow) : pThen (some (.ret d e)) k = some (.ret d e) := rfl
@[simp] theorem pThen_brk (e : PEn) (k : PEn → Option PFlow) : pThen (some (.brk e)) k = some (.brk e) := rfl
@[simp] theorem pThen_cont (e : PEn) (k : PEn → Option PFlow) : pThen (some (.cont e)) k = some (.cont e) := rfl
@[simp] theorem pThen_ite (c : Prop) [Decidable c] (a b : Option PFlow) (k : PEn → Option PFlow) : pThen (if c then a else b) k = if c then pThen a k else pThen b k := by split <;> rfl
/-- a def's end -/
def pEnd (re : List Bool) (as : List D) (o : Option PFlow) : Option (D × List D) := o.bind fun f => match f with
  | .ret d p => (pOut p 0 re as).map fun r => (d, r)
  | .next e => (pOut (e.take re.length) 0 re as).map fun r => (.none, r)
  | _ => none
@[simp] theorem pEnd_ret (re : List Bool) (as : List D) (d : D) (p : PEn) : pEnd re as (some (.ret d p)) = (pOut p 0 re as).map fun r => (d, r) := rfl
@[simp] theorem pEnd_next (re : List Bool) (as : List D) (p : PEn) : pEnd re as (some (.next p)) = (pOut (p.take re.length) 0 re as).map fun r => (.none, r) := rfl
@[simp] theorem pEnd_ite (re : List Bool) (as : List D) (c : Prop) [Decidable c] (a b : Option PFlow) : pEnd re as (if c then a else b) = if c then pEnd re as a else pEnd re as b := by split <;> rfl
theorem pRun_eq (C : PFS) (F : PFn) (as : List D) (h : as.length = F.re.length) : pRun C F as = pEnd F.re as (pSs C F.re.length F.body (as.map some ++ List.replicate (F.ns - F.re.length) none)) := by
  unfold pRun
  rw [if_pos h]
  unfold pEnd
  cases pSs C F.re.length F.body (as.map some ++ List.replicate (F.ns - F.re.length) none) with
  | none => rfl
  | some f => cases f <;> rfl
theorem pSem_eq (P : List PFn) (k f : Nat) (as : List D) {F : PFn} (h : P[f]? = some F) : pSem P (k + 1) f as = pRun (pSem P k) F as := by
  simp only [pSem, h, Option.bind_some]

@[simp] theorem getP_z (s : Option D) (e : PEn) : getP (s :: e) 0 = s := by cases s <;> rfl
@[simp] theorem getP_s (s : Option D) (e : PEn) (n : Nat) : getP (s :: e) (n + 1) = getP e n := rfl
@[simp] theorem putP_z (s : Option D) (e : PEn) (d : D) : putP (s :: e) 0 d = some d :: e := rfl
@[simp] theorem putP_s (s : Option D) (e : PEn) (n : Nat) (d : D) : putP (s :: e) (n + 1) d = s :: putP e n d := rfl
@[simp] theorem pStore_z (s : Option D) (e : PEn) (d : D) : pStore (s :: e) 0 d = some (some d :: e) := by simp [pStore]
@[simp] theorem pStore_s (s : Option D) (e : PEn) (n : Nat) (d : D) : pStore (s :: e) (n + 1) d = (pStore e n d).map (s :: ·) := by
  unfold pStore
  simp only [List.length_cons, Nat.add_lt_add_iff_right]
  split <;> rfl
@[simp] theorem pStoreAll_n (e : PEn) : pStoreAll e [] [] = some e := rfl
@[simp] theorem pStoreAll_c (e : PEn) (i : Nat) (is : List Nat) (d : D) (ds : List D) : pStoreAll e (i :: is) (d :: ds) = (pStore e i d).bind fun e => pStoreAll e is ds := rfl
@[simp] theorem pAssign_nm (e : PEn) (i : Nat) (d : D) : pAssign e (.nm i) d = pStore e i d := rfl
@[simp] theorem pAssign_tp (e : PEn) (is : List Nat) (ds : List D) : pAssign e (.tp is) (.tuple ds) = pStoreAll e is ds := rfl
@[simp] theorem pWipe_n (e : PEn) : pWipe e [] = e := rfl
@[simp] theorem pWipe_c (e : PEn) (i : Nat) (is : List Nat) : pWipe e (i :: is) = (pWipe e is).set i none := rfl
@[simp] theorem pFetchAll_n (e : PEn) : pFetchAll e [] = some [] := rfl
@[simp] theorem pFetchAll_t (e : PEn) (d : D) (os : List POd) : pFetchAll e (.tmp d :: os) = (pFetchAll e os).map fun ds => d :: ds := rfl
@[simp] theorem pFetchAll_s (e : PEn) (i : Nat) (os : List POd) : pFetchAll e (.slot i :: os) = (getP e i).bind fun d => (pFetchAll e os).map fun ds => d :: ds := rfl
@[simp] theorem pBack_n (e : PEn) : pBack e [] [] = some e := rfl
@[simp] theorem pBack_t (e : PEn) (d t : D) (os : List POd) (ts : List D) : pBack e (.tmp d :: os) (t :: ts) = pBack e os ts := rfl
@[simp] theorem pBack_s (e : PEn) (i : Nat) (t : D) (os : List POd) (ts : List D) : pBack e (.slot i :: os) (t :: ts) = pBack (putP e i t) os ts := rfl
@[simp] theorem pSm_v (e : PEn) (i : Nat) : pSm e (.var i) = getP e i := rfl
@[simp] theorem pSm_c (e : PEn) (d : D) : pSm e (.cst d) = some d := rfl
@[simp] theorem pSmAll_n (e : PEn) : pSmAll e [] = some [] := rfl
@[simp] theorem pSmAll_c (e : PEn) (x : Ex) (es : List Ex) : pSmAll e (x :: es) = (pSm e x).bind fun d => (pSmAll e es).map fun ds => d :: ds := rfl
@[simp] theorem pOut_n (e : PEn) (n : Nat) : pOut e n [] [] = some [] := rfl
@[simp] theorem pOut_t (e : PEn) (n : Nat) (re : List Bool) (a : D) (as : List D) : pOut e n (true :: re) (a :: as) = (pOut e (n + 1) re as).map fun r => a :: r := rfl
@[simp] theorem pOut_f (e : PEn) (n : Nat) (re : List Bool) (a : D) (as : List D) : pOut e n (false :: re) (a :: as) = (getP e n).bind fun d => (pOut e (n + 1) re as).map fun r => d :: r := rfl
@[simp] theorem if_tmp (c : Prop) [Decidable c] (d : D) (i : Nat) (e : PEn) (os : List POd) : pFetchAll e ((if c then POd.tmp d else POd.slot i) :: os) = if c then pFetchAll e (.tmp d :: os) else pFetchAll e (.slot i :: os) := by split <;> rfl

section
variable (C : PFS) (np : Nat)
@[simp] theorem pE_var (i : Nat) (env : PEn) : pE C (.var i) env = (getP env i).map fun d => (d, env) := rfl
@[simp] theorem pE_cst (d : D) (env : PEn) : pE C (.cst d) env = some (d, env) := rfl
@[simp] theorem pE_prim (p : Pm) (es : List Ex) (env : PEn) : pE C (.prim p es) env = (pOs C es env).bind fun q => (pFetchAll q.2 q.1).bind fun ds => (pm p ds).map fun r => (r, q.2) := rfl
@[simp] theorem pE_tup (es : List Ex) (env : PEn) : pE C (.tup es) env = (pOs C es env).bind fun q => (pFetchAll q.2 q.1).map fun ds => (.tuple ds, q.2) := rfl
@[simp] theorem pE_lst (es : List Ex) (env : PEn) : pE C (.lst es) env = (pOs C es env).bind fun q => (pFetchAll q.2 q.1).map fun ds => (.list ds, q.2) := rfl
@[simp] theorem pE_andE (a b : Ex) (env : PEn) : pE C (.andE a b) env = (pE C a env).bind fun r => (asB r.1).bind fun k =>
      if k then (pE C b r.2).bind fun r2 => (asB r2.1).map fun k2 => (.bool k2, r2.2) else some (.bool false, r.2) := rfl
@[simp] theorem pE_orE (a b : Ex) (env : PEn) : pE C (.orE a b) env = (pE C a env).bind fun r => (asB r.1).bind fun k =>
      if k then some (.bool true, r.2) else (pE C b r.2).bind fun r2 => (asB r2.1).map fun k2 => (.bool k2, r2.2) := rfl
@[simp] theorem pE_notE (a : Ex) (env : PEn) : pE C (.notE a) env = (pE C a env).bind fun r => (asB r.1).map fun k => (.bool (!k), r.2) := rfl
@[simp] theorem pE_ite (c a b : Ex) (env : PEn) : pE C (.ite c a b) env = (pE C c env).bind fun r => (asB r.1).bind fun k => if k then pE C a r.2 else pE C b r.2 := rfl
@[simp] theorem pE_chain (p q : Pm) (a b c : Ex) (env : PEn) : pE C (.chain p q a b c) env = (pE C a env).bind fun ra => (pE C b ra.2).bind fun rb =>
      (pm p [ra.1, rb.1]).bind fun k => (asB k).bind fun k => if k then (pE C c rb.2).bind fun rc =>
        (pm q [rb.1, rc.1]).bind fun k2 => (asB k2).map fun k2 => (.bool k2, rc.2)
      else some (.bool false, rb.2) := rfl
@[simp] theorem pE_call (f : Nat) (es : List Ex) (env : PEn) : pE C (.call f es) env = (pOs C es env).bind fun q => (pFetchAll q.2 q.1).bind fun as => (C f as).bind fun r => (pBack q.2 q.1 r.2).map fun e => (r.1, e) := rfl
@[simp] theorem pE_meth (m : Mm) (i : Nat) (es : List Ex) (env : PEn) : pE C (.meth m i es) env = (getP env i).bind fun _ => (pOs C es env).bind fun q => (pFetchAll q.2 q.1).bind fun vs => (getP q.2 i).bind fun d => (asL d).bind fun xs =>
      (change m xs vs).map fun w => (w.1, putP q.2 i (.list w.2)) := rfl
@[simp] theorem pE_methAt (m : Mm) (i : Nat) (k : Ex) (es : List Ex) (env : PEn) : pE C (.methAt m i k es) env = (pSm env k).bind fun dk => (pSmAll env es).bind fun as => (getP env i).bind fun d => (getK (keyE k) d dk).bind fun l => (asL l).bind fun xs =>
      (change m xs as).bind fun w => (putIn (keyE k) d dk (.list w.2)).map fun d' => (w.1, putP env i d') := rfl
@[simp] theorem pE_lenAt (p : Pm) (i : Nat) (k : Ex) (env : PEn) : pE C (.lenAt p i k) env = (pSm env k).bind fun dk => (getP env i).bind fun d => (getK (keyE k) d dk).bind fun d => (pm1 p d).map fun r => (r, env) := rfl
@[simp] theorem pE_dictS (ks : List Str) (es : List Ex) (env : PEn) : pE C (.dictS ks es) env = (pOs C es env).bind fun q => (pFetchAll q.2 q.1).bind fun ds =>
      if ks.Nodup ∧ ks.length ≤ 15 ∧ ks.length = es.length then some (.dict ((ks.map .str).zip ds), q.2) else none := rfl
theorem pE_comp (elt : Ex) (tg : Tg) (k : Ik) (its ifs : List Ex) (own : List Nat) (env : PEn) : pE C (.comp elt tg k its ifs own) env = (pOs C its env).bind fun q => (pFetchAll q.2 q.1).bind fun ds => (itemsOf k ds).bind fun xs =>
      if xs.length < big then (pComp tg own (pTs C ifs) (pE C elt) xs q.2).map fun z => (.list z.1, pWipe z.2 own) else none := rfl
theorem pE_sortk (es : List Ex) (rg : Bool) (v : Nat) (body : Ex) (env : PEn) : pE C (.sortk es rg v body) env = (pOs C es env).bind fun q => (pFetchAll q.2 q.1).bind fun ds => (itemsOf (if rg then .rng1 else .seq) ds).bind fun xs =>
      (pKeys v (pE C body) q.2 xs).bind fun ks => if sortOk (ks.map (·.2)) then some (.list (sortKD ks), q.2) else none := rfl
@[simp] theorem pOs_n (env : PEn) : pOs C [] env = some ([], env) := rfl
@[simp] theorem pOs_v (i : Nat) (es : List Ex) (env : PEn) : pOs C (.var i :: es) env = (getP env i).bind fun d => (pOs C es env).map fun q => ((if imm d then .tmp d else .slot i) :: q.1, q.2) := rfl
@[simp] theorem pOs_cst (d : D) (es : List Ex) (env : PEn) : pOs C (.cst d :: es) env = (pE C (.cst d) env).bind fun r => (pOs C es r.2).map fun q => (.tmp r.1 :: q.1, q.2) := rfl
@[simp] theorem pOs_prim (p : Pm) (as : List Ex) (es : List Ex) (env : PEn) : pOs C (.prim p as :: es) env = (pE C (.prim p as) env).bind fun r => (pOs C es r.2).map fun q => (.tmp r.1 :: q.1, q.2) := rfl
@[simp] theorem pOs_tup (as : List Ex) (es : List Ex) (env : PEn) : pOs C (.tup as :: es) env = (pE C (.tup as) env).bind fun r => (pOs C es r.2).map fun q => (.tmp r.1 :: q.1, q.2) := rfl
@[simp] theorem pOs_lst (as : List Ex) (es : List Ex) (env : PEn) : pOs C (.lst as :: es) env = (pE C (.lst as) env).bind fun r => (pOs C es r.2).map fun q => (.tmp r.1 :: q.1, q.2) := rfl
@[simp] theorem pOs_andE (a b : Ex) (es : List Ex) (env : PEn) : pOs C (.andE a b :: es) env = (pE C (.andE a b) env).bind fun r => (pOs C es r.2).map fun q => (.tmp r.1 :: q.1, q.2) := rfl
@[simp] theorem pOs_orE (a b : Ex) (es : List Ex) (env : PEn) : pOs C (.orE a b :: es) env = (pE C (.orE a b) env).bind fun r => (pOs C es r.2).map fun q => (.tmp r.1 :: q.1, q.2) := rfl
@[simp] theorem pOs_notE (a : Ex) (es : List Ex) (env : PEn) : pOs C (.notE a :: es) env = (pE C (.notE a) env).bind fun r => (pOs C es r.2).map fun q => (.tmp r.1 :: q.1, q.2) := rfl
@[simp] theorem pOs_ite (c a b : Ex) (es : List Ex) (env : PEn) : pOs C (.ite c a b :: es) env = (pE C (.ite c a b) env).bind fun r => (pOs C es r.2).map fun q => (.tmp r.1 :: q.1, q.2) := rfl
@[simp] theorem pOs_chain (p q : Pm) (a b c : Ex) (es : List Ex) (env : PEn) : pOs C (.chain p q a b c :: es) env = (pE C (.chain p q a b c) env).bind fun r => (pOs C es r.2).map fun q => (.tmp r.1 :: q.1, q.2) := rfl
@[simp] theorem pOs_call (f : Nat) (as : List Ex) (es : List Ex) (env : PEn) : pOs C (.call f as :: es) env = (pE C (.call f as) env).bind fun r => (pOs C es r.2).map fun q => (.tmp r.1 :: q.1, q.2) := rfl
@[simp] theorem pOs_comp (elt : Ex) (tg : Tg) (k : Ik) (its ifs : List Ex) (own : List Nat) (es : List Ex) (env : PEn) : pOs C (.comp elt tg k its ifs own :: es) env = (pE C (.comp elt tg k its ifs own) env).bind fun r => (pOs C es r.2).map fun q => (.tmp r.1 :: q.1, q.2) := rfl
@[simp] theorem pOs_sortk (as : List Ex) (rg : Bool) (v : Nat) (b : Ex) (es : List Ex) (env : PEn) : pOs C (.sortk as rg v b :: es) env = (pE C (.sortk as rg v b) env).bind fun r => (pOs C es r.2).map fun q => (.tmp r.1 :: q.1, q.2) := rfl
@[simp] theorem pOs_meth (m : Mm) (i : Nat) (as : List Ex) (es : List Ex) (env : PEn) : pOs C (.meth m i as :: es) env = (pE C (.meth m i as) env).bind fun r => (pOs C es r.2).map fun q => (.tmp r.1 :: q.1, q.2) := rfl
@[simp] theorem pOs_methAt (m : Mm) (i : Nat) (k : Ex) (as : List Ex) (es : List Ex) (env : PEn) : pOs C (.methAt m i k as :: es) env = (pE C (.methAt m i k as) env).bind fun r => (pOs C es r.2).map fun q => (.tmp r.1 :: q.1, q.2) := rfl
@[simp] theorem pOs_lenAt (p : Pm) (i : Nat) (k : Ex) (es : List Ex) (env : PEn) : pOs C (.lenAt p i k :: es) env = (pE C (.lenAt p i k) env).bind fun r => (pOs C es r.2).map fun q => (.tmp r.1 :: q.1, q.2) := rfl
@[simp] theorem pOs_dictS (ks : List Str) (as : List Ex) (es : List Ex) (env : PEn) : pOs C (.dictS ks as :: es) env = (pE C (.dictS ks as) env).bind fun r => (pOs C es r.2).map fun q => (.tmp r.1 :: q.1, q.2) := rfl
@[simp] theorem pTs_n (env : PEn) : pTs C [] env = some (true, env) := rfl
@[simp] theorem pTs_c (c : Ex) (cs : List Ex) (env : PEn) : pTs C (c :: cs) env = (pE C c env).bind fun r => (asB r.1).bind fun k => if k then pTs C cs r.2 else some (false, r.2) := rfl
@[simp] theorem pEs_n (env : PEn) : pEs C [] env = some ([], env) := rfl
@[simp] theorem pEs_c (e : Ex) (es : List Ex) (env : PEn) : pEs C (e :: es) env = (pE C e env).bind fun r => (pEs C es r.2).map fun q => (r.1 :: q.1, q.2) := rfl
@[simp] theorem pCd_eq (c : Ex) (env : PEn) : pCd C c env = (pE C c env).bind fun r => (asB r.1).map fun k => (k, r.2) := rfl
@[simp] theorem pT_asg (t : Tg) (e : Ex) (env : PEn) : pT C np (.asg t e) env = (pE C e env).bind fun r => (pAssign r.2 t r.1).map .next := rfl
@[simp] theorem pT_par (ts : List Nat) (es : List Ex) (env : PEn) : pT C np (.par ts es) env = (pEs C es env).bind fun q => (pStoreAll q.2 ts q.1).map .next := rfl
@[simp] theorem pT_setAt (i : Nat) (k e : Ex) (env : PEn) : pT C np (.setAt i k e) env = (pE C e env).bind fun r => (pSm r.2 k).bind fun dk => (getP r.2 i).bind fun d =>
      (putIn (keyE k) d dk r.1).map fun d' => .next (putP r.2 i d') := rfl
@[simp] theorem pT_augAt (i : Nat) (k e : Ex) (env : PEn) : pT C np (.augAt i k e) env = (pSm env k).bind fun dk => (getP env i).bind fun d0 => (getK false d0 dk).bind fun o => (asI o).bind fun n => (pE C e env).bind fun r => (asI r.1).bind fun m => (getP r.2 i).bind fun d =>
      (putIn false d dk (.int (n + m))).map fun d' => .next (putP r.2 i d') := rfl
@[simp] theorem pT_augL (i : Nat) (e : Ex) (env : PEn) : pT C np (.augL i e) env = (getP env i).bind fun d => (asI d).bind fun n => (pE C e env).bind fun r => (asI r.1).bind fun m => (pStore r.2 i (.int (n + m))).map .next := rfl
@[simp] theorem pT_ex (e : Ex) (env : PEn) : pT C np (.ex e) env = (pE C e env).map fun r => .next r.2 := rfl
@[simp] theorem pT_ret (e : Ex) (env : PEn) : pT C np (.ret e) env = (pE C e env).map fun r => .ret r.1 (r.2.take np) := rfl
@[simp] theorem pT_retN (env : PEn) : pT C np .retN env = some (.ret .none (env.take np)) := rfl
@[simp] theorem pT_brk (env : PEn) : pT C np .brk env = some (.brk env) := rfl
@[simp] theorem pT_cont (env : PEn) : pT C np .cont env = some (.cont env) := rfl
@[simp] theorem pT_pass (env : PEn) : pT C np .pass env = some (.next env) := rfl
@[simp] theorem pS_s (t : St) (env : PEn) : pS C np (.s t) env = pT C np t env := rfl
@[simp] theorem pS_ite (c : Ex) (a b : List PSt) (env : PEn) : pS C np (.ite c a b) env = (pCd C c env).bind fun q => if q.1 then pSs C np a q.2 else pSs C np b q.2 := rfl
@[simp] theorem pS_whl (c : Ex) (b : List PSt) (env : PEn) : pS C np (.whl c b) env = pWhile (pCd C c) (pSs C np b) fuel env := rfl
@[simp] theorem pS_for (t : Tg) (k : Ik) (its : List Ex) (b : List PSt) (env : PEn) : pS C np (.for t k its b) env = (pOs C its env).bind fun q => (pFetchAll q.2 q.1).bind fun ds => (itemsOf k ds).bind fun xs => pFor t (pSs C np b) xs q.2 := rfl
@[simp] theorem pS_wipe (is : List Nat) (env : PEn) : pS C np (.wipe is) env = some (.next (pWipe env is)) := rfl
@[simp] theorem pSs_n (env : PEn) : pSs C np [] env = some (.next env) := rfl
@[simp] theorem pSs_c (s : PSt) (ss : List PSt) (env : PEn) : pSs C np (s :: ss) env = pThen (pS C np s env) (pSs C np ss) := rfl
end

@[simp] theorem ite_pair {c : Prop} [Decidable c] (x y : D) (e : PEn) : (if c then some (x, e) else some (y, e)) = some (if c then x else y, e) := by split <;> rfl
@[simp] theorem ite_boolD {c : Prop} [Decidable c] (a b : Bool) : (if c then PyData.bool a else PyData.bool b) = .bool (if c then a else b) := by split <;> rfl
@[simp] theorem ite_intD {c : Prop} [Decidable c] (a b : Int) : (if c then PyData.int a else PyData.int b) = .int (if c then a else b) := by split <;> rfl
@[simp] theorem ite_bool_pair (k : Bool) (e : PEn) : (if k = true then some (true, e) else some (false, e)) = some (k, e) := by cases k <;> rfl
@[simp] theorem ite_decide_pair {c : Prop} [Decidable c] (e : PEn) : (if c then some (true, e) else some (false, e)) = some (decide c, e) := by split <;> simp [*]
@[simp] theorem keyE_str (x : Str) : keyE (.cst (.str x)) = true := rfl
@[simp] theorem keyE_int (x : Int) : keyE (.cst (.int x)) = false := rfl
@[simp] theorem keyE_var (x : Nat) : keyE (.var x) = false := rfl
@[simp] theorem getK_t (d k : D) : getK true d k = pIdxD d k := rfl
@[simp] theorem getK_f (d k : D) : getK false d k = pIdx d k := rfl
@[simp] theorem putIn_f (xs : List D) (i : Int) (v : D) : putIn false (.list xs) (.int i) v = (putAt xs i v).map .list := rfl
@[simp] theorem imm_none : imm .none = true := rfl
@[simp] theorem imm_bool (b : Bool) : imm (.bool b) = true := rfl
@[simp] theorem imm_int (i : Int) : imm (.int i) = true := rfl
@[simp] theorem imm_str (x : Str) : imm (.str x) = true := rfl
@[simp] theorem imm_tuple (xs : List D) : imm (.tuple xs) = immAll xs := rfl
@[simp] theorem imm_list (xs : List D) : imm (.list xs) = false := rfl
@[simp] theorem imm_dict (xs : List (D × D)) : imm (.dict xs) = false := rfl
@[simp] theorem immAll_nil : immAll [] = true := rfl
@[simp] theorem immAll_cons (x : D) (xs : List D) : immAll (x :: xs) = (imm x && immAll xs) := rfl
@[simp] theorem immAll_app : ∀ xs ys : List D, immAll (xs ++ ys) = (immAll xs && immAll ys)
  | [], ys => rfl
  | x :: xs, ys => by rw [List.cons_append, immAll_cons, immAll_cons, immAll_app xs ys, Bool.and_assoc]
@[simp] theorem immAll_ints : ∀ ns : List Int, immAll (ns.map PyData.int) = true
  | [] => rfl
  | n :: ns => by rw [List.map_cons, immAll_cons, immAll_ints ns]; rfl
@[simp] theorem guardO_true {α : Type} (d : α) : guardO true d = some d := rfl
@[simp] theorem guardO_false {α : Type} (d : α) : guardO false d = none := rfl
@[simp] theorem asI_int (i : Int) : asI (.int i) = some i := rfl
@[simp] theorem asB_bool (i : Bool) : asB (.bool i) = some i := rfl
@[simp] theorem asL_list (xs : List D) : asL (.list xs) = some xs := rfl
@[simp] theorem seqOf_list (xs : List D) : seqOf (.list xs) = some xs := rfl
@[simp] theorem seqOf_tuple (xs : List D) : seqOf (.tuple xs) = some xs := rfl
@[simp] theorem pm_add (a b : D) : pm .add [a, b] = pAdd a b := rfl
@[simp] theorem pAdd_i (i j : Int) : pAdd (.int i) (.int j) = some (.int (i + j)) := rfl
@[simp] theorem pAdd_l (xs ys : List D) : pAdd (.list xs) (.list ys) = guardO (decide (xs.length + ys.length ≤ big)) (.list (xs ++ ys)) := rfl
@[simp] theorem pAdd_t (xs ys : List D) : pAdd (.tuple xs) (.tuple ys) = guardO (decide (xs.length + ys.length ≤ big)) (.tuple (xs ++ ys)) := rfl
@[simp] theorem pm_sub (i j : Int) : pm .sub [.int i, .int j] = some (.int (i - j)) := rfl
@[simp] theorem pm_mul (a b : D) : pm .mul [a, b] = pMul a b := rfl
@[simp] theorem pMul_i (i j : Int) : pMul (.int i) (.int j) = guardO (mulOk i j) (.int (i * j)) := rfl
@[simp] theorem pMul_l (xs : List D) (k : Int) : pMul (.list xs) (.int k) = guardO (decide (xs.length * k.toNat ≤ big) && decide (k.natAbs ≤ big)) (.list (repL k xs)) := rfl
@[simp] theorem pMul_t (xs : List D) (k : Int) : pMul (.tuple xs) (.int k) = guardO (decide (xs.length ≤ 1000) && decide (-1000 ≤ k) && decide (k ≤ 1000)) (.tuple (repL k xs)) := rfl
@[simp] theorem pm_fdiv (i j : Int) : pm .fdiv [.int i, .int j] = guardO (decide (0 < j) && decide (j < 1073741824)) (.int (i / j)) := rfl
@[simp] theorem pm_mod (i j : Int) : pm .mod [.int i, .int j] = guardO (decide (0 < j)) (.int (i % j)) := rfl
@[simp] theorem pm_lt (i j : Int) : pm .lt [.int i, .int j] = some (.bool (decide (i < j))) := rfl
@[simp] theorem pm_le (i j : Int) : pm .le [.int i, .int j] = some (.bool (decide (i ≤ j))) := rfl
@[simp] theorem pm_gt (i j : Int) : pm .gt [.int i, .int j] = some (.bool (decide (j < i))) := rfl
@[simp] theorem pm_ge (i j : Int) : pm .ge [.int i, .int j] = some (.bool (decide (j ≤ i))) := rfl
@[simp] theorem pm_max2 (i j : Int) : pm .max2 [.int i, .int j] = some (.int (if j > i then j else i)) := rfl
@[simp] theorem pm_min2 (i j : Int) : pm .min2 [.int i, .int j] = some (.int (if j < i then j else i)) := rfl
@[simp] theorem pm_idxD (a b : D) : pm .idxD [a, b] = pIdxD a b := rfl
@[simp] theorem pm_idx (a b : D) : pm .idx [a, b] = pIdx a b := rfl
@[simp] theorem pm_eq (a b : D) : pm .eq [a, b] = (pEq a b).map .bool := rfl
@[simp] theorem pm_ne (a b : D) : pm .ne [a, b] = (pEq a b).map fun k => .bool (!k) := rfl
@[simp] theorem pm_isin (a b : D) : pm .isin [a, b] = (pIn a b).map .bool := rfl
@[simp] theorem pm_notin (a b : D) : pm .notin [a, b] = (pIn a b).map fun k => .bool (!k) := rfl
@[simp] theorem pm_slLo (a : D) (i : Int) : pm .slLo [a, .int i] = pSlice a (some i) none := rfl
@[simp] theorem pm_slHi (a : D) (i : Int) : pm .slHi [a, .int i] = pSlice a none (some i) := rfl
@[simp] theorem pm_slLoHi (a : D) (i j : Int) : pm .slLoHi [a, .int i, .int j] = pSlice a (some i) (some j) := rfl
@[simp] theorem pSlice_l (xs : List D) (lo hi : Option Int) : pSlice (.list xs) lo hi = some (.list (cutL xs lo hi)) := rfl
@[simp] theorem pSlice_t (xs : List D) (lo hi : Option Int) : pSlice (.tuple xs) lo hi = some (.tuple (cutL xs lo hi)) := rfl
@[simp] theorem pm_rev (xs : List D) : pm .rev [.list xs] = some (.list xs.reverse) := rfl
@[simp] theorem pm_int (i : Int) : pm .int [.int i] = some (.int i) := rfl
@[simp] theorem pm_intB (b : Bool) : pm .int [.bool b] = some (.int (if b then 1 else 0)) := rfl
@[simp] theorem pm_abs (i : Int) : pm .abs [.int i] = some (.int (if i < 0 then -i else i)) := rfl
@[simp] theorem pm_neg (i : Int) : pm .neg [.int i] = some (.int (-i)) := rfl
@[simp] theorem pm_isN (a : D) : pm .isN [a] = some (.bool (isNone a)) := rfl
@[simp] theorem pm_notN (a : D) : pm .notN [a] = some (.bool (!isNone a)) := rfl
@[simp] theorem isNone_none : isNone .none = true := rfl
@[simp] theorem isNone_tuple (xs : List D) : isNone (.tuple xs) = false := rfl
@[simp] theorem isNone_list (xs : List D) : isNone (.list xs) = false := rfl
@[simp] theorem isNone_int (x : Int) : isNone (.int x) = false := rfl
@[simp] theorem pm_lenL (xs : List D) : pm .len [.list xs] = some (.int xs.length) := rfl
@[simp] theorem pm_lenT (xs : List D) : pm .len [.tuple xs] = some (.int xs.length) := rfl
@[simp] theorem pm1_lenL (xs : List D) : pm1 .len (.list xs) = some (.int xs.length) := rfl
@[simp] theorem pm1_lenT (xs : List D) : pm1 .len (.tuple xs) = some (.int xs.length) := rfl
@[simp] theorem pm_repr (a : D) : pm .repr [a] = pRepr a := rfl
@[simp] theorem pm_tup (a : D) : pm .tupleOf [a] = (seqOf a).map .tuple := rfl
@[simp] theorem pm_listOfL (xs : List D) : pm .listOf [.list xs] = some (.list xs) := rfl
@[simp] theorem pm_listOfT (xs : List D) : pm .listOf [.tuple xs] = some (.list xs) := rfl
@[simp] theorem pm_sum (a : D) : pm .sum [a] = (seqOf a).bind fun xs => (intsOf xs).map fun ns => .int ns.sum := rfl
@[simp] theorem pm_maxL (a : D) : pm .maxL [a] = (seqOf a).bind fun xs => (intsOf xs).bind fun ns => match ns with
    | n :: r => some (.int (maxI n r))
    | [] => none := rfl
@[simp] theorem pm_minL (a : D) : pm .minL [a] = (seqOf a).bind fun xs => (intsOf xs).bind fun ns => match ns with
    | n :: r => some (.int (minI n r))
    | [] => none := rfl
@[simp] theorem pm_sorted (a : D) : pm .sorted [a] = (seqOf a).bind fun xs => guardO (sortOk xs) (.list (sortD false xs)) := rfl
@[simp] theorem pm_sortedR (a : D) : pm .sortedR [a] = (seqOf a).bind fun xs => guardO (sortOk xs) (.list (sortD true xs)) := rfl
@[simp] theorem pm_listRg (n : Int) : pm .listRg [.int n] = guardO (rgOk 0 n) (.list (rangeD 0 n)) := rfl
@[simp] theorem pm_listRg2 (i j : Int) : pm .listRg2 [.int i, .int j] = guardO (rgOk i j) (.list (rangeD i j)) := rfl
@[simp] theorem pm_tupRg (n : Int) : pm .tupRg [.int n] = guardO (rgOk 0 n) (.tuple (rangeD 0 n)) := rfl
@[simp] theorem items_seq (a : D) : itemsOf .seq [a] = seqOf a := rfl
@[simp] theorem items_rng1 (n : Int) : itemsOf .rng1 [.int n] = guardO (rgOk 0 n) (rangeD 0 n) := rfl
@[simp] theorem items_rng2 (i j : Int) : itemsOf .rng2 [.int i, .int j] = guardO (rgOk i j) (rangeD i j) := rfl
@[simp] theorem items_enum (a : D) : itemsOf .enum [a] = (seqOf a).map (enumFrom 0) := rfl
@[simp] theorem items_zipL (xs ys : List D) : itemsOf .zip [.list xs, .list ys] = some (zipD xs ys) := rfl
@[simp] theorem items_zipT (xs ys : List D) : itemsOf .zip [.tuple xs, .tuple ys] = some (zipD xs ys) := rfl
@[simp] theorem items_zipLT (xs ys : List D) : itemsOf .zip [.list xs, .tuple ys] = some (zipD xs ys) := rfl
@[simp] theorem items_zipTL (xs ys : List D) : itemsOf .zip [.tuple xs, .list ys] = some (zipD xs ys) := rfl
@[simp] theorem items_rev (a : D) : itemsOf .rev [a] = (seqOf a).map List.reverse := rfl
@[simp] theorem change_append (xs : List D) (a : D) : change .append xs [a] = guardO (decide (xs.length < big)) (.none, xs ++ [a]) := rfl
@[simp] theorem change_extend (xs ys : List D) : change .extend xs [.list ys] = guardO (decide (xs.length + ys.length ≤ big)) (.none, xs ++ ys) := rfl
@[simp] theorem change_popLast (xs : List D) : change .popLast xs [] = xs.getLast?.map fun z => (z, xs.dropLast) := rfl
@[simp] theorem change_popAt (xs : List D) (k : Int) : change .popAt xs [.int k] = if 0 ≤ k ∧ k ≤ 1000000 then xs[k.toNat]?.map fun z => (z, xs.eraseIdx k.toNat) else none := rfl
end Ev
/-! Typed data, and what the primitives say of them; loops in plain words. -/
namespace Ev
open PySem

/-- pairs of numbers, lists, tuples -/
def pD (p : Int × Int) : D := .tuple [.int p.1, .int p.2]
def lD {α : Type} (f : α → D) (xs : List α) : D := .list (xs.map f)
def tD {α : Type} (f : α → D) (xs : List α) : D := .tuple (xs.map f)
class Pd {α : Type} [DecidableEq α] (f : α → D) (n : outParam Nat) : Prop where
  eqv : ∀ a b, PyData.eqv (f a) (f b) = decide (a = b)
  chk : ∀ a m, n ≤ m → Ev.chk m (f a) = true
instance : Pd PyData.int 0 where
  eqv a b := by simp only [PyData.eqv]; exact PySem.W.beq_decide a b
  chk a m _ := by cases m <;> rfl
instance : Pd PyData.bool 0 where
  eqv a b := by simp only [PyData.eqv]; exact PySem.W.beq_decide a b
  chk a m _ := by cases m <;> rfl
theorem chkAll_map {α : Type} [DecidableEq α] {f : α → D} {n : Nat} [Pd f n] (m : Nat) (h : n ≤ m) : ∀ xs : List α, chkAll m (xs.map f) = true
  | [] => by simp [chkAll]
  | x :: xs => by
    rw [List.map_cons, chkAll, Pd.chk x m h, chkAll_map m h xs]
    rfl
theorem eqvAll_map {α : Type} [DecidableEq α] {f : α → D} {n : Nat} [Pd f n] : ∀ xs ys : List α, PyData.eqvAll (xs.map f) (ys.map f) = decide (xs = ys)
  | [], [] => by simp [PyData.eqvAll]
  | [], y :: ys => by simp [PyData.eqvAll]
  | x :: xs, [] => by simp [PyData.eqvAll]
  | x :: xs, y :: ys => by
    rw [List.map_cons, List.map_cons, PyData.eqvAll, Pd.eqv, eqvAll_map xs ys, ← Bool.decide_and]
    exact decide_eq_decide.mpr (by simp)
instance {α : Type} [DecidableEq α] {f : α → D} {n : Nat} [Pd f n] : Pd (lD f) (n + 1) where
  eqv a b := by simp only [lD, PyData.eqv]; exact eqvAll_map a b
  chk a m h := by
    obtain ⟨m, rfl⟩ : ∃ k, m = k + 1 := ⟨m - 1, by omega⟩
    exact chkAll_map m (by omega) a
instance {α : Type} [DecidableEq α] {f : α → D} {n : Nat} [Pd f n] : Pd (tD f) (n + 1) where
  eqv a b := by simp only [tD, PyData.eqv]; exact eqvAll_map a b
  chk a m h := by
    obtain ⟨m, rfl⟩ : ∃ k, m = k + 1 := ⟨m - 1, by omega⟩
    exact chkAll_map m (by omega) a
instance : Pd pD 1 where
  eqv a b := by
    simp only [pD, PyData.eqv, PyData.eqvAll]
    rw [PySem.W.beq_decide, PySem.W.beq_decide, Bool.and_true, ← Bool.decide_and]
    exact decide_eq_decide.mpr ⟨fun h => Prod.ext h.1 h.2, fun h => by rw [h]; exact ⟨rfl, rfl⟩⟩
  chk a m h := by
    obtain ⟨m, rfl⟩ : ∃ k, m = k + 1 := ⟨m - 1, by omega⟩
    cases m <;> rfl
section
variable {α : Type} [DecidableEq α] {f : α → D} {n : Nat} [Pd f n]
theorem pEq_pd (h : n ≤ 20) (a b : α) : pEq (f a) (f b) = some (decide (a = b)) := by
  unfold pEq
  rw [Pd.chk a 20 h, Pd.chk b 20 h, Pd.eqv]
  rfl
theorem any_eqv {α : Type} [DecidableEq α] {f : α → D} {n : Nat} [i : Pd f n] (a : α) : ∀ xs : List α, ((xs.map f).any fun z => PyData.eqv z (f a)) = decide (a ∈ xs)
  | [] => by simp
  | x :: xs => by
    rw [List.map_cons, List.any_cons, i.eqv, any_eqv a xs, ← Bool.decide_or]
    exact decide_eq_decide.mpr (by simp [eq_comm])
theorem pIn_pdL (h : n ≤ 20) (a : α) (xs : List α) : pIn (f a) (.list (xs.map f)) = some (decide (a ∈ xs)) := by
  unfold pIn
  rw [seqOf_list, Option.bind_some, Pd.chk a 20 h, chkAll_map 20 h, any_eqv]
  rfl
theorem pIn_pdT (h : n ≤ 20) (a : α) (xs : List α) : pIn (f a) (.tuple (xs.map f)) = some (decide (a ∈ xs)) := by
  unfold pIn
  rw [seqOf_tuple, Option.bind_some, Pd.chk a 20 h, chkAll_map 20 h, any_eqv]
  rfl
end
@[simp] theorem pEq_i (a b : Int) : pEq (.int a) (.int b) = some (decide (a = b)) := pEq_pd (by decide) a b
@[simp] theorem pEq_b (a b : Bool) : pEq (.bool a) (.bool b) = some (decide (a = b)) := pEq_pd (by decide) a b
@[simp] theorem pEq_p (a b c d : Int) : pEq (.tuple [.int a, .int b]) (.tuple [.int c, .int d]) = some (decide (a = c ∧ b = d)) := by
  have := pEq_pd (f := pD) (by decide) (a, b) (c, d)
  simpa [pD] using this
@[simp] theorem pEq_pD (a b : Int × Int) : pEq (pD a) (pD b) = some (decide (a = b)) := pEq_pd (by decide) a b
@[simp] theorem pEq_pD2 (a : Int × Int) (c d : Int) : pEq (pD a) (.tuple [.int c, .int d]) = some (decide (a = (c, d))) := pEq_pd (f := pD) (by decide) a (c, d)
@[simp] theorem pEq_pD3 (a : Int × Int) (c d : Int) : pEq (.tuple [.int c, .int d]) (pD a) = some (decide ((c, d) = a)) := pEq_pd (f := pD) (by decide) (c, d) a
@[simp] theorem pEq_li (xs ys : List Int) : pEq (.list (xs.map .int)) (.list (ys.map .int)) = some (decide (xs = ys)) := pEq_pd (f := lD .int) (by decide) xs ys
@[simp] theorem pEq_ti (xs ys : List Int) : pEq (.tuple (xs.map .int)) (.tuple (ys.map .int)) = some (decide (xs = ys)) := pEq_pd (f := tD .int) (by decide) xs ys
@[simp] theorem pEq_li0 (xs : List Int) : pEq (.list (xs.map .int)) (.list []) = some (decide (xs = [])) := pEq_pd (f := lD .int) (by decide) xs []
@[simp] theorem pEq_ti0 (xs : List Int) : pEq (.tuple (xs.map .int)) (.tuple []) = some (decide (xs = [])) := pEq_pd (f := tD .int) (by decide) xs []
@[simp] theorem pEq_lp (xs ys : List (Int × Int)) : pEq (.list (xs.map pD)) (.list (ys.map pD)) = some (decide (xs = ys)) := pEq_pd (f := lD pD) (by decide) xs ys
@[simp] theorem pEq_lp0 (xs : List (Int × Int)) : pEq (.list (xs.map pD)) (.list []) = some (decide (xs = [])) := pEq_pd (f := lD pD) (by decide) xs []
@[simp] theorem pEq_tp (xs ys : List (Int × Int)) : pEq (.tuple (xs.map pD)) (.tuple (ys.map pD)) = some (decide (xs = ys)) := pEq_pd (f := tD pD) (by decide) xs ys
@[simp] theorem pEq_tp0 (xs : List (Int × Int)) : pEq (.tuple (xs.map pD)) (.tuple []) = some (decide (xs = [])) := pEq_pd (f := tD pD) (by decide) xs []
@[simp] theorem pEq_00 : pEq (.list []) (.list []) = some true := pEq_pd (f := lD .int) (by decide) [] []
@[simp] theorem pEq_ci0 (d : Int) (xs : List Int) : pEq (.list (.int d :: xs.map .int)) (.list []) = some false := pEq_pd (f := lD .int) (by decide) (d :: xs) []
@[simp] theorem pEq_cp0 (d : Int × Int) (xs : List (Int × Int)) : pEq (.list (pD d :: xs.map pD)) (.list []) = some false := pEq_pd (f := lD pD) (by decide) (d :: xs) []
@[simp] theorem pEq_t00 : pEq (.tuple []) (.tuple []) = some true := pEq_pd (f := tD .int) (by decide) [] []
@[simp] theorem pIdx_l0 (x : D) (xs : List D) : pIdx (.list (x :: xs)) (.int 0) = some x := by simp [pIdx, atIx]
@[simp] theorem pIn_il (a : Int) (xs : List Int) : pIn (.int a) (.list (xs.map .int)) = some (decide (a ∈ xs)) := pIn_pdL (f := .int) (by decide) a xs
@[simp] theorem pIn_it (a : Int) (xs : List Int) : pIn (.int a) (.tuple (xs.map .int)) = some (decide (a ∈ xs)) := pIn_pdT (f := .int) (by decide) a xs
@[simp] theorem pIn_it1 (a b : Int) : pIn (.int a) (.tuple [.int b]) = some (decide (a = b)) := by
  have := pIn_pdT (f := PyData.int) (by decide) a [b]
  simpa using this
@[simp] theorem pIn_it2 (a b c : Int) : pIn (.int a) (.tuple [.int b, .int c]) = some (decide (a = b ∨ a = c)) := by
  have := pIn_pdT (f := PyData.int) (by decide) a [b, c]
  simpa using this
@[simp] theorem pIn_pl (p : Int × Int) (xs : List (Int × Int)) : pIn (pD p) (.list (xs.map pD)) = some (decide (p ∈ xs)) := by
  exact (pIn_pdL (f := pD) (by decide) p xs).trans (congrArg some (decide_eq_decide.mpr Iff.rfl))
@[simp] theorem pIn_pt (p : Int × Int) (xs : List (Int × Int)) : pIn (pD p) (.tuple (xs.map pD)) = some (decide (p ∈ xs)) := by
  exact (pIn_pdT (f := pD) (by decide) p xs).trans (congrArg some (decide_eq_decide.mpr Iff.rfl))
@[simp] theorem pIn_pl' (a b : Int) (xs : List (Int × Int)) : pIn (.tuple [.int a, .int b]) (.list (xs.map pD)) = some (decide ((a, b) ∈ xs)) := by
  exact (pIn_pdL (f := pD) (by decide) (a, b) xs).trans (congrArg some (decide_eq_decide.mpr Iff.rfl))
@[simp] theorem pIn_pt' (a b : Int) (xs : List (Int × Int)) : pIn (.tuple [.int a, .int b]) (.tuple (xs.map pD)) = some (decide ((a, b) ∈ xs)) := by
  exact (pIn_pdT (f := pD) (by decide) (a, b) xs).trans (congrArg some (decide_eq_decide.mpr Iff.rfl))
@[simp] theorem imm_pD (p : Int × Int) : imm (pD p) = true := rfl
theorem immAll_map {α : Type} {f : α → D} (h : ∀ a, imm (f a) = true) : ∀ xs : List α, immAll (xs.map f) = true
  | [] => rfl
  | x :: xs => by rw [List.map_cons, immAll_cons, h, immAll_map h xs]; rfl
@[simp] theorem immAll_pD (xs : List (Int × Int)) : immAll (xs.map pD) = true := immAll_map imm_pD xs

/-! ### ranges -/
def rg (a b : Int) : List Int := (List.range (b - a).toNat).map fun i => a + (i : Nat)
@[simp] theorem rangeD_eq (a b : Int) : rangeD a b = (rg a b).map .int := by
  unfold rangeD rg
  rw [List.map_map]
  rfl
@[simp] theorem mem_rg {a b x : Int} : x ∈ rg a b ↔ a ≤ x ∧ x < b := by
  unfold rg
  rw [List.mem_map]
  constructor
  · rintro ⟨i, hi, rfl⟩
    rw [List.mem_range] at hi
    omega
  · rintro ⟨h1, h2⟩
    exact ⟨(x - a).toNat, by rw [List.mem_range]; omega, by omega⟩
@[simp] theorem len_rg (a b : Int) : (rg a b).length = (b - a).toNat := by simp [rg]
theorem rgOk_of {a b : Int} (h1 : -1000000 ≤ a) (h2 : a ≤ 1000000) (h3 : -1000000 ≤ b) (h4 : b ≤ 1000000) : rgOk a b = true := by
  unfold rgOk big
  rw [Bool.and_eq_true, decide_eq_true_eq, decide_eq_true_eq]
  omega
theorem get_rg {a b : Int} {k : Nat} (h : k < (b - a).toNat) : (rg a b)[k]? = some (a + k) := by
  simp [rg, h]

/-! ### places -/
theorem atIx_of {n : Nat} {i : Int} (h0 : 0 ≤ i) (h1 : i < n) : atIx n i = some i.toNat := by
  unfold atIx
  rw [if_pos h0, if_pos (by omega)]
theorem pIdx_l {α : Type} {f : α → D} {xs : List α} {i : Int} {x : α} (h0 : 0 ≤ i) (h : xs[i.toNat]? = some x) : pIdx (.list (xs.map f)) (.int i) = some (f x) := by
  have hl := (List.getElem?_eq_some_iff.mp h).1
  unfold pIdx
  simp only [List.length_map]
  rw [atIx_of h0 (by omega)]
  simp [h]
theorem pIdx_t {α : Type} {f : α → D} {xs : List α} {i : Int} {x : α} (h0 : 0 ≤ i) (h : xs[i.toNat]? = some x) : pIdx (.tuple (xs.map f)) (.int i) = some (f x) := by
  have hl := (List.getElem?_eq_some_iff.mp h).1
  unfold pIdx
  simp only [List.length_map]
  rw [atIx_of h0 (by omega)]
  simp [h]
@[simp] theorem pIdx_t0 (x : D) (xs : List D) : pIdx (.tuple (x :: xs)) (.int 0) = some x := by simp [pIdx, atIx]
@[simp] theorem pIdx_t1 (x y : D) (xs : List D) : pIdx (.tuple (x :: y :: xs)) (.int 1) = some y := by simp [pIdx, atIx]
@[simp] theorem pIdx_t2 (x y z : D) (xs : List D) : pIdx (.tuple (x :: y :: z :: xs)) (.int 2) = some z := by simp [pIdx, atIx]
@[simp] theorem pIdx_t3 (x y z w : D) (xs : List D) : pIdx (.tuple (x :: y :: z :: w :: xs)) (.int 3) = some w := by simp [pIdx, atIx]
@[simp] theorem pIdx_p0 (p : Int × Int) : pIdx (pD p) (.int 0) = some (.int p.1) := by simp [pD]
@[simp] theorem pIdx_p1 (p : Int × Int) : pIdx (pD p) (.int 1) = some (.int p.2) := by simp [pD]
theorem putAt_of {α : Type} {f : α → D} {xs : List α} {i : Int} (y : α) (h0 : 0 ≤ i) (h : i < xs.length) : putAt (xs.map f) i (f y) = some ((xs.set i.toNat y).map f) := by
  unfold putAt
  rw [if_pos ⟨h0, by rw [List.length_map]; omega⟩, List.map_set]

/-! ### walks -/
/-- what a comprehension walks, and the frame then -/
def pIts (C : PFS) (k : Ik) (its : List Ex) (env : PEn) : Option (List D × PEn) := (pOs C its env).bind fun q => (pFetchAll q.2 q.1).bind fun ds => (itemsOf k ds).map fun xs => (xs, q.2)
theorem pE_comp' {C : PFS} {q : Ex} {elt : Ex} {tg : Tg} {k : Ik} {its ifs : List Ex} {own : List Nat} (hq : q = .comp elt tg k its ifs own) {env env1 : PEn} {xs : List D} (h : pIts C k its env = some (xs, env1)) (hl : xs.length < big) : pE C q env = (pComp tg own (pTs C ifs) (pE C elt) xs env1).map fun z => (.list z.1, pWipe z.2 own) := by
  subst hq
  rw [pE_comp]
  unfold pIts at h
  cases h1 : pOs C its env with
  | none => rw [h1] at h; cases h
  | some a =>
    rw [h1] at h
    simp only [Option.bind_some] at h ⊢
    cases h2 : pFetchAll a.2 a.1 with
    | none => rw [h2] at h; cases h
    | some ds =>
      rw [h2] at h
      simp only [Option.bind_some] at h ⊢
      cases h3 : itemsOf k ds with
      | none => rw [h3] at h; cases h
      | some ys =>
        rw [h3] at h
        simp only [Option.map_some, Option.some.injEq, Prod.mk.injEq] at h
        obtain ⟨rfl, rfl⟩ := h
        simp only [Option.bind_some]
        rw [if_pos hl]
section
variable {α β σ : Type}
/-- a comprehension without effect -/
theorem pComp_map {tg : Tg} {own : List Nat} {tst : PEn → Option (Bool × PEn)} {elt : PEn → Option (D × PEn)} (E0 : PEn) (enc : α → D) (p : α → Bool) (f : α → D) :
    ∀ (xs : List α) (env : PEn), pWipe env own = E0 → (∀ x ∈ xs, ∃ e1, pAssign E0 tg (enc x) = some e1 ∧ tst e1 = some (p x, e1) ∧ (p x = true → elt e1 = some (f x, e1)) ∧ pWipe e1 own = E0) →
      ∃ e', pComp tg own tst elt (xs.map enc) env = some ((xs.filter p).map f, e') ∧ pWipe e' own = E0
  | [], env, h, _ => ⟨env, rfl, h⟩
  | x :: xs, env, h, H => by
    obtain ⟨e1, h1, h2, h3, h4⟩ := H x (List.mem_cons_self ..)
    obtain ⟨e', i1, i2⟩ := pComp_map E0 enc p f xs e1 h4 (fun y hy => H y (List.mem_cons_of_mem _ hy))
    refine ⟨e', ?_, i2⟩
    simp only [List.map_cons, pComp, h, h1, h2, Option.bind_some]
    cases hp : p x with
    | true => simp only [if_true, h3 hp, Option.bind_some, i1, Option.map_some, List.filter_cons, hp, List.map_cons]
    | false => simp only [Bool.false_eq_true, if_false, i1, List.filter_cons, hp]
theorem comp_map {C : PFS} {q : Ex} {elt : Ex} {tg : Tg} {k : Ik} {its ifs : List Ex} {own : List Nat} (hq : q = .comp elt tg k its ifs own) {env env1 : PEn} (xs : List α) (enc : α → D) (p : α → Bool) (f : α → D) (h3 : pIts C k its env = some (xs.map enc, env1)) (h4 : xs.length < big)
    (H : ∀ x ∈ xs, ∃ e1, pAssign (pWipe env1 own) tg (enc x) = some e1 ∧ pTs C ifs e1 = some (p x, e1) ∧ (p x = true → pE C elt e1 = some (f x, e1)) ∧ pWipe e1 own = pWipe env1 own) :
    pE C q env = some (.list ((xs.filter p).map f), pWipe env1 own) := by
  obtain ⟨e', i1, i2⟩ := pComp_map (tst := pTs C ifs) (elt := pE C elt) (pWipe env1 own) enc p f xs env1 rfl H
  rw [pE_comp' hq h3 (by rw [List.length_map]; exact h4), i1, Option.map_some, i2]
/-- without a test -/
theorem comp_all {C : PFS} {q : Ex} {elt : Ex} {tg : Tg} {k : Ik} {its : List Ex} {own : List Nat} (hq : q = .comp elt tg k its [] own) {env env1 : PEn} (xs : List α) (enc : α → D) (f : α → D) (h3 : pIts C k its env = some (xs.map enc, env1)) (h4 : xs.length < big)
    (H : ∀ x ∈ xs, ∃ e1, pAssign (pWipe env1 own) tg (enc x) = some e1 ∧ pE C elt e1 = some (f x, e1) ∧ pWipe e1 own = pWipe env1 own) :
    pE C q env = some (.list (xs.map f), pWipe env1 own) := by
  have := comp_map (C := C) hq xs enc (fun _ => true) f h3 h4 (fun x hx => by
    obtain ⟨e1, a, b, c⟩ := H x hx
    exact ⟨e1, a, rfl, fun _ => b, c⟩)
  rwa [List.filter_eq_self.mpr (fun _ _ => rfl)] at this
/-- a comprehension whose turns change the frame: s the state, g x s tells whether there is a thing, which, and the state behind -/
def compF (g : α → σ → Option β × σ) : List α → σ → List β × σ
  | [], s => ([], s)
  | x :: xs, s => match g x s with
    | (some y, s') => (y :: (compF g xs s').1, (compF g xs s').2)
    | (none, s') => compF g xs s'
theorem pComp_st {tg : Tg} {own : List Nat} {tst : PEn → Option (Bool × PEn)} {elt : PEn → Option (D × PEn)} (E : σ → PEn) (J : List α → σ → Prop) (enc : α → D) (out : β → D) (g : α → σ → Option β × σ) :
    ∀ (xs : List α) (s : σ) (env : PEn), J xs s → pWipe env own = E s → (∀ x ∈ xs, ∀ ys s, J (x :: ys) s → J ys (g x s).2 ∧ ∃ e1, pAssign (E s) tg (enc x) = some e1 ∧ (match (g x s).1 with
        | some y => ∃ e2 e3, tst e1 = some (true, e2) ∧ elt e2 = some (out y, e3) ∧ pWipe e3 own = E (g x s).2
        | none => ∃ e2, tst e1 = some (false, e2) ∧ pWipe e2 own = E (g x s).2)) →
      ∃ e', pComp tg own tst elt (xs.map enc) env = some ((compF g xs s).1.map out, e') ∧ pWipe e' own = E (compF g xs s).2 ∧ J [] (compF g xs s).2
  | [], s, env, hJ, h, _ => ⟨env, rfl, h, hJ⟩
  | x :: xs, s, env, hJ, h, H => by
    obtain ⟨j, e1, h1, h2⟩ := H x (List.mem_cons_self ..) xs s hJ
    have H' := fun y hy => H y (List.mem_cons_of_mem _ hy)
    simp only [List.map_cons, pComp, h, h1, Option.bind_some, compF]
    cases hg : g x s with
    | mk o s' =>
      rw [hg] at j h2
      cases o with
      | some y =>
        obtain ⟨e2, e3, a1, a2, a3⟩ := h2
        obtain ⟨e', i1, i2, i3⟩ := pComp_st E J enc out g xs s' e3 j a3 H'
        exact ⟨e', by simp only [a1, Option.bind_some, if_true, a2, i1, Option.map_some, List.map_cons], i2, i3⟩
      | none =>
        obtain ⟨e2, a1, a2⟩ := h2
        obtain ⟨e', i1, i2, i3⟩ := pComp_st E J enc out g xs s' e2 j a2 H'
        exact ⟨e', by simp only [a1, Option.bind_some, Bool.false_eq_true, if_false, i1], i2, i3⟩
theorem comp_st {C : PFS} {q : Ex} {elt : Ex} {tg : Tg} {k : Ik} {its ifs : List Ex} {own : List Nat} (hq : q = .comp elt tg k its ifs own) {env env1 : PEn} (E : σ → PEn) (J : List α → σ → Prop) (xs : List α) (enc : α → D) (out : β → D) (g : α → σ → Option β × σ) (s : σ) (h3 : pIts C k its env = some (xs.map enc, env1)) (h4 : xs.length < big) (hJ : J xs s) (hE : pWipe env1 own = E s)
    (H : ∀ x ∈ xs, ∀ ys s, J (x :: ys) s → J ys (g x s).2 ∧ ∃ e1, pAssign (E s) tg (enc x) = some e1 ∧ (match (g x s).1 with
        | some y => ∃ e2 e3, pTs C ifs e1 = some (true, e2) ∧ pE C elt e2 = some (out y, e3) ∧ pWipe e3 own = E (g x s).2
        | none => ∃ e2, pTs C ifs e1 = some (false, e2) ∧ pWipe e2 own = E (g x s).2)) :
    pE C q env = some (.list ((compF g xs s).1.map out), E (compF g xs s).2) ∧ J [] (compF g xs s).2 := by
  obtain ⟨e', i1, i2, i3⟩ := pComp_st (tst := pTs C ifs) (elt := pE C elt) E J enc out g xs s env1 hJ hE H
  refine ⟨?_, i3⟩
  rw [pE_comp' hq h3 (by rw [List.length_map]; exact h4), i1, Option.map_some, i2]
/-- a comprehension that draws: which of the things stay, told as a sublist -/
theorem comp_sub {C : PFS} {q : Ex} {elt : Ex} {tg : Tg} {k : Ik} {its ifs : List Ex} {own : List Nat} (hq : q = .comp elt tg k its ifs own) {env env1 : PEn} (E : σ → PEn) (J : σ → Prop) (xs : List α) (enc out : α → D) (s : σ) (h3 : pIts C k its env = some (xs.map enc, env1)) (h4 : xs.length < big) (hE : pWipe env1 own = E s) (hJ : J s)
    (H : ∀ x ∈ xs, ∀ s, J s → ∃ e1 s', pAssign (E s) tg (enc x) = some e1 ∧ J s' ∧ ((∃ e2 e3, pTs C ifs e1 = some (true, e2) ∧ pE C elt e2 = some (out x, e3) ∧ pWipe e3 own = E s') ∨ (∃ e2, pTs C ifs e1 = some (false, e2) ∧ pWipe e2 own = E s'))) :
    ∃ (ys : List α) (s' : σ), ys.Sublist xs ∧ pE C q env = some (.list (ys.map out), E s') ∧ J s' := by
  have key : ∀ (xs : List α) (s : σ) (env : PEn), J s → pWipe env own = E s → (∀ x ∈ xs, ∀ s, J s → ∃ e1 s', pAssign (E s) tg (enc x) = some e1 ∧ J s' ∧ ((∃ e2 e3, pTs C ifs e1 = some (true, e2) ∧ pE C elt e2 = some (out x, e3) ∧ pWipe e3 own = E s') ∨ (∃ e2, pTs C ifs e1 = some (false, e2) ∧ pWipe e2 own = E s'))) →
      ∃ (ys : List α) (s' : σ) (e' : PEn), ys.Sublist xs ∧ pComp tg own (pTs C ifs) (pE C elt) (xs.map enc) env = some (ys.map out, e') ∧ pWipe e' own = E s' ∧ J s' := by
    intro xs
    induction xs with
    | nil => intro s env hJ hE _; exact ⟨[], s, env, List.Sublist.refl _, rfl, hE, hJ⟩
    | cons x xs ih =>
      intro s env hJ hE H
      obtain ⟨e1, s', h1, j, h2⟩ := H x (List.mem_cons_self ..) s hJ
      have H' := fun y hy => H y (List.mem_cons_of_mem _ hy)
      simp only [List.map_cons, pComp, hE, h1, Option.bind_some]
      rcases h2 with ⟨e2, e3, a1, a2, a3⟩ | ⟨e2, a1, a2⟩
      · obtain ⟨ys, s'', e', i1, i2, i3, i4⟩ := ih s' e3 j a3 H'
        exact ⟨x :: ys, s'', e', i1.cons_cons x, by simp only [a1, Option.bind_some, if_true, a2, i2, Option.map_some, List.map_cons], i3, i4⟩
      · obtain ⟨ys, s'', e', i1, i2, i3, i4⟩ := ih s' e2 j a2 H'
        exact ⟨ys, s'', e', i1.cons x, by simp only [a1, Option.bind_some, Bool.false_eq_true, if_false, i2], i3, i4⟩
  obtain ⟨ys, s', e', i1, i2, i3, i4⟩ := key xs s env1 hJ hE H
  refine ⟨ys, s', i1, ?_, i4⟩
  rw [pE_comp' hq h3 (by rw [List.length_map]; exact h4), i2, Option.map_some, i3]
/-- item by item -/
inductive Each (Q : α → β → Prop) : List α → List β → Prop where
  | nil : Each Q [] []
  | cons {x : α} {y : β} {xs : List α} {ys : List β} (h : Q x y) (t : Each Q xs ys) : Each Q (x :: xs) (y :: ys)
theorem Each.len {Q : α → β → Prop} {xs : List α} {ys : List β} (h : Each Q xs ys) : xs.length = ys.length := by
  induction h with
  | nil => rfl
  | cons _ _ ih => simp [ih]
theorem Each.right {Q : α → β → Prop} {P : β → Prop} {xs : List α} {ys : List β} (h : Each Q xs ys) (k : ∀ x y, Q x y → P y) : ∀ y ∈ ys, P y := by
  induction h with
  | nil => intro y hy; cases hy
  | cons h _ ih =>
    intro y hy
    rcases List.mem_cons.mp hy with rfl | hy
    · exact k _ _ h
    · exact ih y hy
/-- a comprehension that draws, each time a thing -/
theorem comp_each {C : PFS} {q : Ex} {elt : Ex} {tg : Tg} {k : Ik} {its : List Ex} {own : List Nat} (hq : q = .comp elt tg k its [] own) {env env1 : PEn} (E : σ → PEn) (J : σ → Prop) (Q : α → β → Prop) (xs : List α) (enc : α → D) (out : β → D) (s : σ) (h3 : pIts C k its env = some (xs.map enc, env1)) (h4 : xs.length < big) (hE : pWipe env1 own = E s) (hJ : J s)
    (H : ∀ x ∈ xs, ∀ s, J s → ∃ e1 s' y e3, pAssign (E s) tg (enc x) = some e1 ∧ J s' ∧ Q x y ∧ pE C elt e1 = some (out y, e3) ∧ pWipe e3 own = E s') :
    ∃ ys s', Each Q xs ys ∧ pE C q env = some (.list (ys.map out), E s') ∧ J s' := by
  have key : ∀ (xs : List α) (s : σ) (env : PEn), J s → pWipe env own = E s → (∀ x ∈ xs, ∀ s, J s → ∃ e1 s' y e3, pAssign (E s) tg (enc x) = some e1 ∧ J s' ∧ Q x y ∧ pE C elt e1 = some (out y, e3) ∧ pWipe e3 own = E s') →
      ∃ ys s' e', Each Q xs ys ∧ pComp tg own (pTs C []) (pE C elt) (xs.map enc) env = some (ys.map out, e') ∧ pWipe e' own = E s' ∧ J s' := by
    intro xs
    induction xs with
    | nil => intro s env hJ hE _; exact ⟨[], s, env, .nil, rfl, hE, hJ⟩
    | cons x xs ih =>
      intro s env hJ hE H
      obtain ⟨e1, s', y, e3, h1, j, q, h2, h3⟩ := H x (List.mem_cons_self ..) s hJ
      obtain ⟨ys, s'', e', i1, i2, i3, i4⟩ := ih s' e3 j h3 (fun y hy => H y (List.mem_cons_of_mem _ hy))
      refine ⟨y :: ys, s'', e', .cons q i1, ?_, i3, i4⟩
      simp only [List.map_cons, pComp, hE, h1, Option.bind_some, pTs_n, if_true, h2, i2, Option.map_some]
  obtain ⟨ys, s', e', i1, i2, i3, i4⟩ := key xs s env1 hJ hE H
  refine ⟨ys, s', i1, ?_, i4⟩
  rw [pE_comp' hq h3 (by rw [List.length_map]; exact h4), i2, Option.map_some, i3]
/-- a loop that falls through: s the state -/
theorem pFor_fold {tg : Tg} {b : PEn → Option PFlow} (E : σ → PEn) (J : List α → σ → Prop) (enc : α → D) (f : σ → α → σ) :
    ∀ (xs : List α) (s : σ), J xs s → (∀ x ∈ xs, ∀ ys s, J (x :: ys) s → J ys (f s x) ∧ ∃ e1, pAssign (E s) tg (enc x) = some e1 ∧ (b e1 = some (.next (E (f s x))) ∨ b e1 = some (.cont (E (f s x))))) →
      pFor tg b (xs.map enc) (E s) = some (.next (E (xs.foldl f s))) ∧ J [] (xs.foldl f s)
  | [], s, hJ, _ => ⟨rfl, hJ⟩
  | x :: xs, s, hJ, H => by
    obtain ⟨j, e1, h1, h2⟩ := H x (List.mem_cons_self ..) xs s hJ
    obtain ⟨i1, i2⟩ := pFor_fold E J enc f xs (f s x) j (fun y hy => H y (List.mem_cons_of_mem _ hy))
    refine ⟨?_, i2⟩
    rw [List.map_cons, pFor, h1, Option.bind_some, List.foldl_cons]
    rcases h2 with h2 | h2 <;> · rw [h2, Option.bind_some]; exact i1
/-- a loop that looks for the first thing with an answer -/
theorem pFor_find {tg : Tg} {b : PEn → Option PFlow} (E0 : PEn) (enc : α → D) (g : α → Option (D × PEn)) :
    ∀ (xs : List α), (∀ x ∈ xs, ∃ e1, pAssign E0 tg (enc x) = some e1 ∧ b e1 = (match g x with | some q => some (.ret q.1 q.2) | none => some (.next E0))) →
      pFor tg b (xs.map enc) E0 = (match xs.findSome? g with | some q => some (.ret q.1 q.2) | none => some (.next E0))
  | [], _ => rfl
  | x :: xs, H => by
    obtain ⟨e1, h1, h2⟩ := H x (List.mem_cons_self ..)
    have i1 := pFor_find E0 enc g xs (fun y hy => H y (List.mem_cons_of_mem _ hy))
    rw [List.map_cons, pFor, h1, Option.bind_some, h2, List.findSome?_cons]
    cases g x with
    | some q => rfl
    | none => exact i1
/-- a loop that keeps a property of the frame and falls through -/
theorem pFor_inv {tg : Tg} {b : PEn → Option PFlow} (I : PEn → Prop) : ∀ (xs : List D) (e : PEn), I e → (∀ x ∈ xs, ∀ e, I e → ∃ e1 e2, pAssign e tg x = some e1 ∧ (b e1 = some (.next e2) ∨ b e1 = some (.cont e2)) ∧ I e2) → ∃ e', pFor tg b xs e = some (.next e') ∧ I e'
  | [], e, h, _ => ⟨e, rfl, h⟩
  | x :: xs, e, h, H => by
    obtain ⟨e1, e2, h1, h2, h3⟩ := H x (List.mem_cons_self ..) e h
    obtain ⟨e', i1, i2⟩ := pFor_inv I xs e2 h3 (fun y hy => H y (List.mem_cons_of_mem _ hy))
    refine ⟨e', ?_, i2⟩
    rw [pFor, h1, Option.bind_some]
    rcases h2 with h2 | h2 <;> · rw [h2, Option.bind_some]; exact i1
end

/-- where a thing stands, in a list of unlike ones -/
theorem nodup_get {α : Type} {xs : List α} (h : xs.Nodup) {i j : Nat} {x : α} (hi : xs[i]? = some x) (hj : xs[j]? = some x) : i = j := by
  obtain ⟨a1, b1⟩ := List.getElem?_eq_some_iff.mp hi
  obtain ⟨a2, b2⟩ := List.getElem?_eq_some_iff.mp hj
  have h' := List.pairwise_iff_getElem.mp h
  rcases Nat.lt_trichotomy i j with q | q | q
  · exact absurd (b1.trans b2.symm) (h' i j a1 a2 q)
  · exact q
  · exact absurd (b2.trans b1.symm) (h' j i a2 a1 q)

/-! ### order -/
theorem le_int (x y : Int) : PySem.W.dataLe false id (.int x) (.int y) = decide (x ≤ y) := by
  have := congrFun (congrFun (PySem.W.dataLe_int (β := Int) id) x) y
  exact this
def leP (p q : Int × Int) : Bool := decide (p.1 < q.1 ∨ (p.1 = q.1 ∧ p.2 ≤ q.2))
theorem le_pair (p q : Int × Int) : PySem.W.dataLe false id (pD p) (pD q) = leP p q := by
  have := congrFun (congrFun (PySem.W.dataLe_ii (β := Int × Int) (·.1) (·.2)) p) q
  exact this
def sortI (xs : List Int) : List Int := xs.mergeSort fun a b => decide (a ≤ b)
def sortP (xs : List (Int × Int)) : List (Int × Int) := xs.mergeSort leP
theorem sortD_int (xs : List Int) : sortD false (xs.map .int) = (sortI xs).map .int := by
  unfold sortD sortI
  rw [List.map_mergeSort]
  intro a _ b _
  exact (le_int a b).symm
theorem sortD_pair (xs : List (Int × Int)) : sortD false (xs.map pD) = (sortP xs).map pD := by
  unfold sortD sortP
  rw [List.map_mergeSort]
  intro a _ b _
  exact (le_pair a b).symm
theorem sortOk_int {xs : List Int} (h : xs.length ≤ big) : sortOk (xs.map .int) = true := by
  unfold sortOk
  simp only [Bool.and_eq_true, Bool.or_eq_true, List.all_map, List.all_eq_true, List.length_map, decide_eq_true_eq]
  exact ⟨⟨⟨fun x _ => List.all_eq_true.mpr fun y _ => rfl, chkAll_map 20 (by decide) xs⟩, h⟩, .inr fun x _ => rfl⟩
theorem sortOk_pair {xs : List (Int × Int)} (h : xs.length ≤ big) : sortOk (xs.map pD) = true := by
  unfold sortOk
  simp only [Bool.and_eq_true, Bool.or_eq_true, List.all_map, List.all_eq_true, List.length_map, decide_eq_true_eq]
  exact ⟨⟨⟨fun x _ => List.all_eq_true.mpr fun y _ => rfl, chkAll_map 20 (by decide) xs⟩, h⟩, .inl fun x _ => rfl⟩
theorem pSort_i {xs : List Int} (h : xs.length ≤ big) : guardO (sortOk (xs.map .int)) (PyData.list (sortD false (xs.map .int))) = some (.list ((sortI xs).map .int)) := by
  rw [sortOk_int h, sortD_int]; rfl
theorem pSort_p {xs : List (Int × Int)} (h : xs.length ≤ big) : guardO (sortOk (xs.map pD)) (PyData.list (sortD false (xs.map pD))) = some (.list ((sortP xs).map pD)) := by
  rw [sortOk_pair h, sortD_pair]; rfl
theorem sortI_perm (xs : List Int) : (sortI xs).Perm xs := List.mergeSort_perm ..
theorem sortP_perm (xs : List (Int × Int)) : (sortP xs).Perm xs := List.mergeSort_perm ..
@[simp] theorem mem_sortI {xs : List Int} {x : Int} : x ∈ sortI xs ↔ x ∈ xs := (sortI_perm xs).mem_iff
@[simp] theorem mem_sortP {xs : List (Int × Int)} {x : Int × Int} : x ∈ sortP xs ↔ x ∈ xs := (sortP_perm xs).mem_iff
@[simp] theorem len_sortI (xs : List Int) : (sortI xs).length = xs.length := (sortI_perm xs).length_eq
@[simp] theorem len_sortP (xs : List (Int × Int)) : (sortP xs).length = xs.length := (sortP_perm xs).length_eq
theorem sortI_sorted (xs : List Int) : (sortI xs).Pairwise (· ≤ ·) := by
  have := List.pairwise_mergeSort (le := fun a b : Int => decide (a ≤ b)) (fun a b c h1 h2 => by simp at *; omega) (fun a b => by simp; omega) xs
  exact this.imp (by simp)
theorem leP_trans (a b c : Int × Int) (h1 : leP a b = true) (h2 : leP b c = true) : leP a c = true := by
  simp only [leP, decide_eq_true_eq] at *; omega
theorem leP_total (a b : Int × Int) : (leP a b || leP b a) = true := by
  simp only [leP, Bool.or_eq_true, decide_eq_true_eq]; omega
theorem sortP_sorted (xs : List (Int × Int)) : (sortP xs).Pairwise (fun a b => leP a b = true) := List.pairwise_mergeSort leP_trans leP_total xs
theorem sortI_two (a b : Int) : sortI [a, b] = if a ≤ b then [a, b] else [b, a] := by
  unfold sortI
  by_cases h : a ≤ b
  · rw [if_pos h]
    exact List.mergeSort_of_pairwise (by simpa using h)
  · rw [if_neg h]
    have p : ([a, b] : List Int).Perm [b, a] := List.Perm.swap b a []
    have e := List.mergeSort_perm [a, b] (fun a b : Int => decide (a ≤ b))
    have s : (List.mergeSort [a, b] (fun a b : Int => decide (a ≤ b))).Pairwise (· ≤ ·) := sortI_sorted [a, b]
    exact (e.trans p).eq_of_pairwise (le := fun a b => a ≤ b) (fun x y _ _ h1 h2 => Int.le_antisymm h1 h2) s (by simp; omega)
end Ev
set_option maxRecDepth 100000
set_option maxHeartbeats 1000000
/-! How long a datum's text is, and that it is one. -/
namespace Ev
open PySem

/-- a text that is one, and so long at most -/
def TxOk (b : Nat) (x : Str) : Prop := PyData.strOk x = true ∧ x.length ≤ b
theorem tx_app {a b : Nat} {x y : Str} (h : TxOk a x) (k : TxOk b y) : TxOk (a + b) (x ++ y) := by
  refine ⟨?_, by rw [strLen_append]; have := h.2; have := k.2; omega⟩
  have h1 := h.1
  have k1 := k.1
  unfold PyData.strOk at h1 k1 ⊢
  show (x.cps ++ y.cps).all _ = true
  rw [Array.all_append, h1, k1]
  rfl
theorem tx_of (s : String) : TxOk s.length (Str.ofString s) := by
  refine ⟨?_, by rw [ofString_length]; exact Nat.le_refl _⟩
  unfold PyData.strOk
  rw [Str.ofString_eq_toList, List.all_toArray, List.all_map, List.all_eq_true]
  intro c _
  simp only [Function.comp_apply, decide_eq_true_eq]
  have := c.valid
  simp only [UInt32.isValidChar, Nat.isValidChar] at this
  show c.val.toNat < 1114112
  omega
theorem tx_mono {a b : Nat} {x : Str} (h : TxOk a x) (k : a ≤ b) : TxOk b x := ⟨h.1, Nat.le_trans h.2 k⟩
theorem tx_from : ∀ (ts : List Str) (k : Nat) (acc : Str) (a : Nat) (f : Str → Nat), TxOk a acc → (∀ t ∈ ts, TxOk (f t) t) → TxOk (a + ((ts.map f).sum + 2 * ts.length)) (textFrom k acc ts)
  | [], k, acc, a, f, h, _ => by simpa [textFrom] using h
  | t :: ts, k, acc, a, f, h, ht => by
    unfold textFrom
    have h1 : TxOk 2 (Str.ofString (if k > 0 then ", " else "")) := by
      split
      · exact tx_of ", "
      · exact tx_mono (tx_of "") (by decide)
    have := tx_from ts (k + 1) _ _ f (tx_app (tx_app h h1) (ht t (List.mem_cons_self ..))) (fun u hu => ht u (List.mem_cons_of_mem _ hu))
    refine tx_mono this ?_
    simp only [List.map_cons, List.sum_cons, List.length_cons]
    omega
theorem tx_list (ts : List Str) (f : Str → Nat) (h : ∀ t ∈ ts, TxOk (f t) t) : TxOk ((ts.map f).sum + 2 * ts.length + 2) (listText ts) := by
  unfold listText
  exact tx_mono (tx_app (tx_from ts 0 _ _ f (tx_of "[") h) (tx_of "]")) (by
    have : "[".length = 1 := rfl
    have : "]".length = 1 := rfl
    omega)
theorem tx_join : ∀ (ts : List Str) (f : Str → Nat), (∀ t ∈ ts, TxOk (f t) t) → TxOk ((ts.map f).sum + 2 * ts.length) (Str.join ", " ts)
  | [], f, h => tx_mono (tx_of "") (Nat.zero_le _)
  | [x], f, h => by
    show TxOk _ x
    exact tx_mono (h x (by simp)) (by simp)
  | x :: y :: r, f, h => by
    have ih := tx_join (y :: r) f (fun t ht => h t (List.mem_cons_of_mem _ ht))
    show TxOk _ (x ++ Str.ofString ", " ++ Str.join ", " (y :: r))
    refine tx_mono (tx_app (tx_app (h x (by simp)) (tx_of ", ")) ih) ?_
    have : ", ".length = 2 := rfl
    simp only [List.map_cons, List.sum_cons, List.length_cons]
    omega
theorem tx_tuple (ts : List Str) (f : Str → Nat) (h : ∀ t ∈ ts, TxOk (f t) t) : TxOk ((ts.map f).sum + 2 * ts.length + 3) (tupleText ts) := by
  unfold tupleText
  have h1 : TxOk 2 (Str.ofString (if ts.length == 1 then ",)" else ")")) := by
    split
    · exact tx_of ",)"
    · exact tx_mono (tx_of ")") (by decide)
  exact tx_mono (tx_app (tx_app (tx_of "(") (tx_join ts f h)) h1) (by
    have : "(".length = 1 := rfl
    omega)
mutual
/-- how long its text is at most; whole numbers within 10 ^ 9 -/
def rsz : D → Nat
  | .none => 4
  | .bool _ => 5
  | .int _ => 10
  | .str _ => 0
  | .list xs => rszAll xs + 2
  | .tuple xs => rszAll xs + 3
  | .dict _ => 0
def rszAll : List D → Nat
  | [] => 0
  | x :: xs => rsz x + 2 + rszAll xs
end
mutual
/-- numbers within 10 ^ 9, no texts -/
def rOk : D → Bool
  | .none => true
  | .bool _ => true
  | .int i => decide (i.natAbs < 1000000000)
  | .str _ => false
  | .list xs => rOkAll xs
  | .tuple xs => rOkAll xs
  | .dict _ => false
def rOkAll : List D → Bool
  | [] => true
  | x :: xs => rOk x && rOkAll xs
end
mutual
theorem shown_tx : ∀ (d : D), rOk d = true → TxOk (rsz d) (PyData.shown d) ∧ PyData.showable d = true
  | .none, _ => ⟨tx_of "None", rfl⟩
  | .bool b, _ => by
    cases b
    · exact ⟨tx_of "False", rfl⟩
    · exact ⟨tx_mono (tx_of "True") (by decide), rfl⟩
  | .int i, h => by
    simp only [rOk, decide_eq_true_eq] at h
    refine ⟨tx_mono (tx_of (toString i)) (int_text_length_le10 (k := 9) (by decide) h), ?_⟩
    simp only [PyData.showable, decide_eq_true_eq]
    by_cases h0 : i.natAbs = 0
    · rw [h0]; decide
    · have : i.natAbs.log2 < 30 := (Nat.log2_lt h0).mpr (by omega)
      omega
  | .str _, h => by simp [rOk] at h
  | .list xs, h => by
    obtain ⟨f, h1, h2, h3⟩ := shown_all xs h
    refine ⟨?_, by simpa [PyData.showable] using h3⟩
    show TxOk _ (listText (PyData.shownAll xs))
    exact tx_mono (tx_list _ f h1) (by simp only [rsz]; omega)
  | .tuple xs, h => by
    obtain ⟨f, h1, h2, h3⟩ := shown_all xs h
    refine ⟨?_, by simpa [PyData.showable] using h3⟩
    show TxOk _ (tupleText (PyData.shownAll xs))
    exact tx_mono (tx_tuple _ f h1) (by simp only [rsz]; omega)
  | .dict _, h => by simp [rOk] at h
theorem shown_all : ∀ (xs : List D), rOkAll xs = true → ∃ f : Str → Nat, (∀ t ∈ PyData.shownAll xs, TxOk (f t) t) ∧ ((PyData.shownAll xs).map f).sum + 2 * (PyData.shownAll xs).length ≤ rszAll xs ∧ PyData.showableAll xs = true
  | [], _ => ⟨fun _ => 0, (fun t h => by cases h), by simp [PyData.shownAll, rszAll], rfl⟩
  | x :: xs, h => by
    simp only [rOkAll, Bool.and_eq_true] at h
    obtain ⟨h1, h2⟩ := shown_tx x h.1
    obtain ⟨f, g1, g2, g3⟩ := shown_all xs h.2
    refine ⟨fun t => t.length, fun t ht => ?_, ?_, by simp [PyData.showableAll, h2, g3]⟩
    · simp only [PyData.shownAll] at ht
      rcases List.mem_cons.mp ht with rfl | ht
      · exact ⟨h1.1, Nat.le_refl _⟩
      · exact ⟨(g1 t ht).1, Nat.le_refl _⟩
    · simp only [PyData.shownAll, List.map_cons, List.sum_cons, List.length_cons, rszAll]
      have : ∀ (l : List Str), (∀ t ∈ l, TxOk (f t) t) → (l.map fun t => t.length).sum ≤ (l.map f).sum := by
        intro l
        induction l with
        | nil => intro _; simp
        | cons y ys ih =>
          intro hl
          have := ih fun t ht => hl t (List.mem_cons_of_mem _ ht)
          have := (hl y (List.mem_cons_self ..)).2
          simp only [List.map_cons, List.sum_cons]
          omega
      have := this _ g1
      have := h1.2
      omega
end
/-- the text of a datum that is not too long -/
theorem pRepr_ok {d : D} (h1 : chk 20 d = true) (h2 : rOk d = true) (h3 : rsz d ≤ big) : pRepr d = some (.str (PyData.shown d)) := by
  obtain ⟨h4, h5⟩ := shown_tx d h2
  unfold pRepr
  rw [h1, h5, decide_eq_true (Nat.le_trans h4.2 h3)]
  rfl
theorem pEq_shown {d : D} (h2 : rOk d = true) : pEq (.str (PyData.shown d)) (.str (PyData.shown d)) = some true := by
  obtain ⟨h4, h5⟩ := shown_tx d h2
  unfold pEq
  have : chk 20 (.str (PyData.shown d)) = true := h4.1
  rw [this, show PyData.eqv (.str (PyData.shown d)) (.str (PyData.shown d)) = true by simp [PyData.eqv]]
  rfl
theorem rOkAll_map {α : Type} {f : α → D} : ∀ {xs : List α}, (∀ x ∈ xs, rOk (f x) = true) → rOkAll (xs.map f) = true
  | [], _ => rfl
  | x :: xs, h => by
    rw [List.map_cons, rOkAll, h x (List.mem_cons_self ..), rOkAll_map fun y hy => h y (List.mem_cons_of_mem _ hy)]
    rfl
theorem rszAll_map {α : Type} {f : α → D} {b : Nat} : ∀ {xs : List α}, (∀ x ∈ xs, rsz (f x) ≤ b) → rszAll (xs.map f) ≤ xs.length * (b + 2)
  | [], _ => by simp [rszAll]
  | x :: xs, h => by
    have h1 := h x (List.mem_cons_self ..)
    have h2 := rszAll_map (f := f) (b := b) (xs := xs) fun y hy => h y (List.mem_cons_of_mem _ hy)
    rw [List.map_cons, rszAll, List.length_cons, Nat.add_mul, Nat.one_mul]
    omega
end Ev
set_option maxRecDepth 100000
set_option maxHeartbeats 4000000
/-! The laws' own defs that draw: the source of choices. -/
namespace Ev.Lib
open PySem Ev

def srcD (cs : List Int) (l m t : Int) : D := .dict [(.str "cells", .list (cs.map .int)), (.str "left", .int l), (.str "mixed", .int m), (.str "turn", .int t)]
structure Src where
  cs : List Int
  l : Int
  m : Int
  t : Int
  len : cs.length ≤ 63
def Src.d (S : Src) : D := srcD S.cs S.l S.m S.t
@[simp] theorem vCells (cs : List Int) (l m t : Int) : pIdxD (srcD cs l m t) (.str "cells") = some (.list (cs.map .int)) := rfl
@[simp] theorem vLeft (cs : List Int) (l m t : Int) : pIdxD (srcD cs l m t) (.str "left") = some (.int l) := rfl
@[simp] theorem vMixed (cs : List Int) (l m t : Int) : pIdxD (srcD cs l m t) (.str "mixed") = some (.int m) := rfl
@[simp] theorem vTurn (cs : List Int) (l m t : Int) : pIdxD (srcD cs l m t) (.str "turn") = some (.int t) := rfl
@[simp] theorem uCells (cs cs' : List Int) (l m t : Int) : putIn true (srcD cs l m t) (.str "cells") (.list (cs'.map .int)) = some (srcD cs' l m t) := rfl
@[simp] theorem uLeft (cs : List Int) (l m t l' : Int) : putIn true (srcD cs l m t) (.str "left") (.int l') = some (srcD cs l' m t) := rfl
@[simp] theorem uMixed (cs : List Int) (l m t l' : Int) : putIn true (srcD cs l m t) (.str "mixed") (.int l') = some (srcD cs l l' t) := rfl
@[simp] theorem uTurn (cs : List Int) (l m t l' : Int) : putIn true (srcD cs l m t) (.str "turn") (.int l') = some (srcD cs l m l') := rfl
@[simp] theorem iSrc (cs : List Int) (l m t : Int) : imm (srcD cs l m t) = false := rfl
@[simp] theorem iSrc' (S : Src) : imm S.d = false := rfl

def b1__law_source : List PSt := [
 .s (.asg (.nm 1) (.prim .mod [(.prim .int [(.prim .add [(.prim .add [(.prim .mul [(.var 1), (.cst (.int 69069))]), (.prim .mul [(.var 2), (.cst (.int 31))])]), (.cst (.int 5))])]), (.cst (.int 2147483629))])),
 .wipe [2]]
def q1__law_source : Ex := .comp (.prim .abs [(.var 2)]) (.nm 2) .seq [(.var 0)] [] [2]
@[simp] theorem q1__law_source_os (C : PFS) (es : List Ex) (env : PEn) : pOs C (q1__law_source :: es) env = (pE C q1__law_source env).bind fun r => (pOs C es r.2).map fun q => (.tmp r.1 :: q.1, q.2) := rfl
def pf__law_source : PFn := ⟨[false], 3, [
 .s (.asg (.nm 1) (.cst (.int 11))),
 .for (.nm 2) .seq [(.var 0)] b1__law_source,
 .wipe [2],
 .s (.ret (.dictS ["cells", "left", "mixed", "turn"] [(.prim .rev [q1__law_source]), (.cst (.int 1)), (.var 1), (.cst (.int 0))]))]⟩
theorem source_ok (C : PFS) (ns : List Int) (h : ns.length ≤ 63) : ∃ S : Src, pRun C pf__law_source [.list (ns.map .int)] = some (S.d, [.list (ns.map .int)]) := by
  let L : D := .list (ns.map .int)
  obtain ⟨h1, _⟩ := pFor_fold (tg := .nm 2) (b := pSs C 1 b1__law_source) (σ := Int) (fun m => [some L, some (.int m), none]) (fun _ _ => True) PyData.int (fun m n => (m * 69069 + n * 31 + 5) % 2147483629) ns 11 trivial (fun n _ _ m _ => by
    refine ⟨trivial, [some L, some (.int m), some (.int n)], by simp, .inl ?_⟩
    have k1 : mulOk m 69069 = true := by simp [mulOk]
    have k2 : mulOk n 31 = true := by simp [mulOk]
    simp [b1__law_source, k1, k2])
  generalize hM : List.foldl (fun m n => (m * 69069 + n * 31 + 5) % 2147483629) 11 ns = M at h1
  have h2 : pE C q1__law_source [some L, some (.int M), none] = some (.list ((ns.map fun i => if i < 0 then -i else i).map .int), [some L, some (.int M), none]) := by
    have := comp_all (C := C) (q := q1__law_source) rfl (env := [some L, some (.int M), none]) (env1 := [some L, some (.int M), none]) ns PyData.int (fun i => .int (if i < 0 then -i else i)) (by simp [pIts, L]) (by unfold big; omega) (fun n _ => ⟨[some L, some (.int M), some (.int n)], by simp, by simp, by simp⟩)
    rw [List.map_map]
    exact this
  refine ⟨⟨(ns.map fun i => if i < 0 then -i else i).reverse, 1, M, 0, by simpa using h⟩, ?_⟩
  have nd : (["cells", "left", "mixed", "turn"] : List Str).Nodup := by decide
  rw [pRun_eq _ _ _ (by rfl)]
  simp [pf__law_source]
  simp [L] at h1 h2
  simp [h1, h2, nd, Src.d, srcD]

def b1__law_pick : List PSt := [
 .s (.setAt 0 (.cst (.str "left")) (.methAt .popLast 0 (.cst (.str "cells")) []))]
def pf__law_pick : PFn := ⟨[false, false], 4, [
 .whl (.andE (.prim .gt [(.var 1), (.cst (.int 1))]) (.andE (.prim .lt [(.prim .idxD [(.var 0), (.cst (.str "left"))]), (.cst (.int 2))]) (.prim .gt [(.lenAt .len 0 (.cst (.str "cells"))), (.cst (.int 0))]))) b1__law_pick,
 .s (.asg (.nm 2) (.prim .idxD [(.var 0), (.cst (.str "left"))])),
 .ite (.orE (.prim .lt [(.var 1), (.cst (.int 2))]) (.prim .gt [(.var 2), (.cst (.int 1))])) [
  .s (.setAt 0 (.cst (.str "left")) (.prim .fdiv [(.var 2), (.prim .max2 [(.cst (.int 1)), (.var 1)])])),
  .s (.ret (.prim .mod [(.prim .int [(.var 2)]), (.prim .max2 [(.cst (.int 1)), (.var 1)])]))] [],
 .wipe [2],
 .s (.setAt 0 (.cst (.str "turn")) (.prim .add [(.prim .idxD [(.var 0), (.cst (.str "turn"))]), (.cst (.int 1))])),
 .s (.asg (.nm 3) (.prim .mod [(.prim .int [(.prim .add [(.prim .idxD [(.var 0), (.cst (.str "mixed"))]), (.prim .mul [(.prim .idxD [(.var 0), (.cst (.str "turn"))]), (.cst (.int 104729))])])]), (.cst (.int 998244353))])),
 .s (.asg (.nm 3) (.prim .mod [(.prim .int [(.prim .add [(.prim .mul [(.var 3), (.var 3)]), (.prim .mul [(.prim .idxD [(.var 0), (.cst (.str "turn"))]), (.cst (.int 17))])])]), (.cst (.int 2147483647))])),
 .s (.setAt 0 (.cst (.str "mixed")) (.var 3)),
 .s (.ret (.prim .mod [(.prim .int [(.prim .fdiv [(.var 3), (.cst (.int 16))])]), (.var 1)]))]⟩
theorem pick_w (many m t : Int) :
    ∀ (n : Nat) (cs : List Int) (l : Int), cs.length < n → ∃ cs' l', cs'.length ≤ cs.length ∧ ∀ (C : PFS) (c : PEn → Option (Bool × PEn)), (∀ cs l, c [some (srcD cs l m t), some (.int many), none, none] = some (decide (1 < many) && (decide (l < 2) && decide (0 < cs.length)), [some (srcD cs l m t), some (.int many), none, none])) → pWhile c (pSs C 2 b1__law_pick) n [some (srcD cs l m t), some (.int many), none, none] = some (.next [some (srcD cs' l' m t), some (.int many), none, none])
  | 0, cs, l, h => by omega
  | n + 1, cs, l, h => by
    by_cases hk : (decide (1 < many) && (decide (l < 2) && decide (0 < cs.length))) = true
    · have h0 : cs ≠ [] := by
        intro z
        subst z
        simp at hk
      obtain ⟨ds, x, rfl⟩ : ∃ ds x, cs = ds ++ [x] := ⟨_, _, (List.dropLast_concat_getLast h0).symm⟩
      have hs : ∀ C, pSs C 2 b1__law_pick [some (srcD (ds ++ [x]) l m t), some (.int many), none, none] = some (.next [some (srcD ds x m t), some (.int many), none, none]) := fun C => by
        simp [b1__law_pick]
      obtain ⟨cs', l', q, e⟩ := pick_w many m t n ds x (by simp only [List.length_append, List.length_cons, List.length_nil] at h; omega)
      refine ⟨cs', l', by simp only [List.length_append, List.length_cons, List.length_nil]; omega, fun C c hc => ?_⟩
      rw [pWhile, hc]
      simp only [Option.bind_some]
      rw [if_pos hk, hs]
      exact e C c hc
    · refine ⟨cs, l, Nat.le_refl _, fun C c hc => ?_⟩
      rw [pWhile, hc]
      simp only [Option.bind_some]
      rw [if_neg hk]
theorem pick_ex (S : Src) (many : Int) (hm : many < 1073741824) : ∃ (r : Int) (S' : Src), 0 ≤ r ∧ (r < many ∨ r = 0) ∧ ∀ C, pRun C pf__law_pick [S.d, .int many] = some (.int r, [S'.d, .int many]) := by
  obtain ⟨cs, l, m, t, hl⟩ := S
  obtain ⟨cs', l1, q, e⟩ := pick_w many m t fuel cs l (by unfold fuel; omega)
  have e := fun C => e C (pCd C (.andE (.prim .gt [(.var 1), (.cst (.int 1))]) (.andE (.prim .lt [(.prim .idxD [(.var 0), (.cst (.str "left"))]), (.cst (.int 2))]) (.prim .gt [(.lenAt .len 0 (.cst (.str "cells"))), (.cst (.int 0))])))) (fun cs l => by
    by_cases h1 : 1 < many <;> by_cases h2 : l < 2 <;> simp [h1, h2])
  have hs : ∀ S : Src, S.d = srcD S.cs S.l S.m S.t := fun _ => rfl
  have hl' : cs'.length ≤ 63 := by omega
  by_cases h1 : many < 2
  · refine ⟨0, ⟨cs', l1, m, t, hl'⟩, Int.le_refl _, .inr rfl, ?_⟩
    have h2 : ¬ 1 < many := by omega
    intro C
    rw [pRun_eq _ _ _ (by rfl)]
    simp only [pf__law_pick, hs]
    simp only [List.map_cons, List.map_nil, List.length_cons, List.length_nil, pSs_c, pS_whl]
    simp only [Nat.reduceAdd, Nat.reduceSub, List.replicate_succ, List.replicate_zero, List.cons_append, List.nil_append, e]
    simp [h1, h2, Int.emod_one]
  · have h2 : 1 < many := by omega
    have h3 : 0 < many := by omega
    by_cases h4 : 1 < l1
    · refine ⟨l1 % many, ⟨cs', l1 / many, m, t, hl'⟩, Int.emod_nonneg _ (by omega), .inl (Int.emod_lt_of_pos _ h3), ?_⟩
      intro C
      rw [pRun_eq _ _ _ (by rfl)]
      simp only [pf__law_pick, hs]
      simp only [List.map_cons, List.map_nil, List.length_cons, List.length_nil, pSs_c, pS_whl]
      simp only [Nat.reduceAdd, Nat.reduceSub, List.replicate_succ, List.replicate_zero, List.cons_append, List.nil_append, e]
      simp [h1, h2, h3, h4, hm]
    · obtain ⟨M1, d1⟩ : ∃ M1, M1 = (m + (t + 1) * 104729) % 998244353 := ⟨_, rfl⟩
      obtain ⟨M, d2⟩ : ∃ M, M = (M1 * M1 + (t + 1) * 17) % 2147483647 := ⟨_, rfl⟩
      refine ⟨M / 16 % many, ⟨cs', l1, M, t + 1, hl'⟩, Int.emod_nonneg _ (by omega), .inl (Int.emod_lt_of_pos _ h3), ?_⟩
      have k1 : ∀ i, mulOk i 104729 = true := fun i => by simp [mulOk]
      have k2 : ∀ i, mulOk i 17 = true := fun i => by simp [mulOk]
      have k3 : ∀ i : Int, mulOk (i % 998244353) (i % 998244353) = true := fun i => by
        have a := Int.emod_nonneg i (show (998244353 : Int) ≠ 0 by decide)
        have b := Int.emod_lt_of_pos i (show (0 : Int) < 998244353 by decide)
        have c : (i % 998244353).natAbs < 2 ^ 60 := by omega
        simp [mulOk, c]
      subst d2 d1
      intro C
      rw [pRun_eq _ _ _ (by rfl)]
      simp only [pf__law_pick, hs]
      simp only [List.map_cons, List.map_nil, List.length_cons, List.length_nil, pSs_c, pS_whl]
      simp only [Nat.reduceAdd, Nat.reduceSub, List.replicate_succ, List.replicate_zero, List.cons_append, List.nil_append, e]
      simp [h1, h2, h3, h4, k1, k2, k3]
theorem pick_all : ∃ f : Src → Int → Int × Src, ∀ (S : Src) (many : Int), 0 ≤ (f S many).1 ∧ (0 < many → (f S many).1 < many) ∧ (many < 1073741824 → ∀ C, pRun C pf__law_pick [S.d, .int many] = some (.int (f S many).1, [(f S many).2.d, .int many])) := by
  have : ∀ (S : Src) (many : Int), ∃ q : Int × Src, 0 ≤ q.1 ∧ (0 < many → q.1 < many) ∧ (many < 1073741824 → ∀ C, pRun C pf__law_pick [S.d, .int many] = some (.int q.1, [q.2.d, .int many])) := fun S many => by
    by_cases h : many < 1073741824
    · obtain ⟨r, S', h1, h2, h3⟩ := pick_ex S many h
      exact ⟨(r, S'), h1, fun h0 => by rcases h2 with q | q <;> omega, fun _ => h3⟩
    · exact ⟨(0, S), Int.le_refl _, fun h0 => h0, fun q => absurd q h⟩
  exact ⟨fun S many => Classical.choose (this S many), fun S many => Classical.choose_spec (this S many)⟩
/-- what is drawn, and the source behind it -/
noncomputable def pick : Src → Int → Int × Src := Classical.choose pick_all
theorem pick_lo (S : Src) (many : Int) : 0 ≤ (pick S many).1 := (Classical.choose_spec pick_all S many).1
theorem pick_hi (S : Src) {many : Int} (h0 : 0 < many) : (pick S many).1 < many := (Classical.choose_spec pick_all S many).2.1 h0
theorem pick_run (S : Src) (many : Int) (h : many < 1073741824) (C : PFS) : pRun C pf__law_pick [S.d, .int many] = some (.int (pick S many).1, [(pick S many).2.d, .int many]) := (Classical.choose_spec pick_all S many).2.2 h C

/-- what a table of defs says of pick, at the number p -/
def Picks (C : PFS) (p : Nat) : Prop := ∀ (S : Src) (many : Int), many < 1073741824 → C p [S.d, .int many] = some (.int (pick S many).1, [(pick S many).2.d, .int many])

/-! ### a thing of a list -/
def pf__law_of (p : Nat) : PFn := ⟨[false, false], 2, [
 .s (.ret (.prim .idx [(.var 1), (.call p [(.var 0), (.prim .len [(.var 1)])])]))]⟩
theorem of_l {C : PFS} {p : Nat} (hp : Picks C p) {α : Type} (f : α → D) (S : Src) (xs : List α) (h : xs ≠ []) (hl : xs.length < 1000000) : ∃ x ∈ xs, pRun C (pf__law_of p) [S.d, .list (xs.map f)] = some (f x, [(pick S xs.length).2.d, .list (xs.map f)]) := by
  have h1 := pick_lo S xs.length
  have h2 := pick_hi S (many := xs.length) (by have := List.length_pos_iff.mpr h; omega)
  have hlt : (pick S xs.length).1.toNat < xs.length := by omega
  refine ⟨xs[(pick S xs.length).1.toNat], List.getElem_mem hlt, ?_⟩
  rw [pRun_eq _ _ _ (by rfl)]
  have hc := hp S xs.length (by omega)
  simp [pf__law_of, hc]
  rw [pIdx_l h1 (List.getElem?_eq_getElem hlt)]
  simp
theorem of_t {C : PFS} {p : Nat} (hp : Picks C p) {α : Type} (f : α → D) (hf : ∀ x, imm (f x) = true) (S : Src) (xs : List α) (h : xs ≠ []) (hl : xs.length < 1000000) : ∃ x ∈ xs, pRun C (pf__law_of p) [S.d, .tuple (xs.map f)] = some (f x, [(pick S xs.length).2.d, .tuple (xs.map f)]) := by
  have h1 := pick_lo S xs.length
  have h2 := pick_hi S (many := xs.length) (by have := List.length_pos_iff.mpr h; omega)
  have hlt : (pick S xs.length).1.toNat < xs.length := by omega
  refine ⟨xs[(pick S xs.length).1.toNat], List.getElem_mem hlt, ?_⟩
  rw [pRun_eq _ _ _ (by rfl)]
  have hc := hp S xs.length (by omega)
  simp [pf__law_of, hc, immAll_map hf]
  rw [pIdx_t h1 (List.getElem?_eq_getElem hlt)]
  simp

/-! ### pairs -/
def prs (n : Int) : List (Int × Int) := (rg 0 n).flatMap fun a => (rg (a + 1) n).map fun b => (a, b)
theorem mem_prs {n a b : Int} : (a, b) ∈ prs n ↔ 0 ≤ a ∧ a < b ∧ b < n := by
  unfold prs
  simp only [List.mem_flatMap, List.mem_map, mem_rg, Prod.mk.injEq]
  constructor
  · rintro ⟨x, hx, y, hy, rfl, rfl⟩; omega
  · rintro ⟨h1, h2, h3⟩; exact ⟨a, by omega, b, by omega, rfl, rfl⟩
def q1__law_pairs : Ex := .comp (.tup [(.var 2), (.var 3)]) (.nm 3) .rng2 [(.prim .add [(.var 2), (.cst (.int 1))]), (.var 0)] [] [3]
@[simp] theorem q1__law_pairs_os (C : PFS) (es : List Ex) (env : PEn) : pOs C (q1__law_pairs :: es) env = (pE C q1__law_pairs env).bind fun r => (pOs C es r.2).map fun q => (.tmp r.1 :: q.1, q.2) := rfl
def b1__law_pairs : List PSt := [
 .s (.asg (.nm 1) (.prim .add [(.var 1), q1__law_pairs])),
 .wipe [2]]
def pf__law_pairs : PFn := ⟨[false], 4, [
 .s (.asg (.nm 1) (.lst [])),
 .for (.nm 2) .rng1 [(.var 0)] b1__law_pairs,
 .wipe [2, 3],
 .s (.ret (.var 1))]⟩
theorem fold_flat {α β : Type} (g : α → List β) : ∀ (xs : List α) (acc : List β), xs.foldl (fun acc x => acc ++ g x) acc = acc ++ xs.flatMap g
  | [], acc => by simp
  | x :: xs, acc => by rw [List.foldl_cons, fold_flat g xs, List.flatMap_cons, List.append_assoc]
theorem pairs_ok (C : PFS) (n : Int) (h0 : 0 ≤ n) (h1 : n ≤ 100) : pRun C pf__law_pairs [.int n] = some (.list ((prs n).map pD), [.int n]) := by
  have hq : ∀ (acc : D) (a : Int), 0 ≤ a → a < n → pE C q1__law_pairs [some (.int n), some acc, some (.int a), none] = some (.list (((rg (a + 1) n).map fun b => (a, b)).map pD), [some (.int n), some acc, some (.int a), none]) := fun acc a ha hb => by
    rw [List.map_map]
    exact comp_all (C := C) (q := q1__law_pairs) rfl (env1 := [some (.int n), some acc, some (.int a), none]) (rg (a + 1) n) PyData.int (fun b => pD (a, b)) (by simp [pIts, rgOk_of (a := a + 1) (b := n) (by omega) (by omega) (by omega) (by omega)]) (by rw [len_rg]; unfold big; omega) (fun b hb => ⟨[some (.int n), some acc, some (.int a), some (.int b)], by simp, by simp [pD], by simp⟩)
  have key : ∀ (xs : List Int) (acc : List (Int × Int)), (∀ x ∈ xs, 0 ≤ x ∧ x < n) → acc.length + xs.length * 100 ≤ 500000 → pFor (.nm 2) (pSs C 1 b1__law_pairs) (xs.map .int) [some (.int n), some (.list (acc.map pD)), none, none] = some (.next [some (.int n), some (.list ((acc ++ xs.flatMap fun a => (rg (a + 1) n).map fun b => (a, b)).map pD)), none, none]) := by
    intro xs
    induction xs with
    | nil => intro acc _ _; simp [pFor]
    | cons x xs ih =>
      intro acc hx hl
      obtain ⟨x0, x1⟩ := hx x (List.mem_cons_self ..)
      simp only [List.length_cons] at hl
      have hr : (rg (x + 1) n).length ≤ 100 := by rw [len_rg]; omega
      have hb : acc.length + (n - (x + 1)).toNat ≤ big := by
        rw [len_rg] at hr; unfold big; omega
      have := ih (acc ++ (rg (x + 1) n).map fun b => (x, b)) (fun y hy => hx y (List.mem_cons_of_mem _ hy)) (by rw [List.length_append, List.length_map]; omega)
      rw [List.map_cons, pFor]
      have hb' : pSs C 1 b1__law_pairs [some (.int n), some (.list (acc.map pD)), some (.int x), none] = some (.next [some (.int n), some (.list ((acc ++ (rg (x + 1) n).map fun b => (x, b)).map pD)), none, none]) := by
        have hq' := hq (.list (acc.map pD)) x x0 x1
        simp only [b1__law_pairs, pSs_c, pS_s, pT_asg, pE_prim, pOs_v, q1__law_pairs_os, getP_z, getP_s, Option.bind_some, hq', imm_list]
        simp [hb]
      simp only [pAssign_nm, pStore_s, pStore_z, Option.map_some, Option.bind_some, hb', this, List.flatMap_cons, List.append_assoc]
  rw [pRun_eq _ _ _ (by rfl)]
  have := key (rg 0 n) [] (fun x hx => by simpa using hx) (by rw [len_rg]; simp; omega)
  simp only [List.map_nil, List.nil_append] at this
  simp [pf__law_pairs, rgOk_of (a := 0) (b := n) (by omega) (by omega) (by omega) (by omega), this, prs]

/-! ### things in a drawn order -/
noncomputable def mixG {α : Type} (_ : Int) (s : List α × Src) : Option α × (List α × Src) :=
  (s.1[(pick s.2 s.1.length).1.toNat]?, (s.1.eraseIdx (pick s.2 s.1.length).1.toNat, (pick s.2 s.1.length).2))
theorem erase_perm {α : Type} : ∀ (l : List α) (i : Nat) (h : i < l.length), (l[i] :: l.eraseIdx i).Perm l
  | [], i, h => by simp at h
  | x :: l, 0, h => List.Perm.refl _
  | x :: l, i + 1, h => by
    simp only [List.getElem_cons_succ, List.eraseIdx_cons_succ]
    exact (List.Perm.swap x _ _).trans ((erase_perm l i (by simpa using h)).cons x)
theorem map_erase {α β : Type} (f : α → β) : ∀ (l : List α) (i : Nat), (l.map f).eraseIdx i = (l.eraseIdx i).map f
  | [], i => rfl
  | x :: l, 0 => rfl
  | x :: l, i + 1 => by simp [map_erase f l i]
theorem mix_perm {α : Type} : ∀ (k : List Int) (s : List α × Src), s.1.length = k.length → ((compF mixG k s).1).Perm s.1
  | [], s, h => by
    have : s.1 = [] := List.eq_nil_of_length_eq_zero h
    rw [this]
    exact List.Perm.refl _
  | x :: xs, s, h => by
    simp only [List.length_cons] at h
    have h2 := pick_hi s.2 (many := s.1.length) (by omega)
    have h1 := pick_lo s.2 s.1.length
    have hlt : (pick s.2 s.1.length).1.toNat < s.1.length := by omega
    simp only [compF, mixG, List.getElem?_eq_getElem hlt]
    have ih := mix_perm xs (s.1.eraseIdx (pick s.2 s.1.length).1.toNat, (pick s.2 s.1.length).2) (by
      rw [List.length_eraseIdx_of_lt hlt]; omega)
    refine (List.Perm.cons _ ih).trans ?_
    exact erase_perm _ _ hlt
def q1__law_mixed (p : Nat) : Ex := .comp (.meth .popAt 2 [(.call p [(.var 0), (.prim .len [(.var 2)])])]) (.nm 3) .rng1 [(.prim .len [(.var 2)])] [] [3]
def pf__law_mixed (p : Nat) : PFn := ⟨[false, false], 4, [
 .s (.asg (.nm 2) (.prim .listOf [(.var 1)])),
 .s (.ret (q1__law_mixed p))]⟩
theorem mixed_ok {C : PFS} {p : Nat} (hp : Picks C p) {α : Type} (f : α → D) (S : Src) (xs : List α) (hl : xs.length < 1000) : ∃ (ys : List α) (S' : Src), ys.Perm xs ∧ pRun C (pf__law_mixed p) [S.d, .list (xs.map f)] = some (.list (ys.map f), [S'.d, .list (xs.map f)]) := by
  have hc := comp_st (C := C) (q := q1__law_mixed p) rfl (env := [some S.d, some (.list (xs.map f)), some (.list (xs.map f)), none]) (env1 := [some S.d, some (.list (xs.map f)), some (.list (xs.map f)), none])
    (fun s : List α × Src => [some s.2.d, some (.list (xs.map f)), some (.list (s.1.map f)), none]) (fun ys s => s.1.length = ys.length ∧ s.1.length < 1000) (rg 0 xs.length) PyData.int f mixG (xs, S) (by simp [pIts, rgOk_of (a := 0) (b := xs.length) (by omega) (by omega) (by omega) (by omega)]) (by rw [len_rg]; unfold big; omega) (by rw [len_rg]; simp [hl]) (by simp) (fun x hx ys s h => by
      obtain ⟨h, h'⟩ := h
      simp only [List.length_cons] at h
      have h2 := pick_hi s.2 (many := s.1.length) (by omega)
      have h1 := pick_lo s.2 s.1.length
      have hlt : (pick s.2 s.1.length).1.toNat < s.1.length := by omega
      have hc := hp s.2 s.1.length (by omega)
      simp only [mixG, List.getElem?_eq_getElem hlt]
      refine ⟨by rw [List.length_eraseIdx_of_lt hlt]; omega, [some s.2.d, some (.list (xs.map f)), some (.list (s.1.map f)), some (.int x)], by simp, [some s.2.d, some (.list (xs.map f)), some (.list (s.1.map f)), some (.int x)], [some (pick s.2 s.1.length).2.d, some (.list (xs.map f)), some (.list ((s.1.eraseIdx (pick s.2 s.1.length).1.toNat).map f)), some (.int x)], by simp, ?_, by simp⟩
      have h3 : (pick s.2 s.1.length).1 ≤ 1000000 := by omega
      simp [hc, h1, h3, List.getElem?_eq_getElem hlt, map_erase])
  obtain ⟨hc, _⟩ := hc
  refine ⟨_, (compF mixG (rg 0 xs.length) (xs, S)).2.2, mix_perm (rg 0 xs.length) (xs, S) (by rw [len_rg]; simp), ?_⟩
  rw [pRun_eq _ _ _ (by rfl)]
  simp [pf__law_mixed, hc]
end Ev.Lib
set_option maxRecDepth 100000
set_option maxHeartbeats 4000000
/-! The laws' own drawn webs. -/
namespace Ev.Lib
open PySem Ev

def webD (n : Int) (rs : List (Int × Int)) : D := .tuple [.int n, .tuple (rs.map pD)]
@[simp] theorem imm_webD (n : Int) (rs : List (Int × Int)) : imm (webD n rs) = true := by simp [webD]
@[simp] theorem webD_0 (n : Int) (rs : List (Int × Int)) : pIdx (webD n rs) (.int 0) = some (.int n) := by simp [webD]
@[simp] theorem webD_1 (n : Int) (rs : List (Int × Int)) : pIdx (webD n rs) (.int 1) = some (.tuple (rs.map pD)) := by simp [webD]
def ltP (p q : Int × Int) : Prop := p.1 < q.1 ∨ (p.1 = q.1 ∧ p.2 < q.2)
/-- a told web -/
structure WebOk (n : Int) (rs : List (Int × Int)) : Prop where
  pos : 1 ≤ n
  in_ : ∀ p ∈ rs, 0 ≤ p.1 ∧ p.1 < p.2 ∧ p.2 < n
  ord : rs.Pairwise ltP
theorem prs_nodup (n : Int) : (prs n).Pairwise ltP := by
  unfold prs
  rw [List.pairwise_flatMap]
  constructor
  · intro a ha
    rw [List.pairwise_map]
    unfold rg
    rw [List.pairwise_map]
    exact List.pairwise_lt_range.imp (fun h => .inr ⟨rfl, by omega⟩)
  · have : (rg 0 n).Pairwise (· < ·) := by
      unfold rg
      rw [List.pairwise_map]
      exact List.pairwise_lt_range.imp (fun h => by omega)
    refine this.imp fun h x hx y hy => ?_
    obtain ⟨_, _, rfl⟩ := List.mem_map.mp hx
    obtain ⟨_, _, rfl⟩ := List.mem_map.mp hy
    exact .inl h
theorem ltP_ne {p q : Int × Int} (h : ltP p q) : p ≠ q := by
  rintro rfl
  rcases h with h | ⟨_, h⟩ <;> omega
theorem nodup_of_ord {rs : List (Int × Int)} (h : rs.Pairwise ltP) : rs.Nodup := h.imp ltP_ne
/-- sorted ones that are all unlike -/
theorem ord_sort {rs : List (Int × Int)} (h : rs.Nodup) : (sortP rs).Pairwise ltP := by
  have h1 := sortP_sorted rs
  have h2 : (sortP rs).Nodup := (sortP_perm rs).nodup_iff.mpr h
  exact (List.Pairwise.and h1 h2).imp fun {a b} q => by
    obtain ⟨q1, q2⟩ := q
    simp only [leP, decide_eq_true_eq] at q1
    rcases q1 with q1 | ⟨q1, q3⟩
    · exact .inl q1
    · refine .inr ⟨q1, ?_⟩
      have : a.2 ≠ b.2 := fun z => q2 (Prod.ext q1 z)
      omega
/-- the lesser first -/
def up (a b : Int) : Int × Int := if a ≤ b then (a, b) else (b, a)
theorem up_two (a b : Int) : ((sortI [a, b]).map PyData.int) = [.int (up a b).1, .int (up a b).2] := by
  rw [sortI_two]
  unfold up
  split <;> rfl
theorem sort_two (a b : Int) : guardO (sortOk [PyData.int a, .int b]) (PyData.list (sortD false [.int a, .int b])) = some (.list [.int (up a b).1, .int (up a b).2]) := by
  have := pSort_i (xs := [a, b]) (by simp [big])
  rw [up_two] at this
  exact this
theorem prs_len {n : Int} (h : n ≤ 100) : (prs n).length ≤ 10000 := by
  unfold prs
  rw [List.length_flatMap]
  have : ∀ (l : List Int), (∀ x ∈ l, 0 ≤ x) → ((l.map fun a => (List.map (fun b => (a, b)) (rg (a + 1) n)).length).sum ≤ l.length * 100) := by
    intro l
    induction l with
    | nil => intro _; simp
    | cons x xs ih =>
      intro hx
      have := ih (fun y hy => hx y (List.mem_cons_of_mem _ hy))
      have := hx x (List.mem_cons_self ..)
      simp only [List.map_cons, List.sum_cons, List.length_map, len_rg, List.length_cons] at *
      omega
  have := this (rg 0 n) (fun x hx => by rw [mem_rg] at hx; omega)
  rw [len_rg] at this
  omega

def q1__law_web (p pr : Nat) : Ex := .comp (.var 6) (.nm 6) .seq [(.call pr [(.var 1)])] [(.prim .gt [(.call p [(.var 0), (.var 3)]), (.cst (.int 0))])] [6]
def q2__law_web (p pr : Nat) : Ex := .comp (.var 6) (.nm 6) .seq [(.call pr [(.var 1)])] [(.prim .eq [(.call p [(.var 0), (.var 3)]), (.cst (.int 0))])] [6]
def q3__law_web (p : Nat) : Ex := .comp (.call p [(.var 0), (.cst (.int 2))]) (.nm 8) .rng1 [(.var 1)] [] [8]
def q4__law_web (pr : Nat) : Ex := .comp (.tup [(.var 9), (.var 10)]) (.tp [9, 10]) .seq [(.call pr [(.var 1)])] [(.prim .eq [(.prim .idx [(.var 7), (.var 10)]), (.cst (.int 1))])] [9, 10]
def q5__law_web (p pr : Nat) : Ex := .comp (.tup [(.var 9), (.var 10)]) (.tp [9, 10]) .seq [(.call pr [(.var 1)])] [(.orE (.prim .lt [(.var 10), (.var 11)]) (.andE (.prim .lt [(.var 9), (.var 11)]) (.prim .eq [(.call p [(.var 0), (.cst (.int 2))]), (.cst (.int 0))])))] [9, 10]
def q6__law_web (pr : Nat) : Ex := .comp (.tup [(.var 9), (.var 10)]) (.tp [9, 10]) .seq [(.call pr [(.var 1)])] [(.orE (.andE (.prim .eq [(.var 10), (.prim .add [(.var 9), (.cst (.int 1))])]) (.prim .ne [(.var 10), (.var 12)])) (.andE (.prim .lt [(.var 10), (.var 12)]) (.prim .eq [(.tup [(.var 9), (.var 10)]), (.tup [(.cst (.int 0)), (.prim .sub [(.var 12), (.cst (.int 1))])])])))] [9, 10]
def q7__law_web : Ex := .comp (.prim .tupleOf [(.prim .sorted [(.lst [(.prim .idx [(.var 4), (.var 9)]), (.prim .idx [(.var 4), (.var 10)])])])]) (.tp [9, 10]) .seq [(.var 5)] [] [9, 10]
def s1__law_web (p pr : Nat) : PSt :=
 .ite (.prim .eq [(.var 2), (.cst (.int 0))]) [
  .s (.asg (.nm 5) (q1__law_web p pr))] [
  .ite (.prim .eq [(.var 2), (.cst (.int 1))]) [
   .s (.asg (.nm 5) (q2__law_web p pr))] [
   .ite (.prim .eq [(.var 2), (.cst (.int 2))]) [
    .s (.asg (.nm 7) (q3__law_web p)),
    .s (.asg (.nm 5) (q4__law_web pr))] [
    .ite (.prim .eq [(.var 2), (.cst (.int 3))]) [
     .s (.asg (.nm 11) (.call p [(.var 0), (.prim .add [(.var 1), (.cst (.int 1))])])),
     .s (.asg (.nm 5) (q5__law_web p pr))] [
     .s (.asg (.nm 12) (.prim .add [(.cst (.int 3)), (.call p [(.var 0), (.prim .max2 [(.cst (.int 1)), (.prim .sub [(.var 1), (.cst (.int 2))])])])])),
     .s (.asg (.nm 5) (q6__law_web pr))],
    .wipe [2, 3, 11, 12]],
   .wipe [2, 3, 7]],
  .wipe [2, 3]]
def pf__law_web (p pr mx : Nat) : PFn := ⟨[false, false], 14, [
 .s (.asg (.tp [2, 3]) (.tup [(.call p [(.var 0), (.cst (.int 5))]), (.prim .add [(.cst (.int 2)), (.call p [(.var 0), (.cst (.int 4))])])])),
 .s (.asg (.nm 4) (.call mx [(.var 0), (.prim .listRg [(.var 1)])])),
 s1__law_web p pr,
 .wipe [2, 3],
 .s (.asg (.nm 13) (.prim .sorted [q7__law_web])),
 .s (.ret (.tup [(.var 1), (.prim .tupleOf [(.var 13)])]))]⟩
@[simp] theorem q7__law_web_os (C : PFS) (es : List Ex) (env : PEn) : pOs C (q7__law_web :: es) env = (pE C q7__law_web env).bind fun r => (pOs C es r.2).map fun q => (.tmp r.1 :: q.1, q.2) := rfl
/-- what a table of defs says of pairs, of mixed -/
def Pairs (C : PFS) (pr : Nat) : Prop := ∀ n : Int, 0 ≤ n → n ≤ 100 → C pr [.int n] = some (.list ((prs n).map pD), [.int n])
def Mixes (C : PFS) (mx : Nat) : Prop := ∀ (S : Src) (xs : List Int), xs.length < 1000 → ∃ (ys : List Int) (S' : Src), ys.Perm xs ∧ C mx [S.d, .list (xs.map .int)] = some (.list (ys.map .int), [S'.d, .list (xs.map .int)])

section
variable {C : PFS} {p pr mx : Nat} (hp : Picks C p) (hpr : Pairs C pr) (hmx : Mixes C mx)
include hp hpr
theorem web_roads (S : Src) (n way share : Int) (N : D) (hN : imm N = false) (h0 : 1 ≤ n) (h1 : n ≤ 100) (hs : 2 ≤ share) (hs2 : share ≤ 10) (hw : 0 ≤ way) (hw' : way < 5) : ∃ (ys : List (Int × Int)) (S' : Src), ys.Sublist (prs n) ∧
    pThen (pS C 2 (s1__law_web p pr) [some S.d, some (.int n), some (.int way), some (.int share), some N, none, none, none, none, none, none, none, none, none]) (fun e => some (.next (pWipe e [2, 3]))) = some (.next [some S'.d, some (.int n), none, none, some N, some (.list (ys.map pD)), none, none, none, none, none, none, none, none]) := by
  have hpn := hpr n (by omega) h1
  have hL : (prs n).length < big := by have := prs_len h1; unfold big; omega
  have hw2 : way = 0 ∨ way = 1 ∨ way = 2 ∨ way = 3 ∨ way = 4 := by omega
  rcases hw2 with rfl | rfl | rfl | rfl | rfl
  · obtain ⟨ys, S', i1, i2, _⟩ := comp_sub (C := C) (q := q1__law_web p pr) rfl (fun S : Src => [some S.d, some (.int n), some (.int 0), some (.int share), some N, none, none, none, none, none, none, none, none, none]) (fun _ => True) (prs n) pD pD S (env := [some S.d, some (.int n), some (.int 0), some (.int share), some N, none, none, none, none, none, none, none, none, none]) (by simp [pIts, hpn]; rfl) hL (by simp) trivial (fun x hx S _ => by
      have hc := hp S share (by omega)
      refine ⟨_, (pick S share).2, by simp; rfl, trivial, ?_⟩
      by_cases hb : 0 < (pick S share).1
      · exact .inl ⟨_, _, by simp [hc, hb]; rfl, by simp; rfl, by simp⟩
      · exact .inr ⟨_, by simp [hc, hb]; rfl, by simp⟩)
    exact ⟨ys, S', i1, by simp [s1__law_web, i2]⟩
  · obtain ⟨ys, S', i1, i2, _⟩ := comp_sub (C := C) (q := q2__law_web p pr) rfl (fun S : Src => [some S.d, some (.int n), some (.int 1), some (.int share), some N, none, none, none, none, none, none, none, none, none]) (fun _ => True) (prs n) pD pD S (env := [some S.d, some (.int n), some (.int 1), some (.int share), some N, none, none, none, none, none, none, none, none, none]) (by simp [pIts, hpn]; rfl) hL (by simp) trivial (fun x hx S _ => by
      have hc := hp S share (by omega)
      refine ⟨_, (pick S share).2, by simp; rfl, trivial, ?_⟩
      by_cases hb : (pick S share).1 = 0
      · exact .inl ⟨_, _, by simp [hc, hb]; rfl, by simp; rfl, by simp⟩
      · exact .inr ⟨_, by simp [hc, hb]; rfl, by simp⟩)
    exact ⟨ys, S', i1, by simp [s1__law_web, i2]⟩
  · obtain ⟨zs, S1, j1, j2, _⟩ := comp_each (C := C) (q := q3__law_web p) rfl (fun S : Src => [some S.d, some (.int n), some (.int 2), some (.int share), some N, none, none, none, none, none, none, none, none, none]) (fun _ => True) (fun (_ _ : Int) => True) (rg 0 n) PyData.int PyData.int S (env := [some S.d, some (.int n), some (.int 2), some (.int share), some N, none, none, none, none, none, none, none, none, none]) (by simp [pIts, rgOk_of (a := 0) (b := n) (by omega) (by omega) (by omega) (by omega)]; rfl) (by rw [len_rg]; unfold big; omega) (by simp) trivial (fun x hx S _ => by
      have hc := hp S 2 (by omega)
      exact ⟨_, (pick S 2).2, (pick S 2).1, _, by simp; rfl, trivial, trivial, by simp [hc]; rfl, by simp⟩)
    have hz : zs.length = n.toNat := by rw [← j1.len, len_rg]; simp
    obtain ⟨ys, S', i1, i2, _⟩ := comp_sub (C := C) (q := q4__law_web pr) rfl (fun S : Src => [some S.d, some (.int n), some (.int 2), some (.int share), some N, none, none, some (.list (zs.map .int)), none, none, none, none, none, none]) (fun _ => True) (prs n) pD pD S1 (env := [some S1.d, some (.int n), some (.int 2), some (.int share), some N, none, none, some (.list (zs.map .int)), none, none, none, none, none, none]) (by simp [pIts, hpn]; rfl) hL (by simp) trivial (fun x hx S _ => by
      obtain ⟨a, b⟩ := x
      rw [mem_prs] at hx
      have hb : b.toNat < zs.length := by omega
      have hi := pIdx_l (f := PyData.int) (xs := zs) (i := b) (by omega) (List.getElem?_eq_getElem hb)
      refine ⟨_, S, by simp [pD]; rfl, trivial, ?_⟩
      by_cases hq : zs[b.toNat] = 1
      · exact .inl ⟨_, _, by simp [hi, hq]; rfl, by simp [pD]; rfl, by simp⟩
      · exact .inr ⟨_, by simp [hi, hq]; rfl, by simp⟩)
    exact ⟨ys, S', i1, by simp [s1__law_web, i2, j2]⟩
  · have hc0 := hp S (n + 1) (by omega)
    generalize pick S (n + 1) = q at hc0
    obtain ⟨r, S1⟩ := q
    obtain ⟨ys, S', i1, i2, _⟩ := comp_sub (C := C) (q := q5__law_web p pr) rfl (fun S : Src => [some S.d, some (.int n), some (.int 3), some (.int share), some N, none, none, none, none, none, none, some (.int r), none, none]) (fun _ => True) (prs n) pD pD S1 (env := [some S1.d, some (.int n), some (.int 3), some (.int share), some N, none, none, none, none, none, none, some (.int r), none, none]) (by simp [pIts, hpn]; rfl) hL (by simp) trivial (fun x hx S _ => by
      obtain ⟨a, b⟩ := x
      have hc := hp S 2 (by omega)
      by_cases q1 : b < r
      · exact ⟨_, S, by simp [pD]; rfl, trivial, .inl ⟨_, _, by simp [q1]; rfl, by simp [pD]; rfl, by simp⟩⟩
      · by_cases q2 : a < r
        · by_cases q3 : (pick S 2).1 = 0
          · exact ⟨_, (pick S 2).2, by simp [pD]; rfl, trivial, .inl ⟨_, _, by simp [q1, q2, q3, hc]; rfl, by simp [pD]; rfl, by simp⟩⟩
          · exact ⟨_, (pick S 2).2, by simp [pD]; rfl, trivial, .inr ⟨_, by simp [q1, q2, q3, hc]; rfl, by simp⟩⟩
        · exact ⟨_, S, by simp [pD]; rfl, trivial, .inr ⟨_, by simp [q1, q2]; rfl, by simp⟩⟩)
    exact ⟨ys, S', i1, by simp [s1__law_web, i2, hc0]⟩
  · have hc0 := hp S (if n - 2 > 1 then n - 2 else 1) (by split <;> omega)
    generalize pick S (if n - 2 > 1 then n - 2 else 1) = q at hc0
    obtain ⟨r, S1⟩ := q
    have i2 := comp_map (C := C) (q := q6__law_web pr) rfl (env := [some S1.d, some (.int n), some (.int 4), some (.int share), some N, none, none, none, none, none, none, none, some (.int (3 + r)), none]) (prs n) pD (fun x => decide (x.2 = x.1 + 1 ∧ x.2 ≠ 3 + r) || decide (x.2 < 3 + r ∧ x.1 = 0 ∧ x.2 = 3 + r - 1)) pD (by simp [pIts, hpn]; rfl) hL (fun x hx => by
      obtain ⟨a, b⟩ := x
      refine ⟨_, by simp [pD]; rfl, ?_, fun _ => by simp [pD], by simp⟩
      simp)
    exact ⟨_, S1, List.filter_sublist, by simp [s1__law_web, i2, hc0]; rfl⟩
include hmx
theorem web_ok (S : Src) (n : Int) (h0 : 1 ≤ n) (h1 : n ≤ 100) : ∃ (rs : List (Int × Int)) (S' : Src), WebOk n rs ∧ pRun C (pf__law_web p pr mx) [S.d, .int n] = some (webD n rs, [S'.d, .int n]) := by
  have c1 := hp S 5 (by omega)
  have w1 := pick_lo S 5
  have w2 := pick_hi S (many := 5) (by omega)
  generalize pick S 5 = q1 at c1 w1 w2
  obtain ⟨way, S1⟩ := q1
  have c2 := hp S1 4 (by omega)
  have w3 := pick_lo S1 4
  have w4 := pick_hi S1 (many := 4) (by omega)
  generalize pick S1 4 = q2 at c2 w3 w4
  obtain ⟨sh, S2⟩ := q2
  simp only at c1 w1 w2 c2 w3 w4
  obtain ⟨names, S3, m1, m2⟩ := hmx S2 (rg 0 n) (by rw [len_rg]; omega)
  obtain ⟨ys, S4, r1, r2⟩ := web_roads hp hpr S3 n way (2 + sh) (.list (names.map .int)) rfl h0 h1 (by omega) (by omega) w1 w2
  have hlen : names.length = n.toNat := by rw [m1.length_eq, len_rg]; simp
  have hnd : names.Nodup := m1.nodup_iff.mpr (by
    have : (rg 0 n).Pairwise (· < ·) := by
      unfold rg
      rw [List.pairwise_map]
      exact List.pairwise_lt_range.imp (fun h => by omega)
    exact this.imp fun h => by omega)
  obtain ⟨nm, hnm⟩ : ∃ nm : Int → Int, nm = fun i => names[i.toNat]?.getD 0 := ⟨_, rfl⟩
  have get : ∀ i, 0 ≤ i → i < n → names[i.toNat]? = some (nm i) := fun i hi hj => by
    have : i.toNat < names.length := by omega
    simp [hnm, List.getElem?_eq_getElem this]
  have inn : ∀ i, 0 ≤ i → i < n → 0 ≤ nm i ∧ nm i < n := fun i hi hj => by
    have := List.mem_of_getElem? (get i hi hj)
    rw [m1.mem_iff, mem_rg] at this
    exact this
  have inj : ∀ i j, 0 ≤ i → i < n → 0 ≤ j → j < n → nm i = nm j → i = j := fun i j hi hi' hj hj' e => by
    have g1 := get i hi hi'
    have g2 := get j hj hj'
    rw [← e] at g2
    have := nodup_get hnd g1 g2
    omega
  have mem : ∀ x ∈ ys, 0 ≤ x.1 ∧ x.1 < x.2 ∧ x.2 < n := fun x hx => by
    obtain ⟨a, b⟩ := x
    exact mem_prs.mp (r1.mem hx)
  have i3 := comp_all (C := C) (q := q7__law_web) rfl (env := [some S4.d, some (.int n), none, none, some (.list (names.map .int)), some (.list (ys.map pD)), none, none, none, none, none, none, none, none]) ys pD (fun x => pD (up (nm x.1) (nm x.2))) (by simp [pIts]; rfl) (by have := prs_len h1; have := r1.length_le; unfold big; omega) (fun x hx => by
    obtain ⟨a, b⟩ := x
    obtain ⟨h2, h3, h4⟩ := mem _ hx
    simp only at h2 h3 h4
    have g1 := pIdx_l (f := PyData.int) h2 (get a h2 (by omega))
    have g2 := pIdx_l (f := PyData.int) (by omega) (get b (by omega) h4)
    exact ⟨_, by simp [pD]; rfl, by simp [g1, g2, sort_two, pD], by simp⟩)
  have hw : WebOk n (sortP (ys.map fun x => up (nm x.1) (nm x.2))) := by
    refine ⟨h0, fun q hq => ?_, ord_sort ?_⟩
    · rw [mem_sortP] at hq
      obtain ⟨x, hx, rfl⟩ := List.mem_map.mp hq
      obtain ⟨h2, h3, h4⟩ := mem _ hx
      have a1 := inn x.1 h2 (by omega)
      have a2 := inn x.2 (by omega) h4
      have a3 : nm x.1 ≠ nm x.2 := fun e => by
        have := inj _ _ h2 (by omega) (by omega) h4 e
        omega
      unfold up
      split
      · refine ⟨a1.1, ?_, a2.2⟩
        show nm x.1 < nm x.2
        omega
      · refine ⟨a2.1, ?_, a1.2⟩
        show nm x.2 < nm x.1
        omega
    · have nd : ys.Nodup := nodup_of_ord ((prs_nodup n).sublist r1)
      unfold List.Nodup
      rw [List.pairwise_map]
      refine List.Pairwise.imp_of_mem (fun {x y} hx hy hne e => ?_) nd
      obtain ⟨x1, x2, x3⟩ := mem _ hx
      obtain ⟨y1, y2, y3⟩ := mem _ hy
      have e1 : (nm x.1 = nm y.1 ∧ nm x.2 = nm y.2) ∨ (nm x.1 = nm y.2 ∧ nm x.2 = nm y.1) := by
        unfold up at e
        split at e <;> split at e <;> simp only [Prod.mk.injEq] at e
        · exact .inl e
        · exact .inr e
        · exact .inr ⟨e.2, e.1⟩
        · exact .inl ⟨e.2, e.1⟩
      rcases e1 with ⟨e1, e2⟩ | ⟨e1, e2⟩
      · exact hne (Prod.ext (inj _ _ x1 (by omega) y1 (by omega) e1) (inj _ _ (by omega) x3 (by omega) y3 e2))
      · have := inj _ _ x1 (by omega) (by omega) y3 e1
        have := inj _ _ (by omega) x3 y1 (by omega) e2
        omega
  refine ⟨_, S4, hw, ?_⟩
  clear hw
  rw [pRun_eq _ _ _ (by rfl)]
  have hr : rgOk 0 n = true := rgOk_of (by omega) (by omega) (by omega) (by omega)
  have hl : (ys.map fun x => up (nm x.1) (nm x.2)).length ≤ big := by
    rw [List.length_map]; have := prs_len h1; have := r1.length_le; unfold big; omega
  have r2' : ∀ (rest : List PSt), pThen (pS C 2 (s1__law_web p pr) [some S3.d, some (.int n), some (.int way), some (.int (2 + sh)), some (.list (names.map .int)), none, none, none, none, none, none, none, none, none]) (pSs C 2 (.wipe [2, 3] :: rest)) = pSs C 2 rest [some S4.d, some (.int n), none, none, some (.list (names.map .int)), some (.list (ys.map pD)), none, none, none, none, none, none, none, none] := fun rest => by
    cases hs : pS C 2 (s1__law_web p pr) [some S3.d, some (.int n), some (.int way), some (.int (2 + sh)), some (.list (names.map .int)), none, none, none, none, none, none, none, none, none] with
    | none => rw [hs] at r2; cases r2
    | some f =>
      rw [hs] at r2
      cases f with
      | next e =>
        simp only [pThen_next, Option.some.injEq, PFlow.next.injEq, pSs_c, pS_wipe] at r2 ⊢
        rw [r2]
      | _ => simp at r2
  have e4 : (List.map (fun x => pD (up (nm x.1) (nm x.2))) ys) = (ys.map fun x => up (nm x.1) (nm x.2)).map pD := by rw [List.map_map]; rfl
  rw [e4] at i3
  generalize (ys.map fun x => up (nm x.1) (nm x.2)) = rs at i3 hl ⊢
  simp only [pf__law_web, List.map_cons, List.map_nil, List.length_cons, List.length_nil, pSs_c, pS_s, pS_wipe]
  simp [c1, c2, hr, m2]
  rw [r2']
  simp [i3, pSort_p hl, webD]
end
end Ev.Lib
set_option maxRecDepth 100000
set_option maxHeartbeats 4000000
/-! Neighbours; webs put together crossing by crossing; drawn webs of both sorts. -/
namespace Ev.Lib
open PySem Ev

/-- the crossings at the other ends, as the roads tell them -/
def nbr (rs : List (Int × Int)) (a : Int) : List Int := rs.filterMap fun p => if p.1 = a then some p.2 else if p.2 = a then some p.1 else none
theorem mem_nbr {rs : List (Int × Int)} {a b : Int} (h : ∀ p ∈ rs, p.1 ≠ p.2) : b ∈ nbr rs a ↔ (a, b) ∈ rs ∨ (b, a) ∈ rs := by
  unfold nbr
  rw [List.mem_filterMap]
  constructor
  · rintro ⟨⟨x, y⟩, hp, e⟩
    simp only at e
    split at e
    · rename_i q; subst q; cases e; exact .inl hp
    · split at e
      · rename_i q; subst q; cases e; exact .inr hp
      · cases e
  · rintro (q | q)
    · exact ⟨(a, b), q, by simp⟩
    · refine ⟨(b, a), q, ?_⟩
      have : b ≠ a := h _ q
      simp [this]
def q1_neighbour_lots : Ex := .comp (.lst []) (.nm 2) .rng1 [(.prim .idx [(.var 0), (.cst (.int 0))])] [] [2]
def b1_neighbour_lots : List PSt := [
 .s (.ex (.methAt .append 1 (.var 3) [(.var 4)])),
 .s (.ex (.methAt .append 1 (.var 4) [(.var 3)])),
 .wipe [3, 4]]
def pf_neighbour_lots : PFn := ⟨[false], 5, [
 .s (.asg (.nm 1) q1_neighbour_lots),
 .for (.tp [3, 4]) .seq [(.prim .idx [(.var 0), (.cst (.int 1))])] b1_neighbour_lots,
 .wipe [3, 4],
 .s (.ret (.var 1))]⟩
def lotsD (f : Int → List Int) (n : Int) : D := .list ((rg 0 n).map fun a => .list ((f a).map .int))
/-- one road more -/
def addL (ls : List (List Int)) (p : Int × Int) : List (List Int) :=
  let l1 := ls.set p.1.toNat (ls[p.1.toNat]?.getD [] ++ [p.2])
  l1.set p.2.toNat (l1[p.2.toNat]?.getD [] ++ [p.1])
theorem rg_get {n : Int} {k : Nat} (h : k < n.toNat) : (rg 0 n)[k]? = some (k : Int) := by
  simp [rg, h]
theorem add_nbr {n : Int} {rs : List (Int × Int)} {p : Int × Int} (h0 : 0 ≤ p.1) (h1 : p.1 < p.2) (h2 : p.2 < n) : addL ((rg 0 n).map (nbr rs)) p = (rg 0 n).map (nbr (rs ++ [p])) := by
  obtain ⟨a, b⟩ := p
  simp only at h0 h1 h2
  unfold addL
  apply List.ext_getElem?
  intro k
  have g : ∀ k : Nat, k < n.toNat → ((rg 0 n).map (nbr rs))[k]? = some (nbr rs k) := fun k hk => by
    rw [List.getElem?_map, rg_get hk]; rfl
  have hl : ((rg 0 n).map (nbr rs)).length = n.toNat := by rw [List.length_map, len_rg]; simp
  by_cases hk : k < n.toNat
  · rw [List.getElem?_map (l := rg 0 n) (f := nbr (rs ++ [(a, b)])), rg_get hk]
    simp only [Option.map_some]
    have e : nbr (rs ++ [(a, b)]) k = nbr rs k ++ (if a = (k : Int) then [b] else if b = (k : Int) then [a] else []) := by
      unfold nbr
      rw [List.filterMap_append]
      congr 1
      simp only [List.filterMap_cons, List.filterMap_nil]
      split <;> split <;> simp_all
    rw [e]
    rw [List.getElem?_set, List.length_set, hl, List.getElem?_set, hl, List.getElem?_set]
    have ga := g a.toNat (by omega)
    have gb := g b.toNat (by omega)
    rw [hl]
    have hab : a.toNat ≠ b.toNat := by omega
    by_cases q1 : b.toNat = k
    · rw [if_pos q1, if_pos (by omega), if_neg (by omega)]
      have : (b : Int) = k := by omega
      subst this
      rw [if_neg (by omega), if_pos rfl, gb]
      simp
    · rw [if_neg q1]
      by_cases q2 : a.toNat = k
      · rw [if_pos q2, if_pos (by omega), ga]
        have : a = k := by omega
        rw [if_pos this]
        simp [this]
      · rw [if_neg q2, g k hk, if_neg (by omega), if_neg (by omega)]
        simp
  · rw [List.getElem?_eq_none (by simp; omega), List.getElem?_eq_none (by simp; omega)]
theorem nbr_len (rs : List (Int × Int)) (a : Int) : (nbr rs a).length ≤ rs.length := List.length_filterMap_le ..
theorem nlots_loop (C : PFS) {n : Int} {rs : List (Int × Int)} (hw : WebOk n rs) (h1 : n ≤ 100) (hr : rs.length ≤ 10000) (tl : PEn) : pFor (.tp [3, 4]) (pSs C 1 b1_neighbour_lots) (rs.map pD) (some (webD n rs) :: some (.list ((rg 0 n).map fun _ => .list [])) :: none :: none :: none :: tl) = some (.next (some (webD n rs) :: some (lotsD (nbr rs) n) :: none :: none :: none :: tl)) := by
  let LL : List (List Int) → D := fun ls => .list (ls.map fun l => .list (l.map .int))
  have step : ∀ (done : List (Int × Int)) (a b : Int), (∃ t, done ++ (a, b) :: t = rs) → pSs C 1 b1_neighbour_lots (some (webD n rs) :: some (LL ((rg 0 n).map (nbr done))) :: none :: some (.int a) :: some (.int b) :: tl) = some (.next (some (webD n rs) :: some (LL ((rg 0 n).map (nbr (done ++ [(a, b)])))) :: none :: none :: none :: tl)) := fun done a b ht => by
    obtain ⟨t, ht⟩ := ht
    obtain ⟨h2, h3, h4⟩ := hw.in_ (a, b) (by rw [← ht]; simp)
    simp only at h2 h3 h4
    rw [← add_nbr h2 h3 h4]
    generalize hls : (rg 0 n).map (nbr done) = ls
    have hl : ls.length = n.toNat := by rw [← hls, List.length_map, len_rg]; simp
    have hb : ∀ l ∈ ls, l.length ≤ 10000 := fun l hl => by
      rw [← hls] at hl
      obtain ⟨x, _, rfl⟩ := List.mem_map.mp hl
      have := nbr_len done x
      have : done.length ≤ rs.length := by rw [← ht]; simp
      omega
    have ha1 : a.toNat < ls.length := by omega
    have g1 := pIdx_l (f := fun l : List Int => PyData.list (l.map .int)) (xs := ls) (i := a) h2 (List.getElem?_eq_getElem ha1)
    have k1 : ls[a.toNat].length < big := by have := hb _ (List.getElem_mem ha1); unfold big; omega
    have p1 := putAt_of (f := fun l : List Int => PyData.list (l.map .int)) (xs := ls) (i := a) (ls[a.toNat] ++ [b]) h2 (by omega)
    generalize hl1 : ls.set a.toNat (ls[a.toNat] ++ [b]) = l1 at p1
    have hl1' : l1.length = n.toNat := by rw [← hl1, List.length_set, hl]
    have hb1 : b.toNat < l1.length := by omega
    have g2 := pIdx_l (f := fun l : List Int => PyData.list (l.map .int)) (xs := l1) (i := b) (by omega) (List.getElem?_eq_getElem hb1)
    have hb' : ∀ l ∈ l1, l.length ≤ 10001 := fun l hl => by
      rw [← hl1] at hl
      rcases List.mem_or_eq_of_mem_set hl with q | q
      · have := hb _ q; omega
      · rw [q, List.length_append]
        have := hb _ (List.getElem_mem ha1)
        simp only [List.length_cons, List.length_nil]
        omega
    have k2 : l1[b.toNat].length < big := by
      have := hb' _ (List.getElem_mem hb1); unfold big; omega
    have p2 := putAt_of (f := fun l : List Int => PyData.list (l.map .int)) (xs := l1) (i := b) (l1[b.toNat] ++ [a]) (by omega) (by omega)
    have e : addL ls (a, b) = l1.set b.toNat (l1[b.toNat] ++ [a]) := by
      unfold addL
      simp only [List.getElem?_eq_getElem ha1, Option.getD_some, hl1, List.getElem?_eq_getElem hb1]
    rw [e]
    simp only [List.map_append, List.map_cons, List.map_nil] at p1 p2
    simp [b1_neighbour_lots, LL, g1, g2, k1, k2, p1, p2]
  have key : ∀ (todo done : List (Int × Int)), done ++ todo = rs → pFor (.tp [3, 4]) (pSs C 1 b1_neighbour_lots) (todo.map pD) (some (webD n rs) :: some (LL ((rg 0 n).map (nbr done))) :: none :: none :: none :: tl) = some (.next (some (webD n rs) :: some (LL ((rg 0 n).map (nbr rs))) :: none :: none :: none :: tl)) := by
    intro todo
    induction todo with
    | nil => intro done h; rw [List.append_nil] at h; subst h; rfl
    | cons x todo ih =>
      intro done h
      obtain ⟨a, b⟩ := x
      have := ih (done ++ [(a, b)]) (by rw [List.append_assoc]; exact h)
      have hs := step done a b ⟨todo, h⟩
      simp only [List.map_cons, pFor, pD, pAssign_tp, pStoreAll_c, pStoreAll_n, pStore_s, pStore_z, Option.map_some, Option.bind_some, hs, this]
  have h0 := key rs [] rfl
  have e0 : LL ((rg 0 n).map (nbr [])) = .list ((rg 0 n).map fun _ => .list []) := by
    simp [LL, nbr]
  rw [e0] at h0
  have e1 : LL ((rg 0 n).map (nbr rs)) = lotsD (nbr rs) n := by simp [LL, lotsD]
  rw [e1] at h0
  exact h0
theorem nlots_ok (C : PFS) {n : Int} {rs : List (Int × Int)} (hw : WebOk n rs) (h1 : n ≤ 100) (hr : rs.length ≤ 10000) : pRun C pf_neighbour_lots [webD n rs] = some (lotsD (nbr rs) n, [webD n rs]) := by
  have hg := rgOk_of (a := 0) (b := n) (by omega) (by omega) (by have := hw.pos; omega) (by omega)
  have c1 := comp_all (C := C) (q := q1_neighbour_lots) rfl (env := [some (webD n rs), none, none, none, none]) (rg 0 n) PyData.int (fun _ => .list []) (by simp [pIts, hg]; rfl) (by rw [len_rg]; unfold big; omega) (fun x _ => ⟨_, by simp; rfl, by simp, by simp⟩)
  have h0 := nlots_loop C hw h1 hr []
  rw [pRun_eq _ _ _ (by rfl)]
  simp [pf_neighbour_lots, c1, h0]

def q2__law_near : Ex := .comp (.prim .sorted [(.var 5)]) (.nm 5) .seq [(.var 1)] [] [5]
def pf__law_near : PFn := ⟨[false], 6, [
 .s (.asg (.nm 1) q1_neighbour_lots),
 .for (.tp [3, 4]) .seq [(.prim .idx [(.var 0), (.cst (.int 1))])] b1_neighbour_lots,
 .wipe [3, 4],
 .s (.ret q2__law_near)]⟩
theorem near_ok (C : PFS) {n : Int} {rs : List (Int × Int)} (hw : WebOk n rs) (h1 : n ≤ 100) (hr : rs.length ≤ 10000) : pRun C pf__law_near [webD n rs] = some (lotsD (fun a => sortI (nbr rs a)) n, [webD n rs]) := by
  have hg := rgOk_of (a := 0) (b := n) (by omega) (by omega) (by have := hw.pos; omega) (by omega)
  have c1 := comp_all (C := C) (q := q1_neighbour_lots) rfl (env := [some (webD n rs), none, none, none, none, none]) (rg 0 n) PyData.int (fun _ => .list []) (by simp [pIts, hg]; rfl) (by rw [len_rg]; unfold big; omega) (fun x _ => ⟨_, by simp; rfl, by simp, by simp⟩)
  have h0 := nlots_loop C hw h1 hr [none]
  have c2 := comp_all (C := C) (q := q2__law_near) rfl (env := [some (webD n rs), some (lotsD (nbr rs) n), none, none, none, none]) (rg 0 n) (fun a => .list ((nbr rs a).map .int)) (fun a => .list ((sortI (nbr rs a)).map .int)) (by simp [pIts, lotsD]; rfl) (by rw [len_rg]; unfold big; omega) (fun x _ => ⟨_, by simp; rfl, by
    have := pSort_i (xs := nbr rs x) (by have := nbr_len rs x; unfold big; omega)
    simp [this], by simp⟩)
  rw [pRun_eq _ _ _ (by rfl)]
  simp [pf__law_near, c1, h0, c2]
  rfl
/-- a lot by its number -/
theorem lots_get {f : Int → List Int} {n a : Int} (h0 : 0 ≤ a) (h1 : a < n) : pIdx (lotsD f n) (.int a) = some (.list ((f a).map .int)) := by
  unfold lotsD
  have := pIdx_l (f := fun a => PyData.list ((f a).map .int)) (xs := rg 0 n) (i := a) (x := a) h0 (by rw [rg_get (by omega)]; congr 1; omega)
  exact this
@[simp] theorem imm_lots (f : Int → List Int) (n : Int) : imm (lotsD f n) = false := rfl

/-! ### words -/
def wordD (w : List (Int × Int)) : D := .tuple (w.map pD)
@[simp] theorem imm_wordD (w : List (Int × Int)) : imm (wordD w) = true := by simp [wordD]
/-- the roads that a crossing of a word brings, the crossings so far -/
def wordStep (s : List (Int × Int) × List Int) (p : Int × Int) : List (Int × Int) × List Int := (s.1 ++ (if p.2 = 1 then s.2.map (up p.1) else []), s.2 ++ [p.1])
/-- a word: crossings once each, letters 0 and 1 -/
structure WordOk (n : Int) (w : List (Int × Int)) : Prop where
  pos : 1 ≤ n
  perm : (w.map (·.1)).Perm (rg 0 n)
  bits : ∀ p ∈ w, p.2 = 0 ∨ p.2 = 1
def wordRds (w : List (Int × Int)) : List (Int × Int) := (w.foldl wordStep ([], [])).1
def q1__law_word_web : Ex := .comp (.prim .tupleOf [(.prim .sorted [(.lst [(.var 3), (.var 5)])])]) (.nm 5) .seq [(.var 2)] [] [5]
@[simp] theorem q1__law_word_web_os (C : PFS) (es : List Ex) (env : PEn) : pOs C (q1__law_word_web :: es) env = (pE C q1__law_word_web env).bind fun r => (pOs C es r.2).map fun q => (.tmp r.1 :: q.1, q.2) := rfl
def b1__law_word_web : List PSt := [
 .s (.asg (.nm 1) (.prim .add [(.var 1), (.prim .mul [q1__law_word_web, (.var 4)])])),
 .s (.ex (.meth .append 2 [(.var 3)])),
 .wipe [3, 4]]
def pf__law_word_web : PFn := ⟨[false], 6, [
 .s (.par [1, 2] [(.lst []), (.lst [])]),
 .for (.tp [3, 4]) .seq [(.var 0)] b1__law_word_web,
 .wipe [2, 3, 4, 5],
 .s (.ret (.tup [(.prim .len [(.var 0)]), (.prim .tupleOf [(.prim .sorted [(.var 1)])])]))]⟩
theorem word_len {n : Int} {w : List (Int × Int)} (h : WordOk n w) : w.length = n.toNat := by
  have := h.perm.length_eq
  rw [List.length_map, len_rg] at this
  simpa using this
theorem word_fold : ∀ (w : List (Int × Int)) (s : List (Int × Int) × List Int), (w.foldl wordStep s).2 = s.2 ++ w.map (·.1) ∧ (w.foldl wordStep s).1.length ≤ s.1.length + w.length * (s.2.length + w.length)
  | [], s => by simp
  | p :: w, s => by
    obtain ⟨h1, h2⟩ := word_fold w (wordStep s p)
    rw [List.foldl_cons]
    refine ⟨by rw [h1]; simp [wordStep], Nat.le_trans h2 ?_⟩
    have a : (wordStep s p).1.length ≤ s.1.length + s.2.length := by
      unfold wordStep
      simp only [List.length_append]
      split <;> simp
    have b : (wordStep s p).2.length = s.2.length + 1 := by simp [wordStep]
    rw [b, List.length_cons]
    have : (w.length + 1) * (s.2.length + (w.length + 1)) = w.length * (s.2.length + 1 + w.length) + (s.2.length + (w.length + 1)) := by
      rw [Nat.add_mul, Nat.one_mul]
      congr 2
      omega
    omega
theorem repL_0 (xs : List D) : repL 0 xs = [] := by simp [repL]
theorem repL_1 (xs : List D) : repL 1 xs = xs := by simp [repL]
theorem word_web_run (C : PFS) {n : Int} {w : List (Int × Int)} (hw : WordOk n w) (h1 : n ≤ 100) : pRun C pf__law_word_web [wordD w] = some (webD n (sortP (wordRds w)), [wordD w]) := by
  have hlen := word_len hw
  have hq : ∀ (c l : Int) (A : D) (ah : List Int), ah.length ≤ 200 → pE C q1__law_word_web [some (wordD w), some A, some (.list (ah.map .int)), some (.int c), some (.int l), none] = some (.list ((ah.map (up c)).map pD), [some (wordD w), some A, some (.list (ah.map .int)), some (.int c), some (.int l), none]) := fun c l A ah hl => by
    rw [List.map_map]
    exact comp_all (C := C) (q := q1__law_word_web) rfl (env1 := [some (wordD w), some A, some (.list (ah.map .int)), some (.int c), some (.int l), none]) ah PyData.int (fun x => pD (up c x)) (by simp [pIts]) (by unfold big; omega) (fun x _ => ⟨_, by simp; rfl, by simp [sort_two, pD], by simp⟩)
  obtain ⟨h2, _⟩ := pFor_fold (tg := .tp [3, 4]) (b := pSs C 1 b1__law_word_web) (σ := List (Int × Int) × List Int) (fun s => [some (wordD w), some (.list (s.1.map pD)), some (.list (s.2.map .int)), none, none, none]) (fun ys s => s.2.length + ys.length ≤ 100 ∧ s.1.length + ys.length * 1000 ≤ 500000) pD wordStep w ([], []) (by simp; omega) (fun p hp ys s hs => by
    obtain ⟨c, l⟩ := p
    simp only [List.length_cons] at hs
    have hb := hw.bits _ hp
    simp only at hb
    refine ⟨?_, _, by simp [pD]; rfl, .inl ?_⟩
    · unfold wordStep
      simp only [List.length_append, List.length_cons, List.length_nil]
      refine ⟨by omega, ?_⟩
      split
      · rw [List.length_map]; omega
      · simp; omega
    · have q := hq c l (.list (s.1.map pD)) s.2 (by omega)
      have hX : (s.2.map (up c)).length ≤ 200 := by rw [List.length_map]; omega
      have k1 : s.2.length < big := by unfold big; omega
      rcases hb with rfl | rfl
      · have e : wordStep s (c, 0) = (s.1, s.2 ++ [c]) := by simp [wordStep]
        rw [e]
        have k2 : s.1.length ≤ big := by unfold big; omega
        generalize s.2.map (up c) = X at q hX
        have k3 : (0 : Nat) ≤ big := by unfold big; omega
        simp [b1__law_word_web, q, repL_0, k1, k2, k3]
      · have e : wordStep s (c, 1) = (s.1 ++ s.2.map (up c), s.2 ++ [c]) := by simp [wordStep]
        rw [e]
        generalize s.2.map (up c) = X at q hX
        have k2 : s.1.length + X.length ≤ big := by unfold big; omega
        have k3 : X.length ≤ big ∧ 1 ≤ big := by unfold big; omega
        simp [b1__law_word_web, q, repL_1, k1, k2, k3])
  have hl : (wordRds w).length ≤ big := by
    have := (word_fold w ([], [])).2
    unfold wordRds
    simp only [List.length_nil, Nat.zero_add] at this
    have : w.length * w.length ≤ 100 * 100 := Nat.mul_le_mul (by omega) (by omega)
    unfold big; omega
  have hn : (w.length : Int) = n := by have := hw.pos; omega
  have hr : (List.foldl wordStep ([], []) w).1 = wordRds w := rfl
  simp only [List.map_nil] at h2
  rw [hr] at h2
  rw [pRun_eq _ _ _ (by rfl)]
  simp [wordD] at h2
  simp [pf__law_word_web, wordD, h2, pSort_p hl, hn, webD]
end Ev.Lib
set_option maxRecDepth 100000
set_option maxHeartbeats 4000000
/-! Words drawn, their webs; drawn webs of both sorts. -/
namespace Ev.Lib
open PySem Ev

theorem up_lt {a b : Int} (h : a ≠ b) : (up a b).1 < (up a b).2 := by
  unfold up
  split
  · show a < b; omega
  · show b < a; omega
theorem up_cases (a b : Int) : (up a b = (a, b) ∧ a ≤ b) ∨ (up a b = (b, a) ∧ b < a) := by
  unfold up
  split
  · exact .inl ⟨rfl, by assumption⟩
  · exact .inr ⟨rfl, by omega⟩
structure WInv (s : List (Int × Int) × List Int) : Prop where
  nd : s.2.Nodup
  mem : ∀ q ∈ s.1, q.1 < q.2 ∧ q.1 ∈ s.2 ∧ q.2 ∈ s.2
  nr : s.1.Nodup
theorem word_inv : ∀ (w : List (Int × Int)) (s : List (Int × Int) × List Int), WInv s → (s.2 ++ w.map (·.1)).Nodup → WInv (w.foldl wordStep s)
  | [], s, h, _ => h
  | (c, l) :: w, s, h, hn => by
    rw [List.foldl_cons]
    have hn' : (s.2 ++ [c]).Nodup := by
      rw [List.map_cons, List.append_cons] at hn
      exact (List.nodup_append.mp hn).1
    have hc : c ∉ s.2 := fun q => by
      have := (List.nodup_append.mp hn').2.2 c q c (by simp)
      exact this rfl
    refine word_inv w _ ⟨hn', fun q hq => ?_, ?_⟩ (by simpa [wordStep] using hn)
    · simp only [wordStep, List.mem_append] at hq ⊢
      rcases hq with hq | hq
      · obtain ⟨h1, h2, h3⟩ := h.mem q hq
        exact ⟨h1, .inl h2, .inl h3⟩
      · split at hq
        · obtain ⟨x, hx, rfl⟩ := List.mem_map.mp hq
          have hne : c ≠ x := fun e => hc (e ▸ hx)
          refine ⟨up_lt hne, ?_⟩
          rcases up_cases c x with ⟨e, _⟩ | ⟨e, _⟩ <;> rw [e] <;> simp [hx]
        · cases hq
    · simp only [wordStep]
      split
      · rw [List.nodup_append]
        refine ⟨h.nr, ?_, fun a ha b hb e => ?_⟩
        · unfold List.Nodup
          rw [List.pairwise_map]
          refine List.Pairwise.imp_of_mem (fun {x y} hx hy hne e => ?_) h.nd
          have hx' : c ≠ x := fun e => hc (e ▸ hx)
          have hy' : c ≠ y := fun e => hc (e ▸ hy)
          rcases up_cases c x with ⟨e1, _⟩ | ⟨e1, _⟩ <;> rcases up_cases c y with ⟨e2, _⟩ | ⟨e2, _⟩ <;> rw [e1, e2] at e <;> simp only [Prod.mk.injEq] at e
          · exact hne e.2
          · exact hy' e.1
          · exact hx' e.1.symm
          · exact hne e.1
        · obtain ⟨x, hx, rfl⟩ := List.mem_map.mp hb
          subst e
          obtain ⟨_, h2, h3⟩ := h.mem _ ha
          rcases up_cases c x with ⟨e1, _⟩ | ⟨e1, _⟩ <;> rw [e1] at h2 h3
          · exact hc h2
          · exact hc h3
      · simpa using h.nr
theorem rg_nodup (a b : Int) : (rg a b).Nodup := by
  have : (rg a b).Pairwise (· < ·) := by
    unfold rg
    rw [List.pairwise_map]
    exact List.pairwise_lt_range.imp (fun h => by omega)
  exact this.imp fun h => by omega
theorem word_web_ok {n : Int} {w : List (Int × Int)} (hw : WordOk n w) : WebOk n (sortP (wordRds w)) := by
  have hn : (([] : List Int) ++ w.map (·.1)).Nodup := by
    rw [List.nil_append]
    exact hw.perm.nodup_iff.mpr (rg_nodup 0 n)
  have I := word_inv w ([], []) ⟨List.nodup_nil, (fun _ h => by cases h), List.nodup_nil⟩ hn
  have e : (w.foldl wordStep ([], [])).2 = w.map (·.1) := by rw [(word_fold w ([], [])).1]; rfl
  refine ⟨hw.pos, fun q hq => ?_, ord_sort I.nr⟩
  rw [mem_sortP] at hq
  obtain ⟨h1, h2, h3⟩ := I.mem q hq
  rw [e, hw.perm.mem_iff, mem_rg] at h2 h3
  exact ⟨h2.1, h1, h3.2⟩

theorem enum_map {α : Type} (f : α → D) : ∀ (xs : List α) (k : Nat), enumFrom k (xs.map f) = (xs.zipIdx k).map fun p => .tuple [.int p.2, f p.1]
  | [], k => rfl
  | x :: xs, k => by rw [List.map_cons, enumFrom, enum_map f xs (k + 1), List.zipIdx_cons, List.map_cons]
def q1__law_drawn_word (p : Nat) : Ex := .comp (.tup [(.var 4), (.ite (.prim .eq [(.var 3), (.cst (.int 0))]) (.cst (.int 0)) (.call p [(.var 0), (.cst (.int 2))]))]) (.tp [3, 4]) .enum [(.var 2)] [] [3, 4]
def pf__law_drawn_word (p mx : Nat) : PFn := ⟨[false, false], 5, [
 .s (.asg (.nm 2) (.call mx [(.var 0), (.prim .listRg [(.var 1)])])),
 .s (.ret (.prim .tupleOf [q1__law_drawn_word p]))]⟩
@[simp] theorem q1__law_drawn_word_os (p : Nat) (C : PFS) (es : List Ex) (env : PEn) : pOs C (q1__law_drawn_word p :: es) env = (pE C (q1__law_drawn_word p) env).bind fun r => (pOs C es r.2).map fun q => (.tmp r.1 :: q.1, q.2) := rfl
theorem drawn_word_ok {C : PFS} {p mx : Nat} (hp : Picks C p) (hmx : Mixes C mx) (S : Src) (n : Int) (h0 : 1 ≤ n) (h1 : n ≤ 100) : ∃ (w : List (Int × Int)) (S' : Src), WordOk n w ∧ (∃ x r, w = (x, 0) :: r) ∧ pRun C (pf__law_drawn_word p mx) [S.d, .int n] = some (wordD w, [S'.d, .int n]) := by
  obtain ⟨names, S1, m1, m2⟩ := hmx S (rg 0 n) (by rw [len_rg]; omega)
  have hlen : names.length = n.toNat := by rw [m1.length_eq, len_rg]; simp
  obtain ⟨ys, S2, i1, i2, _⟩ := comp_each (C := C) (q := q1__law_drawn_word p) rfl (fun S : Src => [some S.d, some (.int n), some (.list (names.map .int)), none, none]) (fun _ => True) (fun (x : Int × Nat) (y : Int × Int) => y.1 = x.1 ∧ (y.2 = 0 ∨ y.2 = 1) ∧ (x.2 = 0 → y.2 = 0)) (names.zipIdx 0) (fun p => .tuple [.int p.2, .int p.1]) pD S1 (env := [some S1.d, some (.int n), some (.list (names.map .int)), none, none]) (by simp [pIts, enum_map]; rfl) (by rw [List.length_zipIdx]; unfold big; omega) (by simp) trivial (fun x hx S _ => by
    obtain ⟨a, k⟩ := x
    by_cases hk : k = 0
    · subst hk
      exact ⟨_, S, (a, 0), _, by simp; rfl, trivial, ⟨rfl, .inl rfl, fun _ => rfl⟩, by simp [pD]; rfl, by simp⟩
    · have hc := hp S 2 (by omega)
      have w1 := pick_lo S 2
      have w2 := pick_hi S (many := 2) (by omega)
      exact ⟨_, (pick S 2).2, (a, (pick S 2).1), _, by simp; rfl, trivial, ⟨rfl, by simp only; omega, fun q => absurd q hk⟩, by simp [hc, hk, pD]; rfl, by simp⟩)
  have fst : ∀ {xs : List (Int × Nat)} {ys : List (Int × Int)}, Each (fun (x : Int × Nat) (y : Int × Int) => y.1 = x.1 ∧ (y.2 = 0 ∨ y.2 = 1) ∧ (x.2 = 0 → y.2 = 0)) xs ys → ys.map (·.1) = xs.map (·.1) := fun h => by
    induction h with
    | nil => rfl
    | cons h _ ih => simp [h.1, ih]
  have e1 : ys.map (·.1) = names := by rw [fst i1]; simp
  refine ⟨ys, S2, ⟨h0, by rw [e1]; exact m1, i1.right (P := fun y => y.2 = 0 ∨ y.2 = 1) fun _ _ h => h.2.1⟩, ?_, ?_⟩
  · cases names with
    | nil => simp at hlen; omega
    | cons a ns =>
      rw [List.zipIdx_cons] at i1
      cases i1 with
      | @cons _ y _ ys h t =>
        obtain ⟨y1, y2⟩ := y
        have := h.2.2 rfl
        simp only at this
        subst this
        exact ⟨_, _, rfl⟩
  · have hr : rgOk 0 n = true := rgOk_of (by omega) (by omega) (by omega) (by omega)
    rw [pRun_eq _ _ _ (by rfl)]
    simp [pf__law_drawn_word, hr, m2, i2, wordD]
end Ev.Lib
set_option maxRecDepth 100000
set_option maxHeartbeats 4000000
/-! Rows: lots, excesses, whether a row has a web. -/
namespace Ev.Lib
open PySem Ev

/-! ### plain words on lists of numbers -/
@[simp] theorem intsOf_map : ∀ xs : List Int, intsOf (xs.map .int) = some xs
  | [] => rfl
  | x :: xs => by rw [List.map_cons, intsOf, intsOf_map xs]; rfl
theorem cutL_hi {α : Type} (f : α → D) (xs : List α) {t : Int} (h : 0 ≤ t) : cutL (xs.map f) none (some t) = (xs.take t.toNat).map f := by
  unfold cutL cutIx
  simp only [List.length_map, List.drop_zero, Nat.sub_zero, ← List.map_take]
  rw [if_pos h]
  congr 1
  by_cases q : t.toNat ≤ xs.length
  · rw [Nat.min_eq_left q]
  · rw [Nat.min_eq_right (by omega), List.take_of_length_le (Nat.le_refl _), List.take_of_length_le (by omega)]
theorem cutL_lo {α : Type} (f : α → D) (xs : List α) {t : Int} (h : 0 ≤ t) : cutL (xs.map f) (some t) none = (xs.drop t.toNat).map f := by
  unfold cutL cutIx
  simp only [List.length_map]
  rw [if_pos h]
  rw [List.take_of_length_le (by simp), ← List.map_drop]
  congr 1
  by_cases q : t.toNat ≤ xs.length
  · rw [Nat.min_eq_left q]
  · rw [Nat.min_eq_right (by omega), List.drop_of_length_le (Nat.le_refl _), List.drop_of_length_le (by omega)]
/-- the number at a place -/
def nth (row : List Int) (c : Int) : Int := (row[c.toNat]?).getD 0
theorem nth_get {row : List Int} {c : Int} (h0 : 0 ≤ c) (h1 : c < row.length) : row[c.toNat]? = some (nth row c) := by
  have : c.toNat < row.length := by omega
  unfold nth
  rw [List.getElem?_eq_getElem this]
  rfl
theorem nth_rg (row : List Int) : (rg 0 row.length).map (nth row) = row := by
  apply List.ext_getElem?
  intro i
  rw [List.getElem?_map]
  by_cases h : i < row.length
  · rw [get_rg (by omega), Option.map_some]
    rw [show (0 : Int) + (i : Int) = i by omega, ← nth_get (by omega) (by omega)]
    rfl
  · rw [List.getElem?_eq_none (by rw [len_rg]; omega), List.getElem?_eq_none (by omega)]; rfl
def mn (t x : Int) : Int := if x < t then x else t
theorem big_eq : big = 1000000 := rfl
theorem mulOk_of {a b : Int} (h1 : -1000000 ≤ b) (h2 : b ≤ 1000000) : mulOk a b = true := by
  unfold mulOk
  rw [Bool.or_eq_true, decide_eq_true_eq, decide_eq_true_eq]
  right
  omega

/-! ### a lot's excess -/
def q1_lot_excess : Ex := .comp (.prim .min2 [(.var 2), (.var 5)]) (.tp [4, 5]) .enum [(.var 0)] [(.prim .notin [(.var 4), (.var 1)])] [4, 5]
@[simp] theorem q1_lot_excess_os (C : PFS) (es : List Ex) (env : PEn) : pOs C (q1_lot_excess :: es) env = (pE C q1_lot_excess env).bind fun r => (pOs C es r.2).map fun q => (.tmp r.1 :: q.1, q.2) := rfl
def q2_lot_excess : Ex := .comp (.prim .idx [(.var 0), (.var 4)]) (.nm 4) .seq [(.var 1)] [] [4]
@[simp] theorem q2_lot_excess_os (C : PFS) (es : List Ex) (env : PEn) : pOs C (q2_lot_excess :: es) env = (pE C q2_lot_excess env).bind fun r => (pOs C es r.2).map fun q => (.tmp r.1 :: q.1, q.2) := rfl
def pf_lot_excess : PFn := ⟨[false, false], 6, [
 .s (.asg (.nm 2) (.prim .len [(.var 1)])),
 .s (.asg (.nm 3) (.prim .sum [q1_lot_excess])),
 .s (.ret (.prim .sub [(.prim .sub [(.prim .sum [q2_lot_excess]), (.prim .mul [(.var 2), (.prim .sub [(.var 2), (.cst (.int 1))])])]), (.var 3)]))]⟩
def others (row lot : List Int) : List Int := ((row.zipIdx.filter fun p => !decide ((p.2 : Int) ∈ lot)).map fun p => mn lot.length p.1)
def exc (row lot : List Int) : Int := (lot.map (nth row)).sum - (lot.length : Int) * ((lot.length : Int) - 1) - (others row lot).sum
theorem lot_excess_ok (C : PFS) (row lot : List Int) (h : ∀ c ∈ lot, 0 ≤ c ∧ c < row.length) (h1 : row.length ≤ 100) (h2 : lot.length ≤ 100) :
    pRun C pf_lot_excess [(.tuple (row.map .int)), (.tuple (lot.map .int))] = some (.int (exc row lot), [(.tuple (row.map .int)), (.tuple (lot.map .int))]) := by
  have c1 := comp_map (C := C) (q := q1_lot_excess) rfl (env := [some ((.tuple (row.map .int))), some ((.tuple (lot.map .int))), some (.int lot.length), none, none, none]) row.zipIdx (fun p : Int × Nat => .tuple [.int p.2, .int p.1]) (fun p => !decide ((p.2 : Int) ∈ lot)) (fun p => .int (mn lot.length p.1)) (by simp [pIts, enum_map PyData.int row 0]; rfl) (by rw [List.length_zipIdx, big_eq]; omega) (fun p hp => by
    refine ⟨[some ((.tuple (row.map .int))), some ((.tuple (lot.map .int))), some (.int lot.length), none, some (.int p.2), some (.int p.1)], by simp, ?_, fun _ => ?_, by simp⟩
    · simp
    · simp [mn])
  have c2 := comp_all (C := C) (q := q2_lot_excess) rfl (env := [some ((.tuple (row.map .int))), some ((.tuple (lot.map .int))), some (.int lot.length), some (.int (others row lot).sum), none, none]) lot PyData.int (fun c => .int (nth row c)) (by simp [pIts]; rfl) (by rw [big_eq]; omega) (fun c hc => by
    obtain ⟨a1, a2⟩ := h c hc
    have g := pIdx_t (f := PyData.int) a1 (nth_get a1 a2)
    exact ⟨[some ((.tuple (row.map .int))), some ((.tuple (lot.map .int))), some (.int lot.length), some (.int (others row lot).sum), some (.int c), none], by simp, by simp [g], by simp⟩)
  have e1 : ((row.zipIdx.filter fun p => !decide ((p.2 : Int) ∈ lot)).map fun p => PyData.int (mn lot.length p.1)) = (others row lot).map .int := by unfold others; rw [List.map_map]; rfl
  have e2 : (lot.map fun c => PyData.int (nth row c)) = (lot.map (nth row)).map .int := by rw [List.map_map]; rfl
  rw [e1] at c1
  rw [e2] at c2
  have m : mulOk (lot.length : Int) ((lot.length : Int) - 1) = true := mulOk_of (by omega) (by omega)
  have hlen : pm .len [(.tuple (lot.map .int))] = some (.int lot.length) := by simp
  rw [pRun_eq _ _ _ (by rfl)]
  unfold exc
  generalize others row lot = O at c1 c2 ⊢
  generalize lot.map (nth row) = S at c2 ⊢
  simp [pf_lot_excess, hlen, c1, c2, m]

/-! ### the greatest lot of so many -/
def q1_greatest_lot : Ex := .sortk [(.prim .len [(.var 0)])] true 2 (.tup [(.prim .neg [(.prim .sub [(.prim .idx [(.var 0), (.var 2)]), (.cst (.int 0))])]), (.var 2)])
@[simp] theorem q1_greatest_lot_os (C : PFS) (es : List Ex) (env : PEn) : pOs C (q1_greatest_lot :: es) env = (pE C q1_greatest_lot env).bind fun r => (pOs C es r.2).map fun q => (.tmp r.1 :: q.1, q.2) := rfl
def pf_greatest_lot : PFn := ⟨[false, false], 3, [
 .s (.ret (.prim .tupleOf [(.prim .sorted [(.prim .slHi [q1_greatest_lot, (.var 1)])])]))]⟩
theorem pKeys_of {v : Nat} {body : PEn → Option (D × PEn)} {env : PEn} (k : Int → Int × Int) : ∀ xs : List Int, (∀ x ∈ xs, ∃ e r, pStore env v (.int x) = some e ∧ body e = some (pD (k x), r)) → pKeys v body env (xs.map .int) = some (xs.map fun x => (.int x, pD (k x)))
  | [], _ => rfl
  | x :: xs, h => by
    obtain ⟨e, r, h1, h2⟩ := h x (List.mem_cons_self ..)
    rw [List.map_cons, pKeys, h1, Option.bind_some, h2, Option.bind_some, pKeys_of k xs (fun y hy => h y (List.mem_cons_of_mem _ hy))]
    rfl
/-- the places by a key of two numbers -/
def byKey (k : Int → Int × Int) (xs : List Int) : List Int := xs.mergeSort fun a b => leP (k a) (k b)
theorem sortKD_of (k : Int → Int × Int) (xs : List Int) : sortKD (xs.map fun x => (.int x, pD (k x))) = (byKey k xs).map .int := by
  unfold sortKD byKey
  have : (xs.map fun x => (PyData.int x, pD (k x))).mergeSort (PySem.W.dataLe false (·.2)) = (xs.mergeSort fun a b => leP (k a) (k b)).map fun x => (PyData.int x, pD (k x)) := by
    refine (List.map_mergeSort (f := fun x : Int => (PyData.int x, pD (k x))) fun a _ b _ => ?_).symm
    exact (le_pair (k a) (k b)).symm
  rw [this, List.map_map]
  rfl
theorem byKey_perm (k : Int → Int × Int) (xs : List Int) : (byKey k xs).Perm xs := List.mergeSort_perm ..
theorem byKey_sorted (k : Int → Int × Int) (xs : List Int) : (byKey k xs).Pairwise fun a b => leP (k a) (k b) = true := List.pairwise_mergeSort (fun a b c => leP_trans (k a) (k b) (k c)) (fun a b => leP_total (k a) (k b)) xs
def fall (row : List Int) : List Int := byKey (fun c => (-(nth row c), c)) (rg 0 row.length)
def glot (row : List Int) (t : Int) : List Int := sortI ((fall row).take t.toNat)
theorem mem_fall {row : List Int} {c : Int} : c ∈ fall row ↔ 0 ≤ c ∧ c < row.length := by
  unfold fall
  rw [(byKey_perm _ _).mem_iff, mem_rg]
theorem len_fall (row : List Int) : (fall row).length = row.length := by
  unfold fall
  rw [(byKey_perm _ _).length_eq, len_rg]; omega
theorem mem_glot {row : List Int} {t c : Int} (h : c ∈ glot row t) : 0 ≤ c ∧ c < row.length := by
  unfold glot at h
  rw [mem_sortI] at h
  exact mem_fall.mp (List.mem_of_mem_take h)
theorem len_glot (row : List Int) {t : Int} (h : t ≤ row.length) : (glot row t).length = t.toNat := by
  unfold glot
  rw [len_sortI, List.length_take, len_fall]; omega
theorem greatest_lot_ok (C : PFS) (row : List Int) (t : Int) (h0 : 0 ≤ t) (h1 : row.length ≤ 100) : pRun C pf_greatest_lot [.tuple (row.map .int), .int t] = some (.tuple ((glot row t).map .int), [.tuple (row.map .int), .int t]) := by
  have k : pKeys 2 (pE C (.tup [(.prim .neg [(.prim .sub [(.prim .idx [(.var 0), (.var 2)]), (.cst (.int 0))])]), (.var 2)])) [some (.tuple (row.map .int)), some (.int t), none] ((rg 0 row.length).map .int) = some ((rg 0 row.length).map fun c => (.int c, pD (-(nth row c), c))) := by
    refine pKeys_of (fun c => (-(nth row c), c)) _ fun c hc => ?_
    rw [mem_rg] at hc
    have g := pIdx_t (f := PyData.int) hc.1 (nth_get hc.1 hc.2)
    exact ⟨[some (.tuple (row.map .int)), some (.int t), some (.int c)], _, by simp, by simp [g, pD]; rfl⟩
  have q : pE C q1_greatest_lot [some (.tuple (row.map .int)), some (.int t), none] = some (.list ((fall row).map .int), [some (.tuple (row.map .int)), some (.int t), none]) := by
    unfold q1_greatest_lot
    rw [pE_sortk]
    have r : rgOk 0 (row.length : Int) = true := rgOk_of (by omega) (by omega) (by omega) (by omega)
    have so : sortOk (((rg 0 row.length).map fun c => (PyData.int c, pD (-(nth row c), c))).map (·.2)) = true := by
      have := sortOk_pair (xs := (rg 0 row.length).map fun c => (-(nth row c), c)) (by rw [List.length_map, len_rg, big_eq]; omega)
      rw [List.map_map] at this ⊢
      exact this
    simp [r]
    rw [k]
    simp only [Option.bind_some]
    rw [if_pos so, sortKD_of]
    rfl
  have so := pSort_i (xs := (fall row).take t.toNat) (by rw [List.length_take, len_fall, big_eq]; omega)
  rw [pRun_eq _ _ _ (by rfl)]
  simp [pf_greatest_lot, q, pSlice, cutL_hi PyData.int (fall row) h0]
  simp only [← List.map_take, so, Option.map_some, Option.bind_some]
  simp [glot]

/-! ### the worst lot -/
def Excs (C : PFS) (f : Nat) : Prop := ∀ row lot : List Int, (∀ c ∈ lot, 0 ≤ c ∧ c < row.length) → row.length ≤ 100 → lot.length ≤ 100 → C f [.tuple (row.map .int), .tuple (lot.map .int)] = some (.int (exc row lot), [.tuple (row.map .int), .tuple (lot.map .int)])
def Glots (C : PFS) (f : Nat) : Prop := ∀ (row : List Int) (t : Int), 0 ≤ t → row.length ≤ 100 → C f [.tuple (row.map .int), .int t] = some (.tuple ((glot row t).map .int), [.tuple (row.map .int), .int t])
def b1_worst_lot (ex gl : Nat) : List PSt := [
 .s (.asg (.nm 3) (.call gl [(.var 0), (.var 2)])),
 .s (.asg (.nm 1) (.ite (.prim .gt [(.call ex [(.var 0), (.var 3)]), (.call ex [(.var 0), (.var 1)])]) (.var 3) (.var 1))),
 .wipe [2, 3]]
def pf_worst_lot (ex gl : Nat) : PFn := ⟨[false], 4, [
 .s (.asg (.nm 1) (.tup [])),
 .for (.nm 2) .rng2 [(.cst (.int 1)), (.prim .add [(.prim .len [(.var 0)]), (.cst (.int 1))])] (b1_worst_lot ex gl),
 .wipe [2, 3],
 .s (.ret (.var 1))]⟩
def worseF (row : List Int) (found : List Int) (t : Int) : List Int := if exc row found < exc row (glot row t) then glot row t else found
def worst (row : List Int) : List Int := (rg 1 (row.length + 1)).foldl (worseF row) []
def LotOk (row lot : List Int) : Prop := (∀ c ∈ lot, 0 ≤ c ∧ c < row.length) ∧ lot.length ≤ 100
theorem glot_ok {row : List Int} {t : Int} (h : t ≤ row.length) (h1 : row.length ≤ 100) : LotOk row (glot row t) := ⟨fun c hc => mem_glot hc, by rw [len_glot row h]; omega⟩
theorem worseF_ok {row found : List Int} {t : Int} (h : t ≤ row.length) (h1 : row.length ≤ 100) (h2 : LotOk row found) : LotOk row (worseF row found t) := by
  unfold worseF
  split
  · exact glot_ok h h1
  · exact h2
theorem worst_lot_ok {C : PFS} {ex gl : Nat} (he : Excs C ex) (hg : Glots C gl) (row : List Int) (h1 : row.length ≤ 99) : LotOk row (worst row) ∧ pRun C (pf_worst_lot ex gl) [.tuple (row.map .int)] = some (.tuple ((worst row).map .int), [.tuple (row.map .int)]) := by
  obtain ⟨i1, i2⟩ := pFor_fold (tg := .nm 2) (b := pSs C 1 (b1_worst_lot ex gl)) (σ := List Int) (fun found => [some (.tuple (row.map .int)), some (.tuple (found.map .int)), none, none]) (fun (ts : List Int) found => (∀ t ∈ ts, 1 ≤ t ∧ t ≤ (row.length : Int)) ∧ LotOk row found) PyData.int (worseF row) (rg 1 (row.length + 1)) []
    ⟨fun t ht => (by rw [mem_rg] at ht; omega), fun c hc => (by cases hc), by simp⟩ (fun t _ ts found hJ => by
      obtain ⟨j1, j2⟩ := hJ
      obtain ⟨t0, t1⟩ := j1 t (List.mem_cons_self ..)
      have go := glot_ok (row := row) t1 (by omega)
      refine ⟨⟨fun y hy => j1 y (List.mem_cons_of_mem _ hy), worseF_ok t1 (by omega) j2⟩, [some (.tuple (row.map .int)), some (.tuple (found.map .int)), some (.int t), none], by simp, .inl ?_⟩
      have g1 := hg row t (by omega) (by omega)
      have g2 := he row (glot row t) go.1 (by omega) go.2
      have g3 := he row found j2.1 (by omega) j2.2
      unfold worseF
      generalize glot row t = L at g1 g2 ⊢
      by_cases q : exc row found < exc row L <;> simp [b1_worst_lot, g1, g2, g3, q])
  refine ⟨i2.2, ?_⟩
  have r : rgOk 1 ((row.length : Int) + 1) = true := rgOk_of (by omega) (by omega) (by omega) (by omega)
  rw [pRun_eq _ _ _ (by rfl)]
  unfold worst
  generalize (rg 1 ((row.length : Int) + 1)).foldl (worseF row) [] = W at i1 ⊢
  simp only [List.map_nil] at i1
  simp [pf_worst_lot, r, i1]
def Worsts (C : PFS) (f : Nat) : Prop := ∀ row : List Int, row.length ≤ 99 → LotOk row (worst row) ∧ C f [.tuple (row.map .int)] = some (.tuple ((worst row).map .int), [.tuple (row.map .int)])
def pf_greatest_excess (ex wo : Nat) : PFn := ⟨[false], 1, [
 .s (.ret (.call ex [(.var 0), (.call wo [(.var 0)])]))]⟩
theorem greatest_excess_ok {C : PFS} {ex wo : Nat} (he : Excs C ex) (hw : Worsts C wo) (row : List Int) (h1 : row.length ≤ 99) : pRun C (pf_greatest_excess ex wo) [.tuple (row.map .int)] = some (.int (exc row (worst row)), [.tuple (row.map .int)]) := by
  obtain ⟨o, w⟩ := hw row h1
  have e := he row (worst row) o.1 (by omega) o.2
  rw [pRun_eq _ _ _ (by rfl)]
  generalize worst row = W at w e ⊢
  simp [pf_greatest_excess, w, e]
def Gexcs (C : PFS) (f : Nat) : Prop := ∀ row : List Int, row.length ≤ 99 → C f [.tuple (row.map .int)] = some (.int (exc row (worst row)), [.tuple (row.map .int)])
def pf_has_web (gx : Nat) : PFn := ⟨[false], 1, [
 .s (.ret (.andE (.prim .eq [(.prim .mod [(.prim .sum [(.var 0)]), (.cst (.int 2))]), (.cst (.int 0))]) (.prim .eq [(.call gx [(.var 0)]), (.cst (.int 0))])))]⟩
def hasWeb (row : List Int) : Bool := decide (row.sum % 2 = 0) && decide (exc row (worst row) = 0)
theorem has_web_ok {C : PFS} {gx : Nat} (hg : Gexcs C gx) (row : List Int) (h1 : row.length ≤ 99) : pRun C (pf_has_web gx) [.tuple (row.map .int)] = some (.bool (hasWeb row), [.tuple (row.map .int)]) := by
  have g := hg row h1
  rw [pRun_eq _ _ _ (by rfl)]
  unfold hasWeb
  generalize exc row (worst row) = E at g ⊢
  by_cases q : row.sum % 2 = 0 <;> simp [pf_has_web, q, g]
end Ev.Lib
set_option maxRecDepth 100000
set_option maxHeartbeats 4000000
/-! Rows: the laws' own look whether a row has a web; the two looks agree. -/
namespace Ev.Lib
open PySem Ev

def q1__law_has_web : Ex := .comp (.prim .min2 [(.var 2), (.var 3)]) (.nm 3) .seq [(.prim .slLo [(.var 1), (.var 2)])] [] [3]
@[simp] theorem q1__law_has_web_os (C : PFS) (es : List Ex) (env : PEn) : pOs C (q1__law_has_web :: es) env = (pE C q1__law_has_web env).bind fun r => (pOs C es r.2).map fun q => (.tmp r.1 :: q.1, q.2) := rfl
def b1__law_has_web : List PSt := [
 .ite (.prim .gt [(.prim .sum [(.prim .slHi [(.var 1), (.var 2)])]), (.prim .add [(.prim .mul [(.var 2), (.prim .sub [(.var 2), (.cst (.int 1))])]), (.prim .sum [q1__law_has_web])])]) [
  .s (.ret (.cst (.bool false)))] [],
 .wipe [2]]
def pf__law_has_web : PFn := ⟨[false], 4, [
 .ite (.prim .eq [(.var 0), (.tup [])]) [
  .s (.ret (.cst (.bool true)))] [],
 .s (.asg (.nm 1) (.prim .rev [(.prim .sorted [(.var 0)])])),
 .ite (.orE (.prim .eq [(.prim .mod [(.prim .int [(.prim .sum [(.var 0)])]), (.cst (.int 2))]), (.cst (.int 1))]) (.prim .lt [(.prim .idx [(.var 1), (.prim .neg [(.cst (.int 1))])]), (.cst (.int 0))])) [
  .s (.ret (.cst (.bool false)))] [],
 .for (.nm 2) .rng2 [(.cst (.int 1)), (.prim .add [(.prim .len [(.var 0)]), (.cst (.int 1))])] b1__law_has_web,
 .wipe [1, 2, 3],
 .s (.ret (.cst (.bool true)))]⟩
def fallV (row : List Int) : List Int := (sortI row).reverse
def over (f : List Int) (t : Int) : Bool := decide (t * (t - 1) + ((f.drop t.toNat).map (mn t)).sum < (f.take t.toNat).sum)
def lHas (row : List Int) : Bool := decide (row.sum % 2 = 0) && (rg 1 (row.length + 1)).all fun t => !over (fallV row) t
theorem last_idx {α : Type} (f : α → D) (xs : List α) (h : xs ≠ []) : pIdx (.list (xs.map f)) (.int (-1)) = some (f (xs.getLast h)) := by
  have hp := List.length_pos_iff.mpr h
  unfold pIdx atIx
  simp only [List.length_map]
  rw [if_neg (by decide), if_pos (by omega)]
  simp only [Option.bind_some, List.getElem?_map]
  rw [show (((xs.length : Int) + -1).toNat) = xs.length - 1 by omega, ← List.getLast?_eq_getElem?, List.getLast?_eq_some_getLast h]
  rfl
theorem law_has_web_ok (C : PFS) (row : List Int) (h : row ≠ []) (h0 : ∀ x ∈ row, 0 ≤ x) (h1 : row.length ≤ 99) : pRun C pf__law_has_web [.tuple (row.map .int)] = some (.bool (lHas row), [.tuple (row.map .int)]) := by
  have so := pSort_i (xs := row) (by rw [big_eq]; omega)
  have hf : fallV row ≠ [] := by
    unfold fallV
    intro z
    have := congrArg List.length z
    rw [List.length_reverse, len_sortI] at this
    exact h (List.eq_nil_of_length_eq_zero this)
  have hl : 0 ≤ (fallV row).getLast hf := by
    have : (fallV row).getLast hf ∈ row := by
      have := List.getLast_mem hf
      unfold fallV at this
      rw [List.mem_reverse, mem_sortI] at this
      exact this
    exact h0 _ this
  have hn : (fallV row).length = row.length := by unfold fallV; rw [List.length_reverse, len_sortI]
  have li := last_idx PyData.int (fallV row) hf
  have r : rgOk 1 ((row.length : Int) + 1) = true := rgOk_of (by omega) (by omega) (by omega) (by omega)
  have fr := pFor_find (tg := .nm 2) (b := pSs C 1 b1__law_has_web) [some (.tuple (row.map .int)), some (.list ((fallV row).map .int)), none, none] PyData.int (fun t => if over (fallV row) t then some (.bool false, [some (.tuple (row.map .int))]) else none) (rg 1 (row.length + 1)) (fun t ht => by
    rw [mem_rg] at ht
    refine ⟨[some (.tuple (row.map .int)), some (.list ((fallV row).map .int)), some (.int t), none], by simp, ?_⟩
    have c := comp_all (C := C) (q := q1__law_has_web) rfl (env := [some (.tuple (row.map .int)), some (.list ((fallV row).map .int)), some (.int t), none]) ((fallV row).drop t.toNat) PyData.int (fun x => .int (mn t x)) (by simp [pIts, pSlice, cutL_lo PyData.int (fallV row) (show 0 ≤ t by omega), ← List.map_drop]; rfl) (by rw [List.length_drop, big_eq]; omega) (fun x _ =>
      ⟨[some (.tuple (row.map .int)), some (.list ((fallV row).map .int)), some (.int t), some (.int x)], by simp, by simp [mn], by simp⟩)
    have e : ((fallV row).drop t.toNat).map (fun x => PyData.int (mn t x)) = (((fallV row).drop t.toNat).map (mn t)).map .int := by rw [List.map_map]; rfl
    rw [e] at c
    have m : mulOk t (t - 1) = true := mulOk_of (by omega) (by omega)
    have cu := cutL_hi PyData.int (fallV row) (show 0 ≤ t by omega)
    unfold over
    generalize ((fallV row).drop t.toNat).map (mn t) = O at c ⊢
    generalize (fallV row).take t.toNat = S at cu ⊢
    by_cases q : t * (t - 1) + O.sum < S.sum <;> simp [b1__law_has_web, pSlice, cu, c, m, q])
  rw [pRun_eq _ _ _ (by rfl)]
  unfold lHas
  have so' : guardO (sortOk (row.map .int)) (PyData.list (sortD false (row.map .int))) = some (.list ((fallV row).reverse.map .int)) := by rw [so]; unfold fallV; rw [List.reverse_reverse]
  have hl' : ¬ (fallV row).getLast hf < 0 := by omega
  generalize (fallV row).getLast hf = z at li hl'
  generalize fallV row = f at fr li so' ⊢
  by_cases q : row.sum % 2 = 1
  · have q2 : ¬ row.sum % 2 = 0 := by omega
    simp [pf__law_has_web, h, so', q, q2]
  · have q2 : row.sum % 2 = 0 := by omega
    simp [pf__law_has_web, h, so', ← List.map_reverse, q2, li, hl', r, fr]
    cases hs : (rg 1 ((row.length : Int) + 1)).findSome? (fun t => if over f t = true then some (PyData.bool false, [some (PyData.tuple (row.map .int))]) else none) with
    | none =>
      rw [List.findSome?_eq_none_iff] at hs
      have : ((rg 1 ((row.length : Int) + 1)).all fun t => !over f t) = true := by
        rw [List.all_eq_true]
        intro t ht
        have := hs t ht
        split at this
        · cases this
        · rename_i g; simpa using g
      simp [this]
    | some w =>
      obtain ⟨t, ht, e⟩ := List.exists_of_findSome?_eq_some hs
      split at e
      · rename_i g
        have : ((rg 1 ((row.length : Int) + 1)).all fun t => !over f t) = false := by
          rw [List.all_eq_false]
          exact ⟨t, ht, by simp [g]⟩
        cases e
        simp [this]
      · cases e

/-! ### the two agree -/
theorem perm_sum {xs ys : List Int} (h : xs.Perm ys) : xs.sum = ys.sum := by
  induction h with
  | nil => rfl
  | cons x _ ih => simp [ih]
  | swap x y l => simp; omega
  | trans _ _ a b => exact a.trans b
theorem zip_rg (row : List Int) : row.zipIdx = (rg 0 row.length).map fun c => (nth row c, c.toNat) := by
  apply List.ext_getElem?
  intro i
  rw [List.getElem?_map, List.getElem?_zipIdx]
  by_cases h : i < row.length
  · rw [get_rg (by omega), Option.map_some, List.getElem?_eq_getElem h]
    have := nth_get (row := row) (c := i) (by omega) (by omega)
    rw [Int.toNat_natCast, List.getElem?_eq_getElem h] at this
    simp only [Option.some.injEq] at this
    simp [this]
  · rw [List.getElem?_eq_none (by omega), List.getElem?_eq_none (by rw [len_rg]; omega)]; rfl
theorem fall_nodup (row : List Int) : (fall row).Nodup := by
  unfold fall
  rw [(byKey_perm _ _).nodup_iff]
  have : (rg 0 (row.length : Int)).Pairwise (· < ·) := by
    unfold rg
    rw [List.pairwise_map]
    exact List.pairwise_lt_range.imp (fun h => by omega)
  exact this.imp fun h => by omega
theorem fall_vals (row : List Int) : (fall row).map (nth row) = fallV row := by
  have p1 : ((fall row).map (nth row)).Perm row := by
    have := (byKey_perm (fun c => (-(nth row c), c)) (rg 0 row.length)).map (nth row)
    rw [nth_rg] at this
    exact this
  have p2 : (fallV row).Perm row := (List.reverse_perm _).trans (sortI_perm row)
  have s1 : ((fall row).map (nth row)).Pairwise (fun a b => b ≤ a) := by
    rw [List.pairwise_map]
    exact (byKey_sorted (fun c => (-(nth row c), c)) (rg 0 row.length)).imp fun h => by
      simp only [leP, decide_eq_true_eq] at h
      omega
  have s2 : (fallV row).Pairwise (fun a b => b ≤ a) := by
    unfold fallV
    rw [List.pairwise_reverse]
    exact sortI_sorted row
  exact (p1.trans p2.symm).eq_of_pairwise (le := fun a b => b ≤ a) (fun x y _ _ h1 h2 => Int.le_antisymm h2 h1) s1 s2
theorem exc_glot (row : List Int) {t : Int} (h0 : 0 ≤ t) (h1 : t ≤ row.length) : exc row (glot row t) = ((fallV row).take t.toNat).sum - t * (t - 1) - (((fallV row).drop t.toNat).map (mn t)).sum := by
  have hl : ((glot row t).length : Int) = t := by rw [len_glot row h1]; omega
  have e1 : ((glot row t).map (nth row)).sum = ((fallV row).take t.toNat).sum := by
    have := perm_sum ((sortI_perm ((fall row).take t.toNat)).map (nth row))
    rw [List.map_take, fall_vals] at this
    exact this
  have mem : ∀ c, c ∈ glot row t ↔ c ∈ (fall row).take t.toNat := fun c => by unfold glot; rw [mem_sortI]
  have e2 : (others row (glot row t)).sum = (((fallV row).drop t.toNat).map (mn t)).sum := by
    unfold others
    rw [hl, zip_rg, List.filter_map, List.map_map]
    have ef : ((rg 0 (row.length : Int)).filter ((fun p : Int × Nat => !decide ((p.2 : Int) ∈ glot row t)) ∘ fun c => (nth row c, c.toNat))) = (rg 0 row.length).filter fun c => !decide (c ∈ glot row t) := by
      apply List.filter_congr
      intro c hc
      rw [mem_rg] at hc
      show (!decide (((c.toNat : Nat) : Int) ∈ glot row t)) = _
      rw [show ((c.toNat : Nat) : Int) = c by omega]
    rw [ef]
    have pf : ((rg 0 (row.length : Int)).filter fun c => !decide (c ∈ glot row t)).Perm ((fall row).drop t.toNat) := by
      have p1 := ((byKey_perm (fun c => (-(nth row c), c)) (rg 0 row.length)).filter fun c => !decide (c ∈ glot row t)).symm
      refine p1.trans ?_
      have sp : fall row = (fall row).take t.toNat ++ (fall row).drop t.toNat := (List.take_append_drop _ _).symm
      have nd := fall_nodup row
      rw [sp, List.nodup_append] at nd
      have : (fall row).filter (fun c => !decide (c ∈ glot row t)) = (fall row).drop t.toNat := by
        conv => lhs; rw [sp]
        rw [List.filter_append, List.filter_eq_nil_iff.mpr, List.filter_eq_self.mpr, List.nil_append]
        · intro c hc
          have : c ∉ glot row t := fun z => nd.2.2 c ((mem c).mp z) c hc rfl
          simp [this]
        · intro c hc
          have := (mem c).mpr hc
          simp [this]
      show ((fall row).filter fun c => !decide (c ∈ glot row t)).Perm _
      rw [this]
    have := perm_sum (pf.map fun c => mn t (nth row c))
    rw [show ((fun p : Int × Nat => mn t p.1) ∘ fun c => (nth row c, c.toNat)) = fun c => mn t (nth row c) from rfl, this, ← fall_vals, ← List.map_drop, List.map_map]
    rfl
  unfold exc
  rw [e1, e2, hl]
theorem exc_nil (row : List Int) (h : ∀ x ∈ row, 0 ≤ x) : exc row [] = 0 := by
  have z : (others row []).sum = 0 := by
    have : ∀ xs : List (Int × Nat), (∀ p ∈ xs, 0 ≤ p.1) → (xs.map fun p => mn (0 : Int) p.1).sum = 0 := by
      intro xs
      induction xs with
      | nil => intro _; rfl
      | cons p xs ih =>
        intro q
        have a := q p (List.mem_cons_self ..)
        rw [List.map_cons, List.sum_cons, ih fun y hy => q y (List.mem_cons_of_mem _ hy)]
        unfold mn
        rw [if_neg (by omega)]
        rfl
    refine this _ fun p hp => ?_
    have hp := (List.mem_filter.mp hp).1
    exact h _ (List.fst_mem_of_mem_zipIdx hp)
  unfold exc
  rw [z]
  rfl
theorem worst_fold (row : List Int) : ∀ (ts : List Int) (f0 : List Int), exc row f0 ≤ exc row (ts.foldl (worseF row) f0) ∧ (∀ t ∈ ts, exc row (glot row t) ≤ exc row (ts.foldl (worseF row) f0)) ∧ (exc row (ts.foldl (worseF row) f0) = exc row f0 ∨ ∃ t ∈ ts, exc row (ts.foldl (worseF row) f0) = exc row (glot row t))
  | [], f0 => ⟨Int.le_refl _, fun t ht => (by cases ht), .inl rfl⟩
  | t :: ts, f0 => by
    obtain ⟨i1, i2, i3⟩ := worst_fold row ts (worseF row f0 t)
    rw [List.foldl_cons]
    have w : (exc row f0 ≤ exc row (worseF row f0 t) ∧ exc row (glot row t) ≤ exc row (worseF row f0 t)) ∧ (worseF row f0 t = f0 ∨ worseF row f0 t = glot row t) := by
      unfold worseF
      split <;> simp <;> omega
    refine ⟨by omega, fun u hu => ?_, ?_⟩
    · rcases List.mem_cons.mp hu with rfl | hu
      · omega
      · exact i2 u hu
    · rcases i3 with i3 | ⟨u, hu, e⟩
      · rcases w.2 with z | z
        · exact .inl (by rw [i3, z])
        · exact .inr ⟨t, List.mem_cons_self .., by rw [i3, z]⟩
      · exact .inr ⟨u, List.mem_cons_of_mem _ hu, e⟩
theorem hasWeb_eq (row : List Int) (h : ∀ x ∈ row, 0 ≤ x) : hasWeb row = lHas row := by
  unfold hasWeb lHas
  congr 1
  obtain ⟨i1, i2, i3⟩ := worst_fold row (rg 1 (row.length + 1)) []
  rw [exc_nil row h] at i1 i3
  have ov : ∀ t ∈ rg 1 ((row.length : Int) + 1), over (fallV row) t = decide (0 < exc row (glot row t)) := fun t ht => by
    rw [mem_rg] at ht
    rw [exc_glot row (by omega) (by omega)]
    unfold over
    exact decide_eq_decide.mpr (by omega)
  show decide (exc row ((rg 1 ((row.length : Int) + 1)).foldl (worseF row) []) = 0) = _
  rw [Bool.eq_iff_iff, decide_eq_true_eq, List.all_eq_true]
  constructor
  · intro e t ht
    rw [ov t ht]
    have := i2 t ht
    simp
    omega
  · intro H
    rcases i3 with e | ⟨t, ht, e⟩
    · exact e
    · have := H t ht
      rw [ov t ht] at this
      simp at this
      omega
end Ev.Lib
set_option maxRecDepth 100000
set_option maxHeartbeats 4000000
/-! A drawn web of another kind; the degrees of a web. -/
namespace Ev.Lib
open PySem Ev

def q1__law_web2 (p pr : Nat) : Ex := .comp (.var 4) (.nm 4) .seq [(.call pr [(.var 1)])] [(.prim .eq [(.prim .eq [(.call p [(.var 0), (.var 2)]), (.cst (.int 0))]), (.var 3)])] [4]
def pf__law_web2 (p pr : Nat) : PFn := ⟨[false, false, false], 5, [
 .s (.asg (.nm 3) (.prim .eq [(.call p [(.var 0), (.cst (.int 2))]), (.cst (.int 0))])),
 .s (.ret (.tup [(.var 1), (.prim .tupleOf [q1__law_web2 p pr])]))]⟩
@[simp] theorem q1__law_web2_os (p pr : Nat) (C : PFS) (es : List Ex) (env : PEn) : pOs C (q1__law_web2 p pr :: es) env = (pE C (q1__law_web2 p pr) env).bind fun r => (pOs C es r.2).map fun q => (.tmp r.1 :: q.1, q.2) := rfl
theorem web2_ok {C : PFS} {p pr : Nat} (hp : Picks C p) (hpr : Pairs C pr) (S : Src) (n share : Int) (h0 : 1 ≤ n) (h1 : n ≤ 100) (hs : share < 1073741824) : ∃ (rs : List (Int × Int)) (S' : Src), rs.Sublist (prs n) ∧ pRun C (pf__law_web2 p pr) [S.d, .int n, .int share] = some (webD n rs, [S'.d, .int n, .int share]) := by
  have c1 := hp S 2 (by omega)
  have hpn := hpr n (by omega) h1
  have hL : (prs n).length < big := by have := prs_len h1; unfold big; omega
  generalize hb : decide ((pick S 2).1 = 0) = b
  obtain ⟨ys, S', i1, i2, _⟩ := comp_sub (C := C) (q := q1__law_web2 p pr) rfl (fun S : Src => [some S.d, some (.int n), some (.int share), some (.bool b), none]) (fun _ => True) (prs n) pD pD (pick S 2).2 (env := [some (pick S 2).2.d, some (.int n), some (.int share), some (.bool b), none]) (env1 := [some (pick S 2).2.d, some (.int n), some (.int share), some (.bool b), none]) (by simp [pIts, hpn]) hL (by simp) trivial (fun x _ S _ => by
    have hc := hp S share hs
    refine ⟨_, (pick S share).2, by simp; rfl, trivial, ?_⟩
    by_cases q : decide (decide ((pick S share).1 = 0) = b) = true
    · exact .inl ⟨_, _, by simp [hc, q]; rfl, by simp; rfl, by simp⟩
    · exact .inr ⟨_, by simp [hc, q]; rfl, by simp⟩)
  refine ⟨ys, S', i1, ?_⟩
  rw [pRun_eq _ _ _ (by rfl)]
  simp [pf__law_web2, c1, hb, i2, webD]

/-! ### degrees -/
def b1__law_degrees : List PSt := [
 .s (.augAt 1 (.var 2) (.cst (.int 1))),
 .s (.augAt 1 (.var 3) (.cst (.int 1))),
 .wipe [2, 3]]
def pf__law_degrees : PFn := ⟨[false], 4, [
 .s (.asg (.nm 1) (.prim .mul [(.lst [(.cst (.int 0))]), (.prim .idx [(.var 0), (.cst (.int 0))])])),
 .for (.tp [2, 3]) .seq [(.prim .idx [(.var 0), (.cst (.int 1))])] b1__law_degrees,
 .wipe [2, 3],
 .s (.ret (.prim .tupleOf [(.var 1)]))]⟩
def one (ds : List Int) (a : Int) : List Int := ds.set a.toNat (nth ds a + 1)
def degF (ds : List Int) (p : Int × Int) : List Int := one (one ds p.1) p.2
theorem one_len (ds : List Int) (a : Int) : (one ds a).length = ds.length := by unfold one; rw [List.length_set]
theorem one_in {ds : List Int} {a b : Int} (h : ∀ x ∈ ds, 0 ≤ x ∧ x ≤ b) (ha : 0 ≤ a) (ha' : a < ds.length) : ∀ x ∈ one ds a, 0 ≤ x ∧ x ≤ b + 1 := fun x hx => by
  unfold one at hx
  rcases List.mem_or_eq_of_mem_set hx with q | q
  · have := h x q; omega
  · have := h _ (List.mem_of_getElem? (nth_get ha ha')); omega
theorem repL_zero (k : Int) : repL k [PyData.int 0] = (List.replicate k.toNat (0 : Int)).map .int := by
  unfold repL
  rw [List.map_replicate]
  induction k.toNat with
  | zero => rfl
  | succ n ih => rw [List.replicate_succ, List.replicate_succ, List.flatten_cons, ih]; rfl
theorem degrees_ok (C : PFS) (n : Int) (rs : List (Int × Int)) (h0 : 1 ≤ n) (h1 : n ≤ 100) (hr : ∀ p ∈ rs, 0 ≤ p.1 ∧ p.1 < p.2 ∧ p.2 < n) (hl : rs.length ≤ 10000) : ∃ ds : List Int, (ds.length : Int) = n ∧ (∀ x ∈ ds, 0 ≤ x ∧ x ≤ 20000) ∧ pRun C pf__law_degrees [webD n rs] = some (.tuple (ds.map .int), [webD n rs]) := by
  obtain ⟨i1, i2⟩ := pFor_fold (tg := .tp [2, 3]) (b := pSs C 1 b1__law_degrees) (fun ds : List Int => [some (webD n rs), some (.list (ds.map .int)), none, none]) (fun (ys : List (Int × Int)) (ds : List Int) => (∀ y ∈ ys, y ∈ rs) ∧ (ds.length : Int) = n ∧ ∀ x ∈ ds, 0 ≤ x ∧ x ≤ 20000 - 2 * (ys.length : Int)) pD degF rs (List.replicate n.toNat 0)
    ⟨fun y hy => hy, (by rw [List.length_replicate]; omega), fun x hx => (by have := List.eq_of_mem_replicate hx; omega)⟩ (fun y _ ys ds hJ => by
      obtain ⟨j1, j2, j3⟩ := hJ
      obtain ⟨a, b⟩ := y
      obtain ⟨q1, q2, q3⟩ := hr _ (j1 _ (List.mem_cons_self ..))
      simp only at q1 q2 q3
      have l1 := one_len ds a
      refine ⟨⟨fun z hz => j1 z (List.mem_cons_of_mem _ hz), (by unfold degF; rw [one_len, one_len]; exact j2), fun x hx => ?_⟩, [some (webD n rs), some (.list (ds.map .int)), some (.int a), some (.int b)], by simp [pD], .inl ?_⟩
      · have := one_in (one_in j3 q1 (by omega)) (a := b) (by omega) (by rw [l1]; omega) x hx
        simp only [List.length_cons] at this
        omega
      · have g1 := pIdx_l (f := PyData.int) q1 (nth_get (row := ds) q1 (by omega))
        have g2 := pIdx_l (f := PyData.int) (by omega) (nth_get (row := one ds a) (c := b) (by omega) (by rw [l1]; omega))
        have p1 := putAt_of (f := PyData.int) (xs := ds) (i := a) (nth ds a + 1) q1 (by omega)
        have p2 := putAt_of (f := PyData.int) (xs := one ds a) (i := b) (nth (one ds a) b + 1) (by omega) (by rw [l1]; omega)
        have e1 : ds.set a.toNat (nth ds a + 1) = one ds a := rfl
        have e2 : (one ds a).set b.toNat (nth (one ds a) b + 1) = degF ds (a, b) := rfl
        rw [e1] at p1
        rw [e2] at p2
        generalize degF ds (a, b) = D2 at p2 ⊢
        generalize one ds a = D1 at p1 p2 g2
        simp [b1__law_degrees, getK, putIn, g1, g2, p1, p2])
  refine ⟨_, i2.2.1, fun x hx => ?_, ?_⟩
  · have := i2.2.2 x hx
    simpa using this
  rw [pRun_eq _ _ _ (by rfl)]
  generalize List.foldl degF (List.replicate n.toNat 0) rs = W at i1 ⊢
  have m : pMul (.list [PyData.int 0]) (.int n) = some (.list ((List.replicate n.toNat (0 : Int)).map .int)) := by
    have : (decide ([PyData.int 0].length * n.toNat ≤ big) && decide (n.natAbs ≤ big)) = true := by
      rw [Bool.and_eq_true, decide_eq_true_eq, decide_eq_true_eq, big_eq]
      simp only [List.length_cons, List.length_nil]
      omega
    show guardO (decide ([PyData.int 0].length * n.toNat ≤ big) && decide (n.natAbs ≤ big)) (PyData.list (repL n [PyData.int 0])) = _
    rw [this, repL_zero]; rfl
  rw [List.map_replicate] at m i1
  simp only [pf__law_degrees]
  simp [m, i1]
end Ev.Lib
set_option maxRecDepth 100000
set_option maxHeartbeats 4000000
/-! The small language's form of the defs, printed by irp.py. -/
namespace Ev.k75
open PySem Ev
-- 0: lot_excess(row, lot)   slots: 0:row 1:lot 2:t 3:others 4:c 5:number
def q1_lot_excess : Ex := .comp (.prim .min2 [(.var 2), (.var 5)]) (.tp [4, 5]) .enum [(.var 0)] [(.prim .notin [(.var 4), (.var 1)])] [4, 5]
@[simp] theorem q1_lot_excess_os (C : PFS) (es : List Ex) (env : PEn) : pOs C (q1_lot_excess :: es) env = (pE C q1_lot_excess env).bind fun r => (pOs C es r.2).map fun q => (.tmp r.1 :: q.1, q.2) := rfl
def q2_lot_excess : Ex := .comp (.prim .idx [(.var 0), (.var 4)]) (.nm 4) .seq [(.var 1)] [] [4]
@[simp] theorem q2_lot_excess_os (C : PFS) (es : List Ex) (env : PEn) : pOs C (q2_lot_excess :: es) env = (pE C q2_lot_excess env).bind fun r => (pOs C es r.2).map fun q => (.tmp r.1 :: q.1, q.2) := rfl
def pf_lot_excess : PFn := ⟨[false, false], 6, [
 .s (.asg (.nm 2) (.prim .len [(.var 1)])),
 .s (.asg (.nm 3) (.prim .sum [q1_lot_excess])),
 .s (.ret (.prim .sub [(.prim .sub [(.prim .sum [q2_lot_excess]), (.prim .mul [(.var 2), (.prim .sub [(.var 2), (.cst (.int 1))])])]), (.var 3)]))]⟩
-- 1: greatest_lot(row, t)   slots: 0:row 1:t 2:c
def q1_greatest_lot : Ex := .sortk [(.prim .len [(.var 0)])] true 2 (.tup [(.prim .neg [(.prim .sub [(.prim .idx [(.var 0), (.var 2)]), (.cst (.int 0))])]), (.var 2)])
@[simp] theorem q1_greatest_lot_os (C : PFS) (es : List Ex) (env : PEn) : pOs C (q1_greatest_lot :: es) env = (pE C q1_greatest_lot env).bind fun r => (pOs C es r.2).map fun q => (.tmp r.1 :: q.1, q.2) := rfl
def pf_greatest_lot : PFn := ⟨[false, false], 3, [
 .s (.ret (.prim .tupleOf [(.prim .sorted [(.prim .slHi [q1_greatest_lot, (.var 1)])])]))]⟩
-- 2: worst_lot(row)   slots: 0:row 1:found 2:t 3:lot
def b1_worst_lot : List PSt := [
 .s (.asg (.nm 3) (.call 1 [(.var 0), (.var 2)])),
 .s (.asg (.nm 1) (.ite (.prim .gt [(.call 0 [(.var 0), (.var 3)]), (.call 0 [(.var 0), (.var 1)])]) (.var 3) (.var 1))),
 .wipe [2, 3]]
def pf_worst_lot : PFn := ⟨[false], 4, [
 .s (.asg (.nm 1) (.tup [])),
 .for (.nm 2) .rng2 [(.cst (.int 1)), (.prim .add [(.prim .len [(.var 0)]), (.cst (.int 1))])] b1_worst_lot,
 .wipe [2, 3],
 .s (.ret (.var 1))]⟩
-- 3: greatest_excess(row)   slots: 0:row
def pf_greatest_excess : PFn := ⟨[false], 1, [
 .s (.ret (.call 0 [(.var 0), (.call 2 [(.var 0)])]))]⟩
-- 4: has_web(row)   slots: 0:row
def pf_has_web : PFn := ⟨[false], 1, [
 .s (.ret (.andE (.prim .eq [(.prim .mod [(.prim .sum [(.var 0)]), (.cst (.int 2))]), (.cst (.int 0))]) (.prim .eq [(.call 3 [(.var 0)]), (.cst (.int 0))])))]⟩
-- 5: is_nearly_even(row)   slots: 0:row
def pf_is_nearly_even : PFn := ⟨[false], 1, [
 .s (.ret (.prim .lt [(.prim .sub [(.prim .maxL [(.var 0)]), (.prim .minL [(.var 0)])]), (.cst (.int 2))]))]⟩
-- 6: less_row(row, part)   slots: 0:row 1:part 2:one 3:other
def q1_less_row : Ex := .comp (.prim .sub [(.var 2), (.var 3)]) (.tp [2, 3]) .zip [(.var 0), (.var 1)] [] [2, 3]
@[simp] theorem q1_less_row_os (C : PFS) (es : List Ex) (env : PEn) : pOs C (q1_less_row :: es) env = (pE C q1_less_row env).bind fun r => (pOs C es r.2).map fun q => (.tmp r.1 :: q.1, q.2) := rfl
def pf_less_row : PFn := ⟨[false, false], 4, [
 .s (.ret (.prim .tupleOf [q1_less_row]))]⟩
-- 7: can_hold_row(row, part)   slots: 0:row 1:part 2:rest
def pf_can_hold_row : PFn := ⟨[false, false], 3, [
 .s (.asg (.nm 2) (.call 6 [(.var 0), (.var 1)])),
 .s (.ret (.andE (.prim .ge [(.prim .minL [(.var 2)]), (.cst (.int 0))]) (.andE (.call 4 [(.var 0)]) (.call 4 [(.var 2)]))))]⟩
-- 8: can_hold(row, k)   slots: 0:row 1:k
def pf_can_hold : PFn := ⟨[false, false], 2, [
 .s (.ret (.call 7 [(.var 0), (.prim .mul [(.tup [(.var 1)]), (.prim .len [(.var 0)])])]))]⟩
-- 9: _law_source(script)   slots: 0:script 1:mixed 2:cell
def b1__law_source : List PSt := [
 .s (.asg (.nm 1) (.prim .mod [(.prim .int [(.prim .add [(.prim .add [(.prim .mul [(.var 1), (.cst (.int 69069))]), (.prim .mul [(.var 2), (.cst (.int 31))])]), (.cst (.int 5))])]), (.cst (.int 2147483629))])),
 .wipe [2]]
def q1__law_source : Ex := .comp (.prim .abs [(.var 2)]) (.nm 2) .seq [(.var 0)] [] [2]
@[simp] theorem q1__law_source_os (C : PFS) (es : List Ex) (env : PEn) : pOs C (q1__law_source :: es) env = (pE C q1__law_source env).bind fun r => (pOs C es r.2).map fun q => (.tmp r.1 :: q.1, q.2) := rfl
def pf__law_source : PFn := ⟨[false], 3, [
 .s (.asg (.nm 1) (.cst (.int 11))),
 .for (.nm 2) .seq [(.var 0)] b1__law_source,
 .wipe [2],
 .s (.ret (.dictS ["cells", "left", "mixed", "turn"] [(.prim .rev [q1__law_source]), (.cst (.int 1)), (.var 1), (.cst (.int 0))]))]⟩
-- 10: _law_pick(source, many)   slots: 0:source 1:many 2:left 3:mixed
def b1__law_pick : List PSt := [
 .s (.setAt 0 (.cst (.str "left")) (.methAt .popLast 0 (.cst (.str "cells")) []))]
def pf__law_pick : PFn := ⟨[false, false], 4, [
 .whl (.andE (.prim .gt [(.var 1), (.cst (.int 1))]) (.andE (.prim .lt [(.prim .idxD [(.var 0), (.cst (.str "left"))]), (.cst (.int 2))]) (.prim .gt [(.lenAt .len 0 (.cst (.str "cells"))), (.cst (.int 0))]))) b1__law_pick,
 .s (.asg (.nm 2) (.prim .idxD [(.var 0), (.cst (.str "left"))])),
 .ite (.orE (.prim .lt [(.var 1), (.cst (.int 2))]) (.prim .gt [(.var 2), (.cst (.int 1))])) [
  .s (.setAt 0 (.cst (.str "left")) (.prim .fdiv [(.var 2), (.prim .max2 [(.cst (.int 1)), (.var 1)])])),
  .s (.ret (.prim .mod [(.prim .int [(.var 2)]), (.prim .max2 [(.cst (.int 1)), (.var 1)])]))] [],
 .wipe [2],
 .s (.setAt 0 (.cst (.str "turn")) (.prim .add [(.prim .idxD [(.var 0), (.cst (.str "turn"))]), (.cst (.int 1))])),
 .s (.asg (.nm 3) (.prim .mod [(.prim .int [(.prim .add [(.prim .idxD [(.var 0), (.cst (.str "mixed"))]), (.prim .mul [(.prim .idxD [(.var 0), (.cst (.str "turn"))]), (.cst (.int 104729))])])]), (.cst (.int 998244353))])),
 .s (.asg (.nm 3) (.prim .mod [(.prim .int [(.prim .add [(.prim .mul [(.var 3), (.var 3)]), (.prim .mul [(.prim .idxD [(.var 0), (.cst (.str "turn"))]), (.cst (.int 17))])])]), (.cst (.int 2147483647))])),
 .s (.setAt 0 (.cst (.str "mixed")) (.var 3)),
 .s (.ret (.prim .mod [(.prim .int [(.prim .fdiv [(.var 3), (.cst (.int 16))])]), (.var 1)]))]⟩
-- 11: _law_of(source, some)   slots: 0:source 1:some
def pf__law_of : PFn := ⟨[false, false], 2, [
 .s (.ret (.prim .idx [(.var 1), (.call 10 [(.var 0), (.prim .len [(.var 1)])])]))]⟩
-- 12: _law_pairs(n)   slots: 0:n 1:found 2:a 3:b
def q1__law_pairs : Ex := .comp (.tup [(.var 2), (.var 3)]) (.nm 3) .rng2 [(.prim .add [(.var 2), (.cst (.int 1))]), (.var 0)] [] [3]
@[simp] theorem q1__law_pairs_os (C : PFS) (es : List Ex) (env : PEn) : pOs C (q1__law_pairs :: es) env = (pE C q1__law_pairs env).bind fun r => (pOs C es r.2).map fun q => (.tmp r.1 :: q.1, q.2) := rfl
def b1__law_pairs : List PSt := [
 .s (.asg (.nm 1) (.prim .add [(.var 1), q1__law_pairs])),
 .wipe [2]]
def pf__law_pairs : PFn := ⟨[false], 4, [
 .s (.asg (.nm 1) (.lst [])),
 .for (.nm 2) .rng1 [(.var 0)] b1__law_pairs,
 .wipe [2, 3],
 .s (.ret (.var 1))]⟩
-- 13: _law_web(source, n, share)   slots: 0:source 1:n 2:share 3:is_thin 4:pair
def q1__law_web : Ex := .comp (.var 4) (.nm 4) .seq [(.call 12 [(.var 1)])] [(.prim .eq [(.prim .eq [(.call 10 [(.var 0), (.var 2)]), (.cst (.int 0))]), (.var 3)])] [4]
@[simp] theorem q1__law_web_os (C : PFS) (es : List Ex) (env : PEn) : pOs C (q1__law_web :: es) env = (pE C q1__law_web env).bind fun r => (pOs C es r.2).map fun q => (.tmp r.1 :: q.1, q.2) := rfl
def pf__law_web : PFn := ⟨[false, false, false], 5, [
 .s (.asg (.nm 3) (.prim .eq [(.call 10 [(.var 0), (.cst (.int 2))]), (.cst (.int 0))])),
 .s (.ret (.tup [(.var 1), (.prim .tupleOf [q1__law_web])]))]⟩
-- 14: _law_degrees(web)   slots: 0:web 1:found 2:a 3:b
def b1__law_degrees : List PSt := [
 .s (.augAt 1 (.var 2) (.cst (.int 1))),
 .s (.augAt 1 (.var 3) (.cst (.int 1))),
 .wipe [2, 3]]
def pf__law_degrees : PFn := ⟨[false], 4, [
 .s (.asg (.nm 1) (.prim .mul [(.lst [(.cst (.int 0))]), (.prim .idx [(.var 0), (.cst (.int 0))])])),
 .for (.tp [2, 3]) .seq [(.prim .idx [(.var 0), (.cst (.int 1))])] b1__law_degrees,
 .wipe [2, 3],
 .s (.ret (.prim .tupleOf [(.var 1)]))]⟩
-- 15: _law_has_web(row)   slots: 0:row 1:falling 2:t 3:number
def q1__law_has_web : Ex := .comp (.prim .min2 [(.var 2), (.var 3)]) (.nm 3) .seq [(.prim .slLo [(.var 1), (.var 2)])] [] [3]
@[simp] theorem q1__law_has_web_os (C : PFS) (es : List Ex) (env : PEn) : pOs C (q1__law_has_web :: es) env = (pE C q1__law_has_web env).bind fun r => (pOs C es r.2).map fun q => (.tmp r.1 :: q.1, q.2) := rfl
def b1__law_has_web : List PSt := [
 .ite (.prim .gt [(.prim .sum [(.prim .slHi [(.var 1), (.var 2)])]), (.prim .add [(.prim .mul [(.var 2), (.prim .sub [(.var 2), (.cst (.int 1))])]), (.prim .sum [q1__law_has_web])])]) [
  .s (.ret (.cst (.bool false)))] [],
 .wipe [2]]
def pf__law_has_web : PFn := ⟨[false], 4, [
 .ite (.prim .eq [(.var 0), (.tup [])]) [
  .s (.ret (.cst (.bool true)))] [],
 .s (.asg (.nm 1) (.prim .rev [(.prim .sorted [(.var 0)])])),
 .ite (.orE (.prim .eq [(.prim .mod [(.prim .int [(.prim .sum [(.var 0)])]), (.cst (.int 2))]), (.cst (.int 1))]) (.prim .lt [(.prim .idx [(.var 1), (.prim .neg [(.cst (.int 1))])]), (.cst (.int 0))])) [
  .s (.ret (.cst (.bool false)))] [],
 .for (.nm 2) .rng2 [(.cst (.int 1)), (.prim .add [(.prim .len [(.var 0)]), (.cst (.int 1))])] b1__law_has_web,
 .wipe [1, 2, 3],
 .s (.ret (.cst (.bool true)))]⟩
-- 16: _law_even_part(source, n)   slots: 0:source 1:n 2:low 3:share 4:c
def q1__law_even_part : Ex := .comp (.prim .add [(.var 2), (.prim .int [(.prim .eq [(.call 10 [(.var 0), (.var 3)]), (.cst (.int 0))])])]) (.nm 4) .rng1 [(.var 1)] [] [4]
@[simp] theorem q1__law_even_part_os (C : PFS) (es : List Ex) (env : PEn) : pOs C (q1__law_even_part :: es) env = (pE C q1__law_even_part env).bind fun r => (pOs C es r.2).map fun q => (.tmp r.1 :: q.1, q.2) := rfl
def pf__law_even_part : PFn := ⟨[false, false], 5, [
 .s (.asg (.tp [2, 3]) (.tup [(.call 11 [(.var 0), (.lst [(.cst (.int 0)), (.cst (.int 0)), (.cst (.int 1)), (.cst (.int 1)), (.cst (.int 2)), (.cst (.int 3))])]), (.call 11 [(.var 0), (.lst [(.cst (.int 1)), (.cst (.int 2)), (.cst (.int 2)), (.cst (.int 4)), (.cst (.int 99))])])])),
 .s (.ret (.prim .tupleOf [q1__law_even_part]))]⟩
-- 17: _law_less(row, part)   slots: 0:row 1:part 2:one 3:other
def q1__law_less : Ex := .comp (.prim .sub [(.var 2), (.var 3)]) (.tp [2, 3]) .zip [(.var 0), (.var 1)] [] [2, 3]
@[simp] theorem q1__law_less_os (C : PFS) (es : List Ex) (env : PEn) : pOs C (q1__law_less :: es) env = (pE C q1__law_less env).bind fun r => (pOs C es r.2).map fun q => (.tmp r.1 :: q.1, q.2) := rfl
def pf__law_less : PFn := ⟨[false, false], 4, [
 .s (.ret (.prim .tupleOf [q1__law_less]))]⟩
-- 18: _law_two_rows(source, most)   slots: 0:source 1:most 2:n 3:part 4:way 5:row 6:one 7:other 8:c 9:lap 10:a 11:b
def q1__law_two_rows : Ex := .comp (.prim .min2 [(.cst (.int 11)), (.prim .add [(.var 6), (.var 7)])]) (.tp [6, 7]) .zip [(.var 5), (.var 3)] [] [6, 7]
@[simp] theorem q1__law_two_rows_os (C : PFS) (es : List Ex) (env : PEn) : pOs C (q1__law_two_rows :: es) env = (pE C q1__law_two_rows env).bind fun r => (pOs C es r.2).map fun q => (.tmp r.1 :: q.1, q.2) := rfl
def q2__law_two_rows : Ex := .comp (.call 10 [(.var 0), (.var 2)]) (.nm 8) .rng1 [(.var 2)] [] [8]
@[simp] theorem q2__law_two_rows_os (C : PFS) (es : List Ex) (env : PEn) : pOs C (q2__law_two_rows :: es) env = (pE C q2__law_two_rows env).bind fun r => (pOs C es r.2).map fun q => (.tmp r.1 :: q.1, q.2) := rfl
def b1__law_two_rows : List PSt := [
 .s (.par [10, 11] [(.call 10 [(.var 0), (.var 2)]), (.call 10 [(.var 0), (.var 2)])]),
 .ite (.andE (.prim .gt [(.prim .idx [(.var 5), (.var 10)]), (.cst (.int 0))]) (.prim .lt [(.prim .idx [(.var 5), (.var 11)]), (.cst (.int 11))])) [
  .s (.setAt 5 (.var 10) (.prim .sub [(.prim .idx [(.var 5), (.var 10)]), (.cst (.int 1))])),
  .s (.setAt 5 (.var 11) (.prim .add [(.prim .idx [(.var 5), (.var 11)]), (.cst (.int 1))]))] [],
 .wipe [9, 10, 11]]
def pf__law_two_rows : PFn := ⟨[false, false], 12, [
 .s (.asg (.nm 2) (.ite (.prim .eq [(.call 10 [(.var 0), (.cst (.int 3))]), (.cst (.int 0))]) (.prim .add [(.cst (.int 1)), (.call 10 [(.var 0), (.var 1)])]) (.prim .sub [(.var 1), (.call 10 [(.var 0), (.prim .max2 [(.cst (.int 1)), (.prim .fdiv [(.var 1), (.cst (.int 2))])])])]))),
 .s (.par [3, 4] [(.call 16 [(.var 0), (.var 2)]), (.call 10 [(.var 0), (.cst (.int 6))])]),
 .s (.asg (.nm 5) (.prim .listOf [(.call 14 [(.call 13 [(.var 0), (.var 2), (.prim .add [(.cst (.int 2)), (.call 10 [(.var 0), (.cst (.int 3))])])])])])),
 .ite (.prim .lt [(.var 4), (.cst (.int 2))]) [
  .s (.asg (.nm 5) q1__law_two_rows)] [],
 .ite (.prim .eq [(.var 4), (.cst (.int 2))]) [
  .s (.asg (.nm 5) q2__law_two_rows)] [],
 .wipe [4],
 .for (.nm 9) .rng1 [(.call 11 [(.var 0), (.lst [(.cst (.int 0)), (.cst (.int 0)), (.cst (.int 1)), (.cst (.int 2))])])] b1__law_two_rows,
 .wipe [2, 9, 10, 11],
 .s (.ret (.tup [(.prim .tupleOf [(.var 5)]), (.var 3)]))]⟩
-- 19: law(script)   slots: 0:script 1:source 2:lap 3:row 4:part 5:rest 6:due 7:k 8:less 9:number
def q1_law : Ex := .comp (.prim .sub [(.var 9), (.var 7)]) (.nm 9) .seq [(.var 3)] [] [9]
@[simp] theorem q1_law_os (C : PFS) (es : List Ex) (env : PEn) : pOs C (q1_law :: es) env = (pE C q1_law env).bind fun r => (pOs C es r.2).map fun q => (.tmp r.1 :: q.1, q.2) := rfl
def b1_law : List PSt := [
 .s (.asg (.nm 8) (.prim .tupleOf [q1_law])),
 .s (.asg (.nm 6) (.andE (.prim .ge [(.prim .minL [(.var 8)]), (.cst (.int 0))]) (.andE (.call 15 [(.var 3)]) (.call 15 [(.var 8)])))),
 .ite (.orE (.prim .ne [(.prim .repr [(.call 8 [(.var 3), (.var 7)])]), (.prim .repr [(.var 6)])]) (.prim .ne [(.call 7 [(.var 3), (.prim .mul [(.tup [(.var 7)]), (.prim .len [(.var 3)])])]), (.var 6)])) [
  .s (.ret (.cst (.bool false)))] [],
 .wipe [6, 7, 8]]
def b2_law : List PSt := [
 .s (.asg (.tp [3, 4]) (.call 18 [(.var 1), (.cst (.int 12))])),
 .s (.asg (.nm 5) (.call 17 [(.var 3), (.var 4)])),
 .ite (.prim .ne [(.prim .repr [(.lst [(.call 6 [(.var 3), (.var 4)]), (.call 5 [(.var 3)])])]), (.prim .repr [(.lst [(.var 5), (.prim .lt [(.prim .sub [(.prim .maxL [(.var 3)]), (.prim .minL [(.var 3)])]), (.cst (.int 2))])])])]) [
  .s (.ret (.cst (.bool false)))] [],
 .wipe [2],
 .s (.asg (.nm 6) (.andE (.prim .ge [(.prim .minL [(.var 5)]), (.cst (.int 0))]) (.andE (.call 15 [(.var 3)]) (.call 15 [(.var 5)])))),
 .ite (.prim .ne [(.prim .repr [(.lst [(.call 7 [(.var 3), (.var 4)]), (.call 5 [(.var 4)])])]), (.prim .repr [(.lst [(.var 6), (.cst (.bool true))])])]) [
  .s (.ret (.cst (.bool false)))] [],
 .wipe [4, 5, 6],
 .for (.nm 7) .seq [(.tup [(.cst (.int 0)), (.cst (.int 1)), (.call 10 [(.var 1), (.cst (.int 12))])])] b1_law,
 .wipe [3, 6, 7, 8, 9]]
def pf_law : PFn := ⟨[false], 10, [
 .s (.asg (.nm 1) (.call 9 [(.var 0)])),
 .for (.nm 2) .rng1 [(.cst (.int 6))] b2_law,
 .wipe [1, 2, 3, 4, 5, 6, 7, 8, 9],
 .s (.ret (.andE (.call 8 [(.tup [(.cst (.int 2)), (.cst (.int 2)), (.cst (.int 2)), (.cst (.int 2))]), (.cst (.int 1))]) (.notE (.call 8 [(.tup [(.cst (.int 3)), (.cst (.int 3)), (.cst (.int 2)), (.cst (.int 2)), (.cst (.int 2))]), (.cst (.int 1))]))))]⟩
def pfs : List PFn := [pf_lot_excess, pf_greatest_lot, pf_worst_lot, pf_greatest_excess, pf_has_web, pf_is_nearly_even, pf_less_row, pf_can_hold_row, pf_can_hold, pf__law_source, pf__law_pick, pf__law_of, pf__law_pairs, pf__law_web, pf__law_degrees, pf__law_has_web, pf__law_even_part, pf__law_less, pf__law_two_rows, pf_law]
-- levels: 7; law at 19
end Ev.k75
set_option maxRecDepth 100000
set_option maxHeartbeats 4000000
/-! The same against the given text, printed by irp.py. -/
namespace Ev.k75
open PySem PySem.Spec PyProof.Rows L2 Ev
def topS (i : Nat) : Stmt := PySem.Challenge.pw_factorwebs_k75_parts_and_what_can_be_hel.main.body.getD i (.Pass ⟨0, 0, 0, 0⟩)
def df_lot_excess : DefI := ⟨"lot_excess", topS 1, ["row", "lot", "t", "others", "c", "number"], pf_lot_excess.bare, false⟩
def df_greatest_lot : DefI := ⟨"greatest_lot", topS 2, ["row", "t", "c"], pf_greatest_lot.bare, true⟩
def df_worst_lot : DefI := ⟨"worst_lot", topS 3, ["row", "found", "t", "lot"], pf_worst_lot.bare, false⟩
def df_greatest_excess : DefI := ⟨"greatest_excess", topS 4, ["row"], pf_greatest_excess.bare, false⟩
def df_has_web : DefI := ⟨"has_web", topS 6, ["row"], pf_has_web.bare, false⟩
def df_is_nearly_even : DefI := ⟨"is_nearly_even", topS 8, ["row"], pf_is_nearly_even.bare, false⟩
def df_less_row : DefI := ⟨"less_row", topS 9, ["row", "part", "one", "other"], pf_less_row.bare, false⟩
def df_can_hold_row : DefI := ⟨"can_hold_row", topS 10, ["row", "part", "rest"], pf_can_hold_row.bare, false⟩
def df_can_hold : DefI := ⟨"can_hold", topS 11, ["row", "k"], pf_can_hold.bare, false⟩
def df__law_source : DefI := ⟨"_law_source", topS 13, ["script", "mixed", "cell"], pf__law_source.bare, false⟩
def df__law_pick : DefI := ⟨"_law_pick", topS 14, ["source", "many", "left", "mixed"], pf__law_pick.bare, false⟩
def df__law_of : DefI := ⟨"_law_of", topS 15, ["source", "some"], pf__law_of.bare, false⟩
def df__law_pairs : DefI := ⟨"_law_pairs", topS 16, ["n", "found", "a", "b"], pf__law_pairs.bare, false⟩
def df__law_web : DefI := ⟨"_law_web", topS 17, ["source", "n", "share", "is_thin", "pair"], pf__law_web.bare, false⟩
def df__law_degrees : DefI := ⟨"_law_degrees", topS 18, ["web", "found", "a", "b"], pf__law_degrees.bare, false⟩
def df__law_has_web : DefI := ⟨"_law_has_web", topS 19, ["row", "falling", "t", "number"], pf__law_has_web.bare, false⟩
def df__law_even_part : DefI := ⟨"_law_even_part", topS 20, ["source", "n", "low", "share", "c"], pf__law_even_part.bare, false⟩
def df__law_less : DefI := ⟨"_law_less", topS 21, ["row", "part", "one", "other"], pf__law_less.bare, false⟩
def df__law_two_rows : DefI := ⟨"_law_two_rows", topS 22, ["source", "most", "n", "part", "way", "row", "one", "other", "c", "lap", "a", "b"], pf__law_two_rows.bare, false⟩
def df_law : DefI := ⟨"law", topS 23, ["script", "source", "lap", "row", "part", "rest", "due", "k", "less", "number"], pf_law.bare, false⟩
def defs : List DefI := [df_lot_excess, df_greatest_lot, df_worst_lot, df_greatest_excess, df_has_web, df_is_nearly_even, df_less_row, df_can_hold_row, df_can_hold, df__law_source, df__law_pick, df__law_of, df__law_pairs, df__law_web, df__law_degrees, df__law_has_web, df__law_even_part, df__law_less, df__law_two_rows, df_law]
def bn : List Str := ["abs", "enumerate", "int", "len", "list", "max", "min", "range", "repr", "sorted", "sum", "tuple", "zip"]
theorem ck : ckDefs bn defs = true := by decide +kernel
end Ev.k75
set_option maxRecDepth 100000
set_option maxHeartbeats 4000000
/-! The looks of the defs, found by sig.py. -/
namespace Ev.k75
open PySem Ev
def looks : List Sig := [
  ⟨9, [⟨(.l .i), ⟨false, false, true, false⟩, true⟩], (.d ["cells", "left", "mixed", "turn"] [(.l .i), .i, .i, .i]), ⟨true, false⟩, [⟨(.l .i), ⟨false, false, true, false⟩, true⟩]⟩,
  ⟨10, [⟨(.d ["cells", "left", "mixed", "turn"] [(.l .i), .i, .i, .i]), ⟨true, false, false, false⟩, true⟩, ⟨.i, ⟨true, false, false, false⟩, true⟩], .i, ⟨true, false⟩, [⟨(.d ["cells", "left", "mixed", "turn"] [(.l .i), .i, .i, .i]), ⟨true, false, false, false⟩, false⟩, ⟨.i, ⟨true, false, false, false⟩, true⟩]⟩,
  ⟨11, [⟨(.d ["cells", "left", "mixed", "turn"] [(.l .i), .i, .i, .i]), ⟨true, false, false, false⟩, true⟩, ⟨(.l .i), ⟨true, false, false, false⟩, true⟩], .i, ⟨true, false⟩, [⟨(.d ["cells", "left", "mixed", "turn"] [(.l .i), .i, .i, .i]), ⟨true, false, false, false⟩, false⟩, ⟨(.l .i), ⟨true, false, false, false⟩, true⟩]⟩,
  ⟨16, [⟨(.d ["cells", "left", "mixed", "turn"] [(.l .i), .i, .i, .i]), ⟨true, false, false, false⟩, true⟩, ⟨.i, ⟨true, false, false, false⟩, true⟩], .i, ⟨true, false⟩, [⟨(.d ["cells", "left", "mixed", "turn"] [(.l .i), .i, .i, .i]), ⟨true, false, false, false⟩, false⟩, ⟨.i, ⟨true, false, false, false⟩, true⟩]⟩,
  ⟨12, [⟨.i, ⟨true, false, false, false⟩, true⟩], (.l .i), ⟨true, false⟩, [⟨.i, ⟨true, false, false, false⟩, true⟩]⟩,
  ⟨13, [⟨(.d ["cells", "left", "mixed", "turn"] [(.l .i), .i, .i, .i]), ⟨true, false, false, false⟩, true⟩, ⟨.i, ⟨true, false, false, false⟩, true⟩, ⟨.i, ⟨true, false, false, false⟩, true⟩], .i, ⟨true, false⟩, [⟨(.d ["cells", "left", "mixed", "turn"] [(.l .i), .i, .i, .i]), ⟨true, false, false, false⟩, false⟩, ⟨.i, ⟨true, false, false, false⟩, true⟩, ⟨.i, ⟨true, false, false, false⟩, true⟩]⟩,
  ⟨14, [⟨.i, ⟨true, false, false, false⟩, true⟩], .i, ⟨true, false⟩, [⟨.i, ⟨true, false, false, false⟩, true⟩]⟩,
  ⟨18, [⟨(.d ["cells", "left", "mixed", "turn"] [(.l .i), .i, .i, .i]), ⟨true, false, false, false⟩, true⟩, ⟨.i, ⟨true, false, false, false⟩, true⟩], .i, ⟨true, false⟩, [⟨(.d ["cells", "left", "mixed", "turn"] [(.l .i), .i, .i, .i]), ⟨true, false, false, false⟩, false⟩, ⟨.i, ⟨true, false, false, false⟩, true⟩]⟩,
  ⟨17, [⟨.i, ⟨true, false, false, false⟩, true⟩, ⟨.i, ⟨true, false, false, false⟩, true⟩], .i, ⟨true, false⟩, [⟨.i, ⟨true, false, false, false⟩, true⟩, ⟨.i, ⟨true, false, false, false⟩, true⟩]⟩,
  ⟨6, [⟨.i, ⟨true, false, false, false⟩, true⟩, ⟨.i, ⟨true, false, false, false⟩, true⟩], .i, ⟨true, false⟩, [⟨.i, ⟨true, false, false, false⟩, true⟩, ⟨.i, ⟨true, false, false, false⟩, true⟩]⟩,
  ⟨5, [⟨.i, ⟨true, false, false, false⟩, true⟩], .i, ⟨true, false⟩, [⟨.i, ⟨true, false, false, false⟩, true⟩]⟩,
  ⟨15, [⟨.i, ⟨true, false, false, false⟩, true⟩], .i, ⟨true, false⟩, [⟨.i, ⟨true, false, false, false⟩, true⟩]⟩,
  ⟨1, [⟨.i, ⟨true, false, false, false⟩, true⟩, ⟨.i, ⟨true, false, false, false⟩, true⟩], .i, ⟨true, false⟩, [⟨.i, ⟨true, false, false, false⟩, true⟩, ⟨.i, ⟨true, false, false, false⟩, true⟩]⟩,
  ⟨0, [⟨.i, ⟨true, false, false, false⟩, true⟩, ⟨.i, ⟨true, false, false, false⟩, true⟩], .i, ⟨true, false⟩, [⟨.i, ⟨true, false, false, false⟩, true⟩, ⟨.i, ⟨true, false, false, false⟩, true⟩]⟩,
  ⟨2, [⟨.i, ⟨true, false, false, false⟩, true⟩], .i, ⟨true, false⟩, [⟨.i, ⟨true, false, false, false⟩, true⟩]⟩,
  ⟨3, [⟨.i, ⟨true, false, false, false⟩, true⟩], .i, ⟨true, false⟩, [⟨.i, ⟨true, false, false, false⟩, true⟩]⟩,
  ⟨4, [⟨.i, ⟨true, false, false, false⟩, true⟩], .i, ⟨true, false⟩, [⟨.i, ⟨true, false, false, false⟩, true⟩]⟩,
  ⟨7, [⟨.i, ⟨true, false, false, false⟩, true⟩, ⟨.i, ⟨true, false, false, false⟩, true⟩], .i, ⟨true, false⟩, [⟨.i, ⟨true, false, false, false⟩, true⟩, ⟨.i, ⟨true, false, false, false⟩, true⟩]⟩,
  ⟨8, [⟨.i, ⟨true, false, false, false⟩, true⟩, ⟨.i, ⟨true, false, false, false⟩, true⟩], .i, ⟨true, false⟩, [⟨.i, ⟨true, false, false, false⟩, true⟩, ⟨.i, ⟨true, false, false, false⟩, true⟩]⟩,
  ⟨19, [⟨(.l .i), ⟨false, false, true, false⟩, true⟩], .i, ⟨true, false⟩, [⟨(.l .i), ⟨false, false, true, false⟩, true⟩]⟩]
theorem looks_ok : (looks.all (ckSig looks pfs)) = true := by decide +kernel
end Ev.k75
set_option maxRecDepth 100000
set_option maxHeartbeats 4000000
/-! The law k75 without flags. -/
namespace Ev.k75
open PySem Ev Ev.Lib

/-! ### the defs by their numbers -/
theorem s_pick (k : Nat) : Picks (pSem pfs (k + 1)) 10 := fun S m h => by
  rw [pSem_eq pfs k 10 _ (F := Lib.pf__law_pick) rfl]; exact pick_run S m h _
theorem s_pairs (k : Nat) : Pairs (pSem pfs (k + 1)) 12 := fun n h0 h1 => by
  rw [pSem_eq pfs k 12 _ (F := Lib.pf__law_pairs) rfl]; exact pairs_ok _ n h0 h1
theorem s_ex (k : Nat) : Excs (pSem pfs (k + 1)) 0 := fun row lot h h1 h2 => by
  rw [pSem_eq pfs k 0 _ (F := Lib.pf_lot_excess) rfl]; exact lot_excess_ok _ row lot h h1 h2
theorem s_gl (k : Nat) : Glots (pSem pfs (k + 1)) 1 := fun row t h h1 => by
  rw [pSem_eq pfs k 1 _ (F := Lib.pf_greatest_lot) rfl]; exact greatest_lot_ok _ row t h h1
theorem s_wo (k : Nat) : Worsts (pSem pfs (k + 2)) 2 := fun row h => by
  rw [pSem_eq pfs (k + 1) 2 _ (F := Lib.pf_worst_lot 0 1) rfl]; exact worst_lot_ok (s_ex k) (s_gl k) row h
theorem s_gx (k : Nat) : Gexcs (pSem pfs (k + 3)) 3 := fun row h => by
  rw [pSem_eq pfs (k + 2) 3 _ (F := Lib.pf_greatest_excess 0 2) rfl]; exact greatest_excess_ok (s_ex (k + 1)) (s_wo k) row h
theorem s_hw (k : Nat) (row : List Int) (h : row.length ≤ 99) : pSem pfs (k + 4) 4 [.tuple (row.map .int)] = some (.bool (hasWeb row), [.tuple (row.map .int)]) := by
  rw [pSem_eq pfs (k + 3) 4 _ (F := Lib.pf_has_web 3) rfl]; exact has_web_ok (s_gx k) row h
theorem s_lhw (k : Nat) (row : List Int) (h : row ≠ []) (h0 : ∀ x ∈ row, 0 ≤ x) (h1 : row.length ≤ 99) : pSem pfs (k + 1) 15 [.tuple (row.map .int)] = some (.bool (lHas row), [.tuple (row.map .int)]) := by
  rw [pSem_eq pfs k 15 _ (F := Lib.pf__law_has_web) rfl]; exact law_has_web_ok _ row h h0 h1

/-! ### least and greatest -/
def lo : List Int → Int
  | [] => 0
  | x :: xs => minI x xs
def hi : List Int → Int
  | [] => 0
  | x :: xs => maxI x xs
theorem minI_spec : ∀ (m : Int) (xs : List Int), (minI m xs = m ∨ minI m xs ∈ xs) ∧ minI m xs ≤ m ∧ ∀ x ∈ xs, minI m xs ≤ x
  | m, [] => ⟨.inl rfl, Int.le_refl _, fun x hx => by cases hx⟩
  | m, x :: xs => by
    unfold minI
    obtain ⟨h1, h2, h3⟩ := minI_spec (if x < m then x else m) xs
    refine ⟨?_, ?_, fun y hy => ?_⟩
    · rcases h1 with h1 | h1
      · rw [h1]
        split
        · exact .inr (List.mem_cons_self ..)
        · exact .inl rfl
      · exact .inr (List.mem_cons_of_mem _ h1)
    · split at h2 <;> rename_i q <;> simp only [q, if_true, if_false] <;> omega
    · rcases List.mem_cons.mp hy with rfl | hy
      · split at h2 <;> rename_i q <;> simp only [q, if_true, if_false] <;> omega
      · exact h3 y hy
theorem maxI_spec : ∀ (m : Int) (xs : List Int), (maxI m xs = m ∨ maxI m xs ∈ xs)
  | m, [] => .inl rfl
  | m, x :: xs => by
    unfold maxI
    rcases maxI_spec (if x > m then x else m) xs with h1 | h1
    · rw [h1]
      split
      · exact .inr (List.mem_cons_self ..)
      · exact .inl rfl
    · exact .inr (List.mem_cons_of_mem _ h1)
theorem lo_mem {row : List Int} (h : row ≠ []) : lo row ∈ row := by
  cases row with
  | nil => exact absurd rfl h
  | cons x xs => exact (minI_spec x xs).1.elim (fun e => by show minI x xs ∈ _; rw [e]; exact List.mem_cons_self ..) fun e => List.mem_cons_of_mem _ e
theorem hi_mem {row : List Int} (h : row ≠ []) : hi row ∈ row := by
  cases row with
  | nil => exact absurd rfl h
  | cons x xs => exact (maxI_spec x xs).elim (fun e => by show maxI x xs ∈ _; rw [e]; exact List.mem_cons_self ..) fun e => List.mem_cons_of_mem _ e
theorem lo_le {row : List Int} : ∀ x ∈ row, lo row ≤ x := fun x hx => by
  cases row with
  | nil => cases hx
  | cons y ys =>
    rcases List.mem_cons.mp hx with rfl | hx
    · exact (minI_spec x ys).2.1
    · exact (minI_spec y ys).2.2 x hx
theorem p_lo {row : List Int} (h : row ≠ []) : pm .minL [.tuple (row.map .int)] = some (.int (lo row)) := by
  rw [pm_minL, seqOf_tuple, Option.bind_some, intsOf_map]
  cases row with
  | nil => exact absurd rfl h
  | cons x xs => rfl
theorem p_hi {row : List Int} (h : row ≠ []) : pm .maxL [.tuple (row.map .int)] = some (.int (hi row)) := by
  rw [pm_maxL, seqOf_tuple, Option.bind_some, intsOf_map]
  cases row with
  | nil => exact absurd rfl h
  | cons x xs => rfl
def near (row : List Int) : Bool := decide (hi row - lo row < 2)
theorem s_near (k : Nat) {row : List Int} (h : row ≠ []) : pSem pfs (k + 1) 5 [.tuple (row.map .int)] = some (.bool (near row), [.tuple (row.map .int)]) := by
  rw [pSem_eq pfs k 5 _ (F := pf_is_nearly_even) rfl, pRun_eq _ _ _ (by rfl)]
  have a := p_lo h
  have b := p_hi h
  unfold near
  generalize PyData.tuple (row.map .int) = T at a b
  simp only [pf_is_nearly_even, List.map_cons, List.map_nil, List.length_cons, List.length_nil, pSs_c, pS_s]
  simp [a, b, -pm_minL, -pm_maxL]
/-! ### a row less another -/
def less (row part : List Int) : List Int := (row.zip part).map fun p => p.1 - p.2
theorem zipD_ints : ∀ xs ys : List Int, zipD (xs.map .int) (ys.map .int) = (xs.zip ys).map pD
  | [], _ => rfl
  | _ :: _, [] => rfl
  | x :: xs, y :: ys => by rw [List.map_cons, List.map_cons, zipD, zipD_ints xs ys]; rfl
theorem less_len {row part : List Int} (h : row.length = part.length) : (less row part).length = row.length := by simp [less, h]
theorem less_run (C : PFS) (row part : List Int) (h : row.length = part.length) (h1 : row.length ≤ 99) : pRun C pf_less_row [.tuple (row.map .int), .tuple (part.map .int)] = some (.tuple ((less row part).map .int), [.tuple (row.map .int), .tuple (part.map .int)]) := by
  have c := comp_all (C := C) (q := q1_less_row) rfl (env := [some (.tuple (row.map .int)), some (.tuple (part.map .int)), none, none]) (row.zip part) pD (fun p => .int (p.1 - p.2)) (by simp [pIts, zipD_ints]; rfl) (by rw [List.length_zip, big_eq]; omega) (fun p _ =>
    ⟨[some (.tuple (row.map .int)), some (.tuple (part.map .int)), some (.int p.1), some (.int p.2)], by simp [pD], by simp, by simp⟩)
  have e : (row.zip part).map (fun p => PyData.int (p.1 - p.2)) = (less row part).map .int := by unfold less; rw [List.map_map]; rfl
  rw [e] at c
  rw [pRun_eq _ _ _ (by rfl)]
  generalize less row part = L at c ⊢
  simp [pf_less_row, c]
theorem s_less (k : Nat) (row part : List Int) (h : row.length = part.length) (h1 : row.length ≤ 99) : pSem pfs (k + 1) 6 [.tuple (row.map .int), .tuple (part.map .int)] = some (.tuple ((less row part).map .int), [.tuple (row.map .int), .tuple (part.map .int)]) := by
  rw [pSem_eq pfs k 6 _ (F := pf_less_row) rfl]; exact less_run _ row part h h1
theorem s_lless (k : Nat) (row part : List Int) (h : row.length = part.length) (h1 : row.length ≤ 99) : pSem pfs (k + 1) 17 [.tuple (row.map .int), .tuple (part.map .int)] = some (.tuple ((less row part).map .int), [.tuple (row.map .int), .tuple (part.map .int)]) := by
  rw [pSem_eq pfs k 17 _ (F := pf_less_row) rfl]; exact less_run _ row part h h1
/-! ### what can be held -/
def canHold (row part : List Int) : Bool := decide (0 ≤ lo (less row part)) && (hasWeb row && hasWeb (less row part))
theorem s_chr (k : Nat) (row part : List Int) (h : row.length = part.length) (h0 : row ≠ []) (h1 : row.length ≤ 99) : pSem pfs (k + 5) 7 [.tuple (row.map .int), .tuple (part.map .int)] = some (.bool (canHold row part), [.tuple (row.map .int), .tuple (part.map .int)]) := by
  have c1 := s_less (k + 3) row part h h1
  have hl := less_len h
  have hn : less row part ≠ [] := fun z => by rw [z] at hl; exact h0 (List.eq_nil_of_length_eq_zero hl.symm)
  have c2 := s_hw k row h1
  have c3 := s_hw k (less row part) (by omega)
  have c4 := p_lo hn
  rw [pSem_eq pfs (k + 4) 7 _ (F := pf_can_hold_row) rfl, pRun_eq _ _ _ (by rfl)]
  unfold canHold
  generalize less row part = L at c1 c3 c4 ⊢
  by_cases q : 0 ≤ lo L <;> cases hq : hasWeb row <;> rw [hq] at c2 <;> simp [pf_can_hold_row, c1, c2, c3, c4, q, -pm_minL]
def rep (n : Nat) (k : Int) : List Int := List.replicate n k
theorem p_rep (k : Int) {n : Nat} (h : n ≤ 99) : pMul (.tuple [.int k]) (.int n) = some (.tuple ((rep n k).map .int)) := by
  have e : repL (n : Int) [PyData.int k] = (rep n k).map .int := by
    unfold repL rep
    rw [List.map_replicate, Int.toNat_natCast]
    clear h
    induction n with
    | zero => rfl
    | succ n ih => rw [List.replicate_succ, List.replicate_succ, List.flatten_cons, ih]; rfl
  have : (decide ([PyData.int k].length ≤ 1000) && decide (-1000 ≤ (n : Int)) && decide ((n : Int) ≤ 1000)) = true := by
    simp only [Bool.and_eq_true, decide_eq_true_eq, List.length_cons, List.length_nil]; omega
  show guardO (decide ([PyData.int k].length ≤ 1000) && decide (-1000 ≤ (n : Int)) && decide ((n : Int) ≤ 1000)) (PyData.tuple (repL (n : Int) [PyData.int k])) = _
  rw [this, e]; rfl
theorem rep_len (n : Nat) (k : Int) : (rep n k).length = n := List.length_replicate ..
theorem s_ch (k : Nat) (row : List Int) (m : Int) (h0 : row ≠ []) (h1 : row.length ≤ 99) : pSem pfs (k + 6) 8 [.tuple (row.map .int), .int m] = some (.bool (canHold row (rep row.length m)), [.tuple (row.map .int), .int m]) := by
  have c1 := s_chr k row (rep row.length m) (rep_len ..).symm h0 h1
  have c2 := p_rep m h1
  rw [pSem_eq pfs (k + 5) 8 _ (F := pf_can_hold) rfl, pRun_eq _ _ _ (by rfl)]
  generalize rep row.length m = R at c1 c2 ⊢
  simp [pf_can_hold, c1, c2]
/-- the law's own word -/
def due (row rest : List Int) : Bool := decide (0 ≤ lo rest) && (lHas row && lHas rest)
theorem due_eq {row part : List Int} (h : row.length = part.length) (h0 : row ≠ []) (hp : ∀ x ∈ part, 0 ≤ x) : canHold row part = due row (less row part) := by
  unfold canHold due
  by_cases q : 0 ≤ lo (less row part)
  · have r : ∀ x ∈ less row part, 0 ≤ x := fun x hx => by have := lo_le x hx; omega
    have w : ∀ x ∈ row, 0 ≤ x := fun x hx => by
      obtain ⟨i, hi, rfl⟩ := List.getElem_of_mem hx
      have a1 : part[i]'(by omega) ∈ part := List.getElem_mem _
      have a2 : (less row part)[i]'(by rw [less_len h]; exact hi) ∈ less row part := List.getElem_mem _
      have a3 := r _ a2
      have a4 := hp _ a1
      simp [less] at a3
      omega
    rw [hasWeb_eq row w, hasWeb_eq _ r]
  · simp [q]

/-! ### the drawn rows -/
theorem s_of (k : Nat) (S : Src) (xs : List Int) (h : xs ≠ []) (hl : xs.length < 1000000) : ∃ x ∈ xs, pSem pfs (k + 2) 11 [S.d, .list (xs.map .int)] = some (.int x, [(pick S xs.length).2.d, .list (xs.map .int)]) := by
  obtain ⟨x, hx, h2⟩ := of_l (s_pick k) PyData.int S xs h hl
  exact ⟨x, hx, by rw [pSem_eq pfs (k + 1) 11 _ (F := Lib.pf__law_of 10) rfl]; exact h2⟩
theorem s_even (k : Nat) (S : Src) (n : Int) (h0 : 1 ≤ n) (h1 : n ≤ 99) : ∃ (low : Int) (part : List Int) (S' : Src), 0 ≤ low ∧ low ≤ 3 ∧ (part.length : Int) = n ∧ (∀ x ∈ part, x = low ∨ x = low + 1) ∧ pSem pfs (k + 3) 16 [S.d, .int n] = some (.tuple (part.map .int), [S'.d, .int n]) := by
  obtain ⟨low, l1, l2⟩ := s_of k S [0, 0, 1, 1, 2, 3] (by decide) (by decide)
  generalize pick S ([0, 0, 1, 1, 2, 3] : List Int).length = q1 at l2
  obtain ⟨z1, S1⟩ := q1
  obtain ⟨sh, m1, m2⟩ := s_of k S1 [1, 2, 2, 4, 99] (by decide) (by decide)
  generalize pick S1 ([1, 2, 2, 4, 99] : List Int).length = q2 at m2
  obtain ⟨z2, S2⟩ := q2
  have lw : 0 ≤ low ∧ low ≤ 3 := by
    simp only [List.mem_cons, List.not_mem_nil, or_false] at l1
    omega
  have hs : sh < 1073741824 := by
    simp only [List.mem_cons, List.not_mem_nil, or_false] at m1
    omega
  obtain ⟨part, S3, j1, j2, _⟩ := comp_each (C := pSem pfs (k + 2)) (q := q1__law_even_part) rfl (fun S : Src => [some S.d, some (.int n), some (.int low), some (.int sh), none]) (fun _ => True) (fun (_ y : Int) => y = low ∨ y = low + 1) (rg 0 n) PyData.int PyData.int S2 (env := [some S2.d, some (.int n), some (.int low), some (.int sh), none]) (env1 := [some S2.d, some (.int n), some (.int low), some (.int sh), none])
    (by simp [pIts, rgOk_of (a := 0) (b := n) (by omega) (by omega) (by omega) (by omega)]) (by rw [len_rg, big_eq]; omega) (by simp) trivial (fun x _ S _ => by
      have hc := s_pick (k + 1) S sh hs
      refine ⟨_, (pick S sh).2, low + (if (pick S sh).1 = 0 then 1 else 0), [some (pick S sh).2.d, some (.int n), some (.int low), some (.int sh), some (.int x)], by simp; rfl, trivial, by split <;> omega, ?_, ?_⟩
      · by_cases q : (pick S sh).1 = 0 <;> simp [hc, q]
      · simp)
  refine ⟨low, part, S3, lw.1, lw.2, by rw [← j1.len, len_rg]; omega, j1.right fun _ _ q => q, ?_⟩
  rw [pSem_eq pfs (k + 2) 16 _ (F := pf__law_even_part) rfl, pRun_eq _ _ _ (by rfl)]
  simp only [List.map_cons, List.map_nil] at l2 m2
  simp [pf__law_even_part, l2, m2, j2]
def Bnd (n : Int) (row : List Int) : Prop := (row.length : Int) = n ∧ ∀ x ∈ row, 0 ≤ x ∧ x ≤ 20000
theorem set_in {row : List Int} {n : Int} {i : Nat} {v : Int} (h : Bnd n row) (h0 : 0 ≤ v) (h1 : v ≤ 20000) : Bnd n (row.set i v) := ⟨by rw [List.length_set]; exact h.1, fun x hx => by
  rcases List.mem_or_eq_of_mem_set hx with q | q
  · exact h.2 x q
  · omega⟩
theorem nth_in {row : List Int} {n c : Int} (h : Bnd n row) (h0 : 0 ≤ c) (h1 : c < n) : 0 ≤ nth row c ∧ nth row c ≤ 20000 := h.2 _ (List.mem_of_getElem? (nth_get h0 (by rw [h.1]; exact h1)))
def tailT : List PSt := [.wipe [4],
 .for (.nm 9) .rng1 [(.call 11 [(.var 0), (.lst [(.cst (.int 0)), (.cst (.int 0)), (.cst (.int 1)), (.cst (.int 2))])])] b1__law_two_rows,
 .wipe [2, 9, 10, 11],
 .s (.ret (.tup [(.prim .tupleOf [(.var 5)]), (.var 3)]))]
theorem tail_ok (k : Nat) (S : Src) (most n way : Int) (part row : List Int) (h0 : 1 ≤ n) (h1 : n ≤ 99) (hb : Bnd n row) : ∃ (row' : List Int) (S' : Src), Bnd n row' ∧
    pSs (pSem pfs (k + 2)) 2 tailT [some S.d, some (.int most), some (.int n), some (.tuple (part.map .int)), some (.int way), some (.list (row.map .int)), none, none, none, none, none, none] = some (.ret (.tuple [.tuple (row'.map .int), .tuple (part.map .int)]) [some S'.d, some (.int most)]) := by
  obtain ⟨laps, l1, l2⟩ := s_of k S [0, 0, 1, 2] (by decide) (by decide)
  generalize pick S ([0, 0, 1, 2] : List Int).length = q1 at l2
  obtain ⟨z1, S1⟩ := q1
  have lw : 0 ≤ laps ∧ laps ≤ 2 := by
    simp only [List.mem_cons, List.not_mem_nil, or_false] at l1
    omega
  obtain ⟨e', f1, S2, row2, rfl, b2⟩ := pFor_inv (tg := .nm 9) (b := pSs (pSem pfs (k + 2)) 2 b1__law_two_rows) (fun e => ∃ (S : Src) (row : List Int), e = [some S.d, some (.int most), some (.int n), some (.tuple (part.map .int)), none, some (.list (row.map .int)), none, none, none, none, none, none] ∧ Bnd n row) ((rg 0 laps).map .int) _ ⟨S1, row, rfl, hb⟩ (fun x _ e he => by
    obtain ⟨S, row, rfl, hb⟩ := he
    have p1 := s_pick (k + 1) S n (by omega)
    have a0 := pick_lo S n
    have a1 := pick_hi S (many := n) (by omega)
    generalize pick S n = qa at p1 a0 a1
    obtain ⟨a, Sa⟩ := qa
    have p2 := s_pick (k + 1) Sa n (by omega)
    have b0 := pick_lo Sa n
    have b1 := pick_hi Sa (many := n) (by omega)
    generalize pick Sa n = qb at p2 b0 b1
    obtain ⟨b, Sb⟩ := qb
    simp only at p1 a0 a1 p2 b0 b1
    have hl := hb.1
    have g1 := pIdx_l (f := PyData.int) a0 (nth_get (row := row) a0 (by omega))
    have g2 := pIdx_l (f := PyData.int) b0 (nth_get (row := row) b0 (by omega))
    have na := nth_in hb a0 a1
    have nb := nth_in hb b0 b1
    by_cases q : 0 < nth row a ∧ nth row b < 11
    · have hb1 : Bnd n (row.set a.toNat (nth row a - 1)) := set_in hb (by omega) (by omega)
      have g3 := pIdx_l (f := PyData.int) b0 (nth_get (row := row.set a.toNat (nth row a - 1)) (c := b) b0 (by rw [hb1.1]; exact b1))
      have nb1 := nth_in hb1 b0 b1
      have nb2 : nth (row.set a.toNat (nth row a - 1)) b ≤ 12 := by
        have e := nth_get (row := row.set a.toNat (nth row a - 1)) (c := b) b0 (by rw [hb1.1]; exact b1)
        rw [List.getElem?_set] at e
        split at e
        · rename_i z
          split at e
          · have zz : a = b := by omega
            simp only [Option.some.injEq] at e
            rw [← e]
            have := q.2
            rw [← zz] at this
            omega
          · cases e
        · rw [nth_get b0 (by omega)] at e
          simp only [Option.some.injEq] at e
          omega
      have t1 := putAt_of (f := PyData.int) (xs := row) (i := a) (nth row a - 1) a0 (by omega)
      have t2 := putAt_of (f := PyData.int) (xs := row.set a.toNat (nth row a - 1)) (i := b) (nth (row.set a.toNat (nth row a - 1)) b + 1) b0 (by rw [hb1.1]; exact b1)
      have hb2 : Bnd n ((row.set a.toNat (nth row a - 1)).set b.toNat (nth (row.set a.toNat (nth row a - 1)) b + 1)) := set_in hb1 (by omega) (by omega)
      obtain ⟨q1, q2⟩ := q
      refine ⟨[some S.d, some (.int most), some (.int n), some (.tuple (part.map .int)), none, some (.list (row.map .int)), none, none, none, some x, none, none], [some Sb.d, some (.int most), some (.int n), some (.tuple (part.map .int)), none, some (.list (((row.set a.toNat (nth row a - 1)).set b.toNat (nth (row.set a.toNat (nth row a - 1)) b + 1)).map .int)), none, none, none, none, none, none], by simp, .inl ?_, Sb, _, rfl, hb2⟩
      generalize (row.set a.toNat (nth row a - 1)).set b.toNat (nth (row.set a.toNat (nth row a - 1)) b + 1) = R2 at t2 ⊢
      generalize hR1 : row.set a.toNat (nth row a - 1) = R1 at t1 t2 g3
      simp [b1__law_two_rows, p1, p2, g1, g2, q1, q2, putIn, t1, g3, t2]
    · refine ⟨[some S.d, some (.int most), some (.int n), some (.tuple (part.map .int)), none, some (.list (row.map .int)), none, none, none, some x, none, none], [some Sb.d, some (.int most), some (.int n), some (.tuple (part.map .int)), none, some (.list (row.map .int)), none, none, none, none, none, none], by simp, .inl ?_, Sb, row, rfl, hb⟩
      by_cases q1 : 0 < nth row a
      · have q2 : ¬ nth row b < 11 := fun z => q ⟨q1, z⟩
        simp [b1__law_two_rows, p1, p2, g1, g2, q1, q2]
      · simp [b1__law_two_rows, p1, p2, g1, g2, q1])
  refine ⟨row2, S2, b2, ?_⟩
  have r : rgOk 0 laps = true := rgOk_of (by omega) (by omega) (by omega) (by omega)
  simp only [List.map_cons, List.map_nil] at l2
  simp [tailT, l2, r, f1]

theorem s_web (k : Nat) (S : Src) (n share : Int) (h0 : 1 ≤ n) (h1 : n ≤ 99) (hs : share < 1073741824) : ∃ (rs : List (Int × Int)) (S' : Src), rs.Sublist (prs n) ∧ pSem pfs (k + 2) 13 [S.d, .int n, .int share] = some (webD n rs, [S'.d, .int n, .int share]) := by
  obtain ⟨rs, S', h2, h3⟩ := web2_ok (s_pick k) (s_pairs k) S n share h0 (by omega) hs
  exact ⟨rs, S', h2, by rw [pSem_eq pfs (k + 1) 13 _ (F := Lib.pf__law_web2 10 12) rfl]; exact h3⟩
theorem s_deg (k : Nat) {n : Int} {rs : List (Int × Int)} (h0 : 1 ≤ n) (h1 : n ≤ 99) (h : rs.Sublist (prs n)) : ∃ ds : List Int, Bnd n ds ∧ pSem pfs (k + 1) 14 [webD n rs] = some (.tuple (ds.map .int), [webD n rs]) := by
  obtain ⟨ds, a, b, c⟩ := degrees_ok (pSem pfs k) n rs h0 (by omega) (fun p hp => by
    obtain ⟨x, y⟩ := p
    exact mem_prs.mp (h.mem hp)) (by have := prs_len (n := n) (by omega); have := h.length_le; omega)
  exact ⟨ds, ⟨a, b⟩, by rw [pSem_eq pfs k 14 _ (F := Lib.pf__law_degrees) rfl]; exact c⟩
theorem capped {n : Int} {row part : List Int} (hb : Bnd n row) (hl : (part.length : Int) = n) (hp : ∀ x ∈ part, 0 ≤ x) : Bnd n ((row.zip part).map fun p => if p.1 + p.2 < 11 then p.1 + p.2 else 11) := by
  refine ⟨?_, fun x hx => ?_⟩
  · rw [List.length_map, List.length_zip]; have := hb.1; omega
  · obtain ⟨p, hp', rfl⟩ := List.mem_map.mp hx
    obtain ⟨a, b⟩ := p
    have h1 := hb.2 a (List.of_mem_zip hp').1
    have h2 := hp b (List.of_mem_zip hp').2
    show 0 ≤ (if a + b < 11 then a + b else 11) ∧ (if a + b < 11 then a + b else 11) ≤ 20000
    split <;> omega
def headT : List PSt := [
 .s (.asg (.nm 2) (.ite (.prim .eq [(.call 10 [(.var 0), (.cst (.int 3))]), (.cst (.int 0))]) (.prim .add [(.cst (.int 1)), (.call 10 [(.var 0), (.var 1)])]) (.prim .sub [(.var 1), (.call 10 [(.var 0), (.prim .max2 [(.cst (.int 1)), (.prim .fdiv [(.var 1), (.cst (.int 2))])])])]))),
 .s (.par [3, 4] [(.call 16 [(.var 0), (.var 2)]), (.call 10 [(.var 0), (.cst (.int 6))])]),
 .s (.asg (.nm 5) (.prim .listOf [(.call 14 [(.call 13 [(.var 0), (.var 2), (.prim .add [(.cst (.int 2)), (.call 10 [(.var 0), (.cst (.int 3))])])])])]))]
theorem s_two (k : Nat) (S : Src) : ∃ (n low : Int) (row part : List Int) (S' : Src), 1 ≤ n ∧ n ≤ 12 ∧ Bnd n row ∧ (part.length : Int) = n ∧ 0 ≤ low ∧ low ≤ 3 ∧ (∀ x ∈ part, x = low ∨ x = low + 1) ∧
    pSem pfs (k + 4) 18 [S.d, .int 12] = some (.tuple [.tuple (row.map .int), .tuple (part.map .int)], [S'.d, .int 12]) := by
  have hn : ∃ (n : Int) (S1 : Src), 1 ≤ n ∧ n ≤ 12 ∧ pE (pSem pfs (k + 3)) (.ite (.prim .eq [(.call 10 [(.var 0), (.cst (.int 3))]), (.cst (.int 0))]) (.prim .add [(.cst (.int 1)), (.call 10 [(.var 0), (.var 1)])]) (.prim .sub [(.var 1), (.call 10 [(.var 0), (.prim .max2 [(.cst (.int 1)), (.prim .fdiv [(.var 1), (.cst (.int 2))])])])])) [some S.d, some (.int 12), none, none, none, none, none, none, none, none, none, none] = some (.int n, [some S1.d, some (.int 12), none, none, none, none, none, none, none, none, none, none]) := by
    have p1 := s_pick (k + 2) S 3 (by omega)
    generalize pick S 3 = q1 at p1
    obtain ⟨c, S1⟩ := q1
    by_cases q : c = 0
    · have p2 := s_pick (k + 2) S1 12 (by omega)
      have a0 := pick_lo S1 12
      have a1 := pick_hi S1 (many := 12) (by omega)
      generalize pick S1 12 = q2 at p2 a0 a1
      obtain ⟨d, S2⟩ := q2
      exact ⟨1 + d, S2, by simp only at a0; omega, by simp only at a1; omega, by simp [p1, q, p2]⟩
    · have p2 := s_pick (k + 2) S1 6 (by omega)
      have a0 := pick_lo S1 6
      have a1 := pick_hi S1 (many := 6) (by omega)
      generalize pick S1 6 = q2 at p2 a0 a1
      obtain ⟨d, S2⟩ := q2
      exact ⟨12 - d, S2, by simp only at a1; omega, by simp only at a0; omega, by simp [p1, q, p2]⟩
  obtain ⟨n, S1, n1, n2, en⟩ := hn
  obtain ⟨low, part, S2, w1, w2, w3, w4, ep⟩ := s_even k S1 n n1 (by omega)
  have p3 := s_pick (k + 2) S2 6 (by omega)
  generalize pick S2 6 = q3 at p3
  obtain ⟨way, S3⟩ := q3
  have p4 := s_pick (k + 2) S3 3 (by omega)
  have b0 := pick_lo S3 3
  have b1 := pick_hi S3 (many := 3) (by omega)
  generalize pick S3 3 = q4 at p4 b0 b1
  obtain ⟨sh, S4⟩ := q4
  simp only at p3 p4 b0 b1
  obtain ⟨rs, S5, r1, ew⟩ := s_web (k + 1) S4 n (2 + sh) n1 (by omega) (by omega)
  obtain ⟨ds, d1, ed⟩ := s_deg (k + 2) n1 (by omega) r1
  have hp0 : ∀ x ∈ part, 0 ≤ x := fun x hx => by have := w4 x hx; omega
  have fin : ∀ (row : List Int) (S6 : Src), Bnd n row → ∃ (row' : List Int) (S' : Src), Bnd n row' ∧
      pSs (pSem pfs (k + 3)) 2 tailT [some S6.d, some (.int 12), some (.int n), some (.tuple (part.map .int)), some (.int way), some (.list (row.map .int)), none, none, none, none, none, none] = some (.ret (.tuple [.tuple (row'.map .int), .tuple (part.map .int)]) [some S'.d, some (.int 12)]) := fun row S6 hb => tail_ok (k + 1) S6 12 n way part row n1 (by omega) hb
  have e0 : pfs[18]? = some ⟨[false, false], 12, headT ++ [.ite (.prim .lt [(.var 4), (.cst (.int 2))]) [.s (.asg (.nm 5) q1__law_two_rows)] [], .ite (.prim .eq [(.var 4), (.cst (.int 2))]) [.s (.asg (.nm 5) q2__law_two_rows)] []] ++ tailT⟩ := rfl
  by_cases q1 : way < 2
  · obtain ⟨row', S', hb', et⟩ := fin _ S5 (capped d1 w3 hp0)
    refine ⟨n, low, row', part, S', n1, n2, hb', w3, w1, w2, w4, ?_⟩
    have q2 : ¬ way = 2 := by omega
    have c := comp_all (C := pSem pfs (k + 3)) (q := q1__law_two_rows) rfl (env := [some S5.d, some (.int 12), some (.int n), some (.tuple (part.map .int)), some (.int way), some (.list (ds.map .int)), none, none, none, none, none, none]) (ds.zip part) pD (fun p => .int (if p.1 + p.2 < 11 then p.1 + p.2 else 11)) (by simp [pIts, zipD_ints]; rfl) (by rw [List.length_zip, big_eq]; omega) (fun p _ =>
      ⟨[some S5.d, some (.int 12), some (.int n), some (.tuple (part.map .int)), some (.int way), some (.list (ds.map .int)), some (.int p.1), some (.int p.2), none, none, none, none], by simp [pD], by simp, by simp⟩)
    have e1 : (ds.zip part).map (fun p => PyData.int (if p.1 + p.2 < 11 then p.1 + p.2 else 11)) = ((ds.zip part).map fun p => if p.1 + p.2 < 11 then p.1 + p.2 else 11).map .int := by rw [List.map_map]; rfl
    rw [e1] at c
    rw [pSem_eq pfs (k + 3) 18 _ e0, pRun_eq _ _ _ (by rfl)]
    generalize (ds.zip part).map (fun p => if p.1 + p.2 < 11 then p.1 + p.2 else 11) = R at c et
    simp [headT, en, ep, p3, p4, ew, ed, q1, q2, c, et]
  · by_cases q2 : way = 2
    · subst q2
      obtain ⟨ys, S6, j1, j2, _⟩ := comp_each (C := pSem pfs (k + 3)) (q := q2__law_two_rows) rfl (fun S : Src => [some S.d, some (.int 12), some (.int n), some (.tuple (part.map .int)), some (.int 2), some (.list (ds.map .int)), none, none, none, none, none, none]) (fun _ => True) (fun (_ y : Int) => 0 ≤ y ∧ y < n) (rg 0 n) PyData.int PyData.int S5 (env := [some S5.d, some (.int 12), some (.int n), some (.tuple (part.map .int)), some (.int 2), some (.list (ds.map .int)), none, none, none, none, none, none]) (env1 := [some S5.d, some (.int 12), some (.int n), some (.tuple (part.map .int)), some (.int 2), some (.list (ds.map .int)), none, none, none, none, none, none])
        (by simp [pIts, rgOk_of (a := 0) (b := n) (by omega) (by omega) (by omega) (by omega)]) (by rw [len_rg, big_eq]; omega) (by simp) trivial (fun x _ S _ => by
          have hc := s_pick (k + 2) S n (by omega)
          have a0 := pick_lo S n
          have a1 := pick_hi S (many := n) (by omega)
          exact ⟨_, (pick S n).2, (pick S n).1, [some (pick S n).2.d, some (.int 12), some (.int n), some (.tuple (part.map .int)), some (.int 2), some (.list (ds.map .int)), none, none, some (.int x), none, none, none], by simp; rfl, trivial, ⟨a0, a1⟩, by simp [hc], by simp⟩)
      have hb : Bnd n ys := ⟨by rw [← j1.len, len_rg]; omega, fun y hy => by have := j1.right (fun _ _ q => q) y hy; omega⟩
      obtain ⟨row', S', hb', et⟩ := fin ys S6 hb
      refine ⟨n, low, row', part, S', n1, n2, hb', w3, w1, w2, w4, ?_⟩
      rw [pSem_eq pfs (k + 3) 18 _ e0, pRun_eq _ _ _ (by rfl)]
      simp [headT, en, ep, p3, p4, ew, ed, q1, j2, et]
    · obtain ⟨row', S', hb', et⟩ := fin ds S5 d1
      refine ⟨n, low, row', part, S', n1, n2, hb', w3, w1, w2, w4, ?_⟩
      rw [pSem_eq pfs (k + 3) 18 _ e0, pRun_eq _ _ _ (by rfl)]
      simp [headT, en, ep, p3, p4, ew, ed, q1, q2, et]

/-! ### a turn of the law -/
theorem less_rep (row : List Int) (m : Int) : less row (rep row.length m) = row.map fun x => x - m := by
  unfold less rep
  induction row with
  | nil => rfl
  | cons x xs ih => simp [List.replicate_succ, ih]
theorem near_part {low : Int} {part : List Int} (h : part ≠ []) (hp : ∀ x ∈ part, x = low ∨ x = low + 1) : near part = true := by
  have a := hp _ (hi_mem h)
  have b := hp _ (lo_mem h)
  unfold near
  rw [decide_eq_true_eq]
  omega
theorem due_run (k : Nat) {row rest : List Int} (h0 : row ≠ []) (h1 : row.length ≤ 99) (hl : rest.length = row.length) (hr : (∀ x ∈ rest, 0 ≤ x) → ∀ x ∈ row, 0 ≤ x) :
    0 ≤ lo rest → pSem pfs (k + 1) 15 [.tuple (row.map .int)] = some (.bool (lHas row), [.tuple (row.map .int)]) ∧ pSem pfs (k + 1) 15 [.tuple (rest.map .int)] = some (.bool (lHas rest), [.tuple (rest.map .int)]) := fun q => by
  have r : ∀ x ∈ rest, 0 ≤ x := fun x hx => by have := lo_le x hx; omega
  have n : rest ≠ [] := fun z => by rw [z] at hl; exact h0 (List.eq_nil_of_length_eq_zero hl.symm)
  exact ⟨s_lhw k row h0 (hr r) h1, s_lhw k rest n r (by omega)⟩

theorem row_repr {rest : List Int} (b : Bool) (hl : rest.length ≤ 99) (hr : ∀ x ∈ rest, -30000 ≤ x ∧ x ≤ 30000) : pRepr (.list [.tuple (rest.map .int), .bool b]) = some (.str (PyData.shown (.list [.tuple (rest.map .int), .bool b]))) ∧ rOk (.list [.tuple (rest.map .int), .bool b]) = true := by
  have o : rOkAll (rest.map .int) = true := rOkAll_map fun x hx => by have := hr x hx; simp only [rOk, decide_eq_true_eq]; omega
  have ok : rOk (.list [.tuple (rest.map .int), .bool b]) = true := by simp [rOk, rOkAll, o]
  have z : rszAll (rest.map PyData.int) ≤ rest.length * (30 + 2) := rszAll_map fun x hx => by simp [rsz]
  refine ⟨pRepr_ok ?_ ok ?_, ok⟩
  · have : chkAll 18 (rest.map PyData.int) = true := chkAll_map 18 (by decide) rest
    simp [chk, chkAll, this]
  · simp only [rsz, rszAll]
    have : big = 1000000 := rfl
    omega

theorem bool_repr (b : Bool) : pRepr (.bool b) = some (.str (PyData.shown (.bool b))) := pRepr_ok rfl rfl (by simp [rsz, big])
theorem k_turn (L : D) (S : Src) (row : List Int) (h0 : row ≠ []) (h1 : row.length ≤ 99) (m : Int) (hm : 0 ≤ m) :
    pSs (pSem pfs 6) 1 b1_law [some L, some S.d, none, some (.tuple (row.map .int)), none, none, none, some (.int m), none, none] = some (.next [some L, some S.d, none, some (.tuple (row.map .int)), none, none, none, none, none, none]) := by
  have c1 := comp_all (C := pSem pfs 6) (q := q1_law) rfl (env := [some L, some S.d, none, some (.tuple (row.map .int)), none, none, none, some (.int m), none, none]) row PyData.int (fun x => .int (x - m)) (by simp [pIts]; rfl) (by rw [big_eq]; omega) (fun x _ =>
    ⟨[some L, some S.d, none, some (.tuple (row.map .int)), none, none, none, some (.int m), none, some (.int x)], by simp, by simp, by simp⟩)
  have e1 : row.map (fun x => PyData.int (x - m)) = (row.map fun x => x - m).map .int := by rw [List.map_map]; rfl
  rw [e1] at c1
  have hl : (row.map fun x => x - m).length = row.length := List.length_map ..
  have hn : (row.map fun x => x - m) ≠ [] := fun z => by rw [z] at hl; exact h0 (List.eq_nil_of_length_eq_zero hl.symm)
  have hw : (∀ x ∈ (row.map fun x => x - m), 0 ≤ x) → ∀ x ∈ row, 0 ≤ x := fun r x hx => by
    have := r (x - m) (List.mem_map.mpr ⟨x, hx, rfl⟩)
    omega
  have c15 := due_run 5 h0 h1 hl hw
  have c8 := s_ch 0 row m h0 h1
  have c7 := s_chr 1 row (rep row.length m) (rep_len ..).symm h0 h1
  have c2 := p_rep m h1
  have ed := due_eq (row := row) (part := rep row.length m) (rep_len ..).symm h0 (fun x hx => by have := List.eq_of_mem_replicate hx; omega)
  rw [less_rep] at ed
  rw [ed] at c8 c7
  have l := p_lo hn
  unfold due at c7 c8
  generalize (row.map fun x => x - m) = rest at c1 c15 l c7 c8
  generalize rep row.length m = R at c2 c7
  have rt := bool_repr true
  have rf := bool_repr false
  have et := pEq_shown (d := .bool true) rfl
  have ef := pEq_shown (d := .bool false) rfl
  by_cases q : 0 ≤ lo rest
  · obtain ⟨a, b⟩ := c15 q
    cases hA : lHas row <;> cases hB : lHas rest <;> simp only [hA, hB, q, decide_true, Bool.and_true, Bool.and_false, Bool.true_and, Bool.false_and] at a b c7 c8 <;> simp [b1_law, c1, l, q, a, b, c8, c2, c7, rt, rf, et, ef, -pm_minL]
  · simp only [q, decide_false, Bool.false_and] at c7 c8
    simp [b1_law, c1, l, q, c8, c2, c7, rt, rf, et, ef, -pm_minL]

theorem two_repr (b : Bool) : pRepr (.list [.bool b, .bool true]) = some (.str (PyData.shown (.list [.bool b, .bool true]))) := pRepr_ok rfl rfl (by simp [rsz, rszAll, big])
theorem lap_ok (L : D) (S : Src) (x : D) : ∃ S' : Src, pSs (pSem pfs 6) 1 b2_law [some L, some S.d, some x, none, none, none, none, none, none, none] = some (.next [some L, some S'.d, none, none, none, none, none, none, none, none]) := by
  obtain ⟨n, low, row, part, S1, n1, n2, hb, hp, l0, l3, hlow, c18⟩ := s_two 2 S
  have hl : row.length = part.length := by have := hb.1; omega
  have h1 : row.length ≤ 99 := by have := hb.1; omega
  have h0 : row ≠ [] := fun z => by have := hb.1; rw [z] at this; simp at this; omega
  have h0' : part ≠ [] := fun z => by rw [z] at hp; simp at hp; omega
  have hp0 : ∀ y ∈ part, 0 ≤ y := fun y hy => by have := hlow y hy; omega
  have c17 := s_lless 5 row part hl h1
  have c6 := s_less 5 row part hl h1
  have c5 := s_near 5 h0
  have c5' := s_near 5 h0'
  rw [near_part h0' hlow] at c5'
  have c7 := s_chr 1 row part hl h0 h1
  rw [due_eq hl h0 hp0] at c7
  have ln := less_len hl
  have bd : ∀ y ∈ less row part, -30000 ≤ y ∧ y ≤ 30000 := fun y hy => by
    obtain ⟨p, hp', rfl⟩ := List.mem_map.mp hy
    obtain ⟨a, b⟩ := p
    have z1 := hb.2 a (List.of_mem_zip hp').1
    have z2 := hlow b (List.of_mem_zip hp').2
    show -30000 ≤ a - b ∧ a - b ≤ 30000
    omega
  have hw : (∀ y ∈ less row part, 0 ≤ y) → ∀ y ∈ row, 0 ≤ y := fun _ y hy => (hb.2 y hy).1
  have c15 := due_run 5 h0 h1 ln hw
  have hn : less row part ≠ [] := fun z => by rw [z] at ln; exact h0 (List.eq_nil_of_length_eq_zero ln.symm)
  have pl := p_lo hn
  have rl := p_lo h0
  have rh := p_hi h0
  unfold near at c5
  obtain ⟨r1, o1⟩ := row_repr (rest := less row part) (decide (hi row - lo row < 2)) (by omega) bd
  have r2 := pEq_shown o1
  have p12 := s_pick 5 S1 12 (by omega)
  have q0 := pick_lo S1 12
  generalize pick S1 12 = qq at p12 q0
  obtain ⟨m, S2⟩ := qq
  simp only at p12 q0
  obtain ⟨e', f1, rfl⟩ := pFor_inv (tg := .nm 7) (b := pSs (pSem pfs 6) 1 b1_law) (fun e => e = [some L, some S2.d, none, some (.tuple (row.map .int)), none, none, none, none, none, none]) [.int 0, .int 1, .int m] _ rfl (fun y hy e he => by
    subst he
    have hk : ∃ j, y = .int j ∧ 0 ≤ j := by
      simp only [List.mem_cons, List.not_mem_nil, or_false] at hy
      rcases hy with rfl | rfl | rfl
      · exact ⟨0, rfl, by omega⟩
      · exact ⟨1, rfl, by omega⟩
      · exact ⟨m, rfl, q0⟩
    obtain ⟨j, rfl, hj⟩ := hk
    exact ⟨[some L, some S2.d, none, some (.tuple (row.map .int)), none, none, none, some (.int j), none, none], _, by simp, .inl (k_turn L S2 row h0 h1 j hj), rfl⟩)
  refine ⟨S2, ?_⟩
  unfold due at c7
  have t1 := two_repr true
  have t2 := two_repr false
  have t3 := pEq_shown (d := .list [.bool true, .bool true]) rfl
  have t4 := pEq_shown (d := .list [.bool false, .bool true]) rfl
  generalize less row part = rest at c17 c6 c7 c15 pl r1 r2
  by_cases q : 0 ≤ lo rest
  · obtain ⟨a, b⟩ := c15 q
    cases hA : lHas row <;> cases hB : lHas rest <;> simp only [hA, hB, q, decide_true, Bool.and_true, Bool.and_false, Bool.true_and, Bool.false_and] at a b c7 <;> simp [b2_law, c18, c17, c6, c5, c5', rl, rh, r1, r2, pl, q, a, b, c7, t1, t2, t3, t4, p12, f1, -pm_minL, -pm_maxL]
  · simp only [q, decide_false, Bool.false_and] at c7
    simp [b2_law, c18, c17, c6, c5, c5', rl, rh, r1, r2, pl, q, c7, t1, t2, t3, t4, p12, f1, -pm_minL, -pm_maxL]
theorem sort_same {xs : List Int} (h : xs.Pairwise fun a b => (decide (a ≤ b)) = true) : sortI xs = xs := List.mergeSort_of_pairwise h
theorem law_pure (ns : List Int) (h : ns.length ≤ 63) : ∃ fs, pSem pfs 7 19 [.list (ns.map .int)] = some (.bool true, fs) := by
  obtain ⟨S, c1⟩ := source_ok (pSem pfs 5) ns h
  have c1 : pSem pfs 6 9 [.list (ns.map .int)] = some (S.d, [.list (ns.map .int)]) := by
    rw [pSem_eq pfs 5 9 _ (F := Lib.pf__law_source) rfl]; exact c1
  obtain ⟨e', f1, S2, rfl⟩ := pFor_inv (tg := .nm 2) (b := pSs (pSem pfs 6) 1 b2_law) (fun e => ∃ S : Src, e = [some (.list (ns.map .int)), some S.d, none, none, none, none, none, none, none, none]) ((rg 0 6).map .int) _ ⟨S, rfl⟩ (fun y hy e he => by
    obtain ⟨S, rfl⟩ := he
    obtain ⟨S', e2⟩ := lap_ok (.list (ns.map .int)) S y
    exact ⟨[some (.list (ns.map .int)), some S.d, some y, none, none, none, none, none, none, none], _, by simp, .inl e2, S', rfl⟩)
  have hg : rgOk 0 6 = true := by decide
  have d1 := s_ch 0 [2, 2, 2, 2] 1 (by decide) (by decide)
  have d2 := s_ch 0 [3, 3, 2, 2, 2] 1 (by decide) (by decide)
  have e1 : canHold [2, 2, 2, 2] (rep 4 1) = true := by
    rw [due_eq (by decide) (by decide) (by decide)]
    have s1 : sortI [2, 2, 2, 2] = [2, 2, 2, 2] := sort_same (by decide)
    have s2 : sortI [1, 1, 1, 1] = [1, 1, 1, 1] := sort_same (by decide)
    have z : less [2, 2, 2, 2] (rep 4 1) = [1, 1, 1, 1] := by decide
    rw [z]
    unfold due lHas fallV
    rw [s1, s2]
    decide
  have e2 : canHold [3, 3, 2, 2, 2] (rep 5 1) = false := by
    rw [due_eq (by decide) (by decide) (by decide)]
    have z : less [3, 3, 2, 2, 2] (rep 5 1) = [2, 2, 1, 1, 1] := by decide
    rw [z]
    unfold due
    have : lHas [2, 2, 1, 1, 1] = false := by
      unfold lHas
      rw [show decide (([2, 2, 1, 1, 1] : List Int).sum % 2 = 0) = false by decide]
      rfl
    rw [this]
    simp
  have e1' : canHold [2, 2, 2, 2] (rep ([2, 2, 2, 2] : List Int).length 1) = true := e1
  have e2' : canHold [3, 3, 2, 2, 2] (rep ([3, 3, 2, 2, 2] : List Int).length 1) = false := e2
  rw [e1'] at d1
  rw [e2'] at d2
  simp only [List.map_cons, List.map_nil] at d1 d2
  rw [pSem_eq pfs 6 19 _ (F := pf_law) rfl, pRun_eq _ _ _ (by rfl)]
  refine ⟨[.list (ns.map .int)], ?_⟩
  simp [pf_law, c1, hg, f1, d1, d2]
end Ev.k75
set_option maxRecDepth 100000
set_option maxHeartbeats 4000000
/-! How the top stands for the law; printed by asm.py. -/
namespace Ev.k75
open PySem PySem.Spec PyProof.Rows L2 Ev

instance tb0 : Tb := ⟨[(21, "greatest_lot.<locals>.<lambda>")]⟩
def cs0 : List (Addr × Addr) := [(25, 21)]
theorem binds : ∀ d ∈ defs, BindsD d :=
  fcons (fun _ _ _ _ _ _ us hl => match us, hl with | [_, _], _ => rfl) <|
  fcons (fun _ _ _ _ _ _ us hl => match us, hl with | [_, _], _ => rfl) <|
  fcons (fun _ _ _ _ _ _ us hl => match us, hl with | [_], _ => rfl) <|
  fcons (fun _ _ _ _ _ _ us hl => match us, hl with | [_], _ => rfl) <|
  fcons (fun _ _ _ _ _ _ us hl => match us, hl with | [_], _ => rfl) <|
  fcons (fun _ _ _ _ _ _ us hl => match us, hl with | [_], _ => rfl) <|
  fcons (fun _ _ _ _ _ _ us hl => match us, hl with | [_, _], _ => rfl) <|
  fcons (fun _ _ _ _ _ _ us hl => match us, hl with | [_, _], _ => rfl) <|
  fcons (fun _ _ _ _ _ _ us hl => match us, hl with | [_, _], _ => rfl) <|
  fcons (fun _ _ _ _ _ _ us hl => match us, hl with | [_], _ => rfl) <|
  fcons (fun _ _ _ _ _ _ us hl => match us, hl with | [_, _], _ => rfl) <|
  fcons (fun _ _ _ _ _ _ us hl => match us, hl with | [_, _], _ => rfl) <|
  fcons (fun _ _ _ _ _ _ us hl => match us, hl with | [_], _ => rfl) <|
  fcons (fun _ _ _ _ _ _ us hl => match us, hl with | [_, _, _], _ => rfl) <|
  fcons (fun _ _ _ _ _ _ us hl => match us, hl with | [_], _ => rfl) <|
  fcons (fun _ _ _ _ _ _ us hl => match us, hl with | [_], _ => rfl) <|
  fcons (fun _ _ _ _ _ _ us hl => match us, hl with | [_, _], _ => rfl) <|
  fcons (fun _ _ _ _ _ _ us hl => match us, hl with | [_, _], _ => rfl) <|
  fcons (fun _ _ _ _ _ _ us hl => match us, hl with | [_, _], _ => rfl) <|
  fcons (fun _ _ _ _ _ _ us hl => match us, hl with | [_], _ => rfl) <|
  fnil

theorem law_true (ns : List Int) (h : ns.length ≤ 63) : ∃ o fin, semF (defs.map (·.F)) 7 19 [⟨.list (ns.map .int), .frz⟩] = some (.bool true, o, fin) := by
  obtain ⟨fs, h⟩ := law_pure ns h
  have a : (looks.any fun s => decide (s.f = 19) && aLe [⟨.l .i, fF, true⟩] s.ps) = true := by decide +kernel
  obtain ⟨s, hs, q⟩ := List.any_eq_true.mp a
  simp only [Bool.and_eq_true, decide_eq_true_eq] at q
  have := law_flags (T := looks) (P := pfs) looks_ok ⟨s, hs, q.1, q.2⟩ h
  exact this
theorem asm : PySem.Challenge.rw_factorwebs_k75_parts_and_what_can_be_hel.Holds := by
  w_on; o_law; k_head; (case hw => w_witness2)
  k_fill
  refine Ev.walk_ofT (l := PySem.Challenge.rw_factorwebs_k75_parts_and_what_can_be_hel) (n := 63) (k := 7) (cs := cs0) (x := "script") (sp := fun K => spF K (semF (defs.map (·.F)) 7) 19 1) rfl (by decide) rfl ⟨rfl, by decide, by decide⟩ (fun w h Y => ⟨PySem.W.km_in_of Y, fcons (PySem.W.km_tabs_of Y 21 (by decide)) <| fnil⟩) ?C ?F (fun K0 H a ns hl hT hr => sp_law hr (tabs_nil (cs := cs0) (by decide) hT) (law_true ns hl))
  case C =>
    intro w
    refine fcons ⟨by kernel_rfl, by kernel_rfl⟩ ?_
    exact fnil
  case F =>
    intro w mg fa h KX G hmg
    refine Ev.fin_of (i := 19) (k := 7) (d := df_law) (p := "script") (cs := cs0) ck binds rfl rfl rfl ?A ?Z hmg
    case A =>
      refine' fcons (fun_at KX G ?a0 ?l0 ?c0 ?k0 ?L0) ?r0
      (case a0 => k_is); (case l0 => k_is); (case c0 => k_is); (case k0 => k_is); (case L0 => exact fun h => by cases h)
      refine' fcons (fun_at KX G ?a1 ?l1 ?c1 ?k1 ?L1) ?r1
      (case a1 => k_is); (case l1 => k_is); (case c1 => k_is); (case k1 => k_is); (case L1 => exact fun _ => ⟨(25, 21), by decide, rfl, by decide +kernel, by decide +kernel⟩)
      refine' fcons (fun_at KX G ?a2 ?l2 ?c2 ?k2 ?L2) ?r2
      (case a2 => k_is); (case l2 => k_is); (case c2 => k_is); (case k2 => k_is); (case L2 => exact fun h => by cases h)
      refine' fcons (fun_at KX G ?a3 ?l3 ?c3 ?k3 ?L3) ?r3
      (case a3 => k_is); (case l3 => k_is); (case c3 => k_is); (case k3 => k_is); (case L3 => exact fun h => by cases h)
      refine' fcons (fun_at KX G ?a4 ?l4 ?c4 ?k4 ?L4) ?r4
      (case a4 => k_is); (case l4 => k_is); (case c4 => k_is); (case k4 => k_is); (case L4 => exact fun h => by cases h)
      refine' fcons (fun_at KX G ?a5 ?l5 ?c5 ?k5 ?L5) ?r5
      (case a5 => k_is); (case l5 => k_is); (case c5 => k_is); (case k5 => k_is); (case L5 => exact fun h => by cases h)
      refine' fcons (fun_at KX G ?a6 ?l6 ?c6 ?k6 ?L6) ?r6
      (case a6 => k_is); (case l6 => k_is); (case c6 => k_is); (case k6 => k_is); (case L6 => exact fun h => by cases h)
      refine' fcons (fun_at KX G ?a7 ?l7 ?c7 ?k7 ?L7) ?r7
      (case a7 => k_is); (case l7 => k_is); (case c7 => k_is); (case k7 => k_is); (case L7 => exact fun h => by cases h)
      refine' fcons (fun_at KX G ?a8 ?l8 ?c8 ?k8 ?L8) ?r8
      (case a8 => k_is); (case l8 => k_is); (case c8 => k_is); (case k8 => k_is); (case L8 => exact fun h => by cases h)
      refine' fcons (fun_at KX G ?a9 ?l9 ?c9 ?k9 ?L9) ?r9
      (case a9 => k_is); (case l9 => k_is); (case c9 => k_is); (case k9 => k_is); (case L9 => exact fun h => by cases h)
      refine' fcons (fun_at KX G ?a10 ?l10 ?c10 ?k10 ?L10) ?r10
      (case a10 => k_is); (case l10 => k_is); (case c10 => k_is); (case k10 => k_is); (case L10 => exact fun h => by cases h)
      refine' fcons (fun_at KX G ?a11 ?l11 ?c11 ?k11 ?L11) ?r11
      (case a11 => k_is); (case l11 => k_is); (case c11 => k_is); (case k11 => k_is); (case L11 => exact fun h => by cases h)
      refine' fcons (fun_at KX G ?a12 ?l12 ?c12 ?k12 ?L12) ?r12
      (case a12 => k_is); (case l12 => k_is); (case c12 => k_is); (case k12 => k_is); (case L12 => exact fun h => by cases h)
      refine' fcons (fun_at KX G ?a13 ?l13 ?c13 ?k13 ?L13) ?r13
      (case a13 => k_is); (case l13 => k_is); (case c13 => k_is); (case k13 => k_is); (case L13 => exact fun h => by cases h)
      refine' fcons (fun_at KX G ?a14 ?l14 ?c14 ?k14 ?L14) ?r14
      (case a14 => k_is); (case l14 => k_is); (case c14 => k_is); (case k14 => k_is); (case L14 => exact fun h => by cases h)
      refine' fcons (fun_at KX G ?a15 ?l15 ?c15 ?k15 ?L15) ?r15
      (case a15 => k_is); (case l15 => k_is); (case c15 => k_is); (case k15 => k_is); (case L15 => exact fun h => by cases h)
      refine' fcons (fun_at KX G ?a16 ?l16 ?c16 ?k16 ?L16) ?r16
      (case a16 => k_is); (case l16 => k_is); (case c16 => k_is); (case k16 => k_is); (case L16 => exact fun h => by cases h)
      refine' fcons (fun_at KX G ?a17 ?l17 ?c17 ?k17 ?L17) ?r17
      (case a17 => k_is); (case l17 => k_is); (case c17 => k_is); (case k17 => k_is); (case L17 => exact fun h => by cases h)
      refine' fcons (fun_at KX G ?a18 ?l18 ?c18 ?k18 ?L18) ?r18
      (case a18 => k_is); (case l18 => k_is); (case c18 => k_is); (case k18 => k_is); (case L18 => exact fun h => by cases h)
      refine' fcons (fun_at KX G ?a19 ?l19 ?c19 ?k19 ?L19) ?r19
      (case a19 => k_is); (case l19 => k_is); (case c19 => k_is); (case k19 => k_is); (case L19 => exact fun h => by cases h)
      exact fnil
    case Z =>
      refine' fcons (PySem.W.mg_none_of KX G ?z0) ?s0
      (case z0 => k_is)
      refine' fcons (PySem.W.mg_none_of KX G ?z1) ?s1
      (case z1 => k_is)
      refine' fcons (PySem.W.mg_none_of KX G ?z2) ?s2
      (case z2 => k_is)
      refine' fcons (PySem.W.mg_none_of KX G ?z3) ?s3
      (case z3 => k_is)
      refine' fcons (PySem.W.mg_none_of KX G ?z4) ?s4
      (case z4 => k_is)
      refine' fcons (PySem.W.mg_none_of KX G ?z5) ?s5
      (case z5 => k_is)
      refine' fcons (PySem.W.mg_none_of KX G ?z6) ?s6
      (case z6 => k_is)
      refine' fcons (PySem.W.mg_none_of KX G ?z7) ?s7
      (case z7 => k_is)
      refine' fcons (PySem.W.mg_none_of KX G ?z8) ?s8
      (case z8 => k_is)
      refine' fcons (PySem.W.mg_none_of KX G ?z9) ?s9
      (case z9 => k_is)
      refine' fcons (PySem.W.mg_none_of KX G ?z10) ?s10
      (case z10 => k_is)
      refine' fcons (PySem.W.mg_none_of KX G ?z11) ?s11
      (case z11 => k_is)
      refine' fcons (PySem.W.mg_none_of KX G ?z12) ?s12
      (case z12 => k_is)
      exact fnil
end Ev.k75
set_option maxRecDepth 100000 in
set_option maxHeartbeats 8000000 in
theorem PySem.Challenge.cw_factorwebs_k75_parts_and_what_can_be_hel_holds : PySem.Challenge.rw_factorwebs_k75_parts_and_what_can_be_hel.Holds := by
  exact Ev.k75.asm
